import PyProof.Rows.All
import Wide.All
import OpenK.AllK
import Wide.FinOn
import HandS.ForMost
import HandS.ForExc
import HandS.Wide
import HandS.Deep
import HandS.TupAny
import HandS.Gcd
import HandS.IsInst
import HandS.Rev
import HandS.Style
import HandS.Strs
import HandS.SetBool
import KE.SortData
import KE.DataMinMax
import PyProof.ReprRoads
import HandS.TupSets
import HandS.Conv
import HandS.Comp
import PyProof.MaxThree
import HandS.More
import HandS.ExcIs
import HandS.Text
import HandS.FStr
import HandS.SuiteRaise
import HandS.RaiseFrom
import HandS.Flow
import PySem.Challenge.RW_spotincommon_k72_fractions_fields_and_la
set_option Elab.async false
set_option linter.all false
set_option maxRecDepth 100000
set_option autoImplicit false
/-! DL1: data, the ghost heap, slots, the judgements. -/
namespace DL
open PySem PySem.Spec PyProof.Rows L2

/-! ### outcomes -/
inductive Out (α : Type) where
  | no
  | ex (c : Str)
  | ok (a : α)
namespace Out
variable {α β γ : Type}
@[inline] def bnd (o : Out α) (f : α → Out β) : Out β := match o with
  | .no => .no
  | .ex c => .ex c
  | .ok a => f a
instance : Monad Out where
  pure := .ok
  bind := Out.bnd
@[simp] theorem ok_bind (a : α) (f : α → Out β) : (Out.ok a >>= f) = f a := rfl
@[simp] theorem no_bind (f : α → Out β) : ((Out.no : Out α) >>= f) = .no := rfl
@[simp] theorem ex_bind (c : Str) (f : α → Out β) : ((Out.ex c : Out α) >>= f) = .ex c := rfl
@[simp] theorem pure_ok (a : α) : (pure a : Out α) = .ok a := rfl
theorem bind_assoc (o : Out α) (f : α → Out β) (g : β → Out γ) : (o >>= f) >>= g = o >>= fun a => f a >>= g := by
  cases o <;> rfl
end Out

/-! ### data -/
abbrev Ks := List (Key × PyData)
/-- what a slot that is still changed holds -/
inductive Ob where
  | lst (ds : List PyData)
  | dic (kvs : Ks)
inductive Sl where
  | un
  | sh (d : PyData)
  | own (b : Ob)
abbrev Ro := List Sl

/-- a list that is only read, by len and items (the script): told as data by a mark of our own -/
abbrev roD (ds : List PyData) : PyData := .dict [(.none, .list ds)]
/-! what stands for a datum -/
mutual
inductive Dq (K : PySem.W.Frag) (H : Hp) : V → PyData → Prop
  | non : Dq K H .non .none
  | bl (b : Bool) : Dq K H (.bl b) (.bool b)
  | int (i : Int) : Dq K H (.int i) (.int i)
  | str (x : Str) : Dq K H (.str x) (.str x)
  | lst {a : Addr} {xs : List V} {ds : List PyData} : Rd H a (.lst xs) → DqAll K H xs ds → Dq K H (.ref a) (.list ds)
  | tup {a : Addr} {xs : List V} {ds : List PyData} : SqT K H a xs → DqAll K H xs ds → Dq K H (.ref a) (.tuple ds)
  | ro {a : Addr} {xs : List V} {ds : List PyData} : SqL K H a xs → DqAll K H xs ds → Dq K H (.ref a) (roD ds)
inductive DqAll (K : PySem.W.Frag) (H : Hp) : List V → List PyData → Prop
  | nil : DqAll K H [] []
  | cons {v : V} {vs : List V} {d : PyData} {ds : List PyData} : Dq K H v d → DqAll K H vs ds → DqAll K H (v :: vs) (d :: ds)
end
mutual
theorem dq_dp {K : PySem.W.Frag} {H : Hp} : ∀ {v : V} {d : PyData}, d.canLay0 = true → Dq K H v d → Dp K H v d
  | _, _, _, .non => .non
  | _, _, _, .bl b => .bl b
  | _, _, _, .int i => .int i
  | _, _, _, .str x => .str x
  | _, _, c, .lst h1 h2 => .lst (.inl h1) (dqAll_dp (by simpa [PyData.canLay0] using c) h2)
  | _, _, c, .tup h1 h2 => .tup h1 (dqAll_dp (by simpa [PyData.canLay0] using c) h2)
  | _, _, c, .ro _ _ => by simp [PyData.canLay0] at c
theorem dqAll_dp {K : PySem.W.Frag} {H : Hp} : ∀ {vs : List V} {ds : List PyData}, PyData.canLayAll0 ds = true → DqAll K H vs ds → DpAll K H vs ds
  | _, _, _, .nil => .nil
  | _, _, c, .cons h1 h2 => by
    rw [PyData.canLayAll0, Bool.and_eq_true] at c
    exact .cons (dq_dp c.1 h1) (dqAll_dp c.2 h2)
end
theorem rd_mono {G G' : Hp} (e : Same G G') {a : Addr} {u : HO} (h : Rd G a u) : Rd G' a u := by
  rcases h with h | ⟨o, h⟩
  · exact .inl (e _ _ h)
  · exact .inr ⟨o, e _ _ h⟩
section mono
variable {K : PySem.W.Frag} {G G' H H' : Hp}
theorem Same.seqT (e : Same G G') {a : Addr} {xs : List V} (h : SqT K G a xs) : SqT K G' a xs := by
  rcases h with (h | ⟨o, h⟩) | h
  · exact .inl (.inl (e _ _ h))
  · exact .inl (.inr ⟨o, e _ _ h⟩)
  · exact .inr h
mutual
theorem dp_mono (e : Same G G') : ∀ {v : V} {d : PyData}, Dq K G v d → Dq K G' v d
  | _, _, .non => .non
  | _, _, .bl b => .bl b
  | _, _, .int i => .int i
  | _, _, .str x => .str x
  | _, _, .lst h1 h2 => .lst (rd_mono e h1) (dpAll_mono e h2)
  | _, _, .tup h1 h2 => .tup (Same.seqT e h1) (dpAll_mono e h2)
  | _, _, .ro h1 h2 => .ro (e.seq h1) (dpAll_mono e h2)
theorem dpAll_mono (e : Same G G') : ∀ {vs : List V} {ds : List PyData}, DqAll K G vs ds → DqAll K G' vs ds
  | _, _, .nil => .nil
  | _, _, .cons h1 h2 => .cons (dp_mono e h1) (dpAll_mono e h2)
end
theorem dpAll_len : ∀ {vs : List V} {ds : List PyData}, DqAll K G vs ds → vs.length = ds.length
  | _, _, .nil => rfl
  | _, _, .cons _ h => by rw [List.length_cons, List.length_cons, dpAll_len h]
theorem dpAll_get : ∀ {vs : List V} {ds : List PyData} {i : Nat} {v : V}, DqAll K G vs ds → vs[i]? = some v → ∃ d, ds[i]? = some d ∧ Dq K G v d
  | _, _, _, _, .nil, e => by simp at e
  | _, _, 0, _, .cons h _, e => by simp at e; subst e; exact ⟨_, rfl, h⟩
  | _, _, i + 1, v, .cons _ t, e => by
    obtain ⟨d, h1, h2⟩ := dpAll_get (i := i) (v := v) t (by simpa using e)
    exact ⟨d, by simpa using h1, h2⟩
theorem dpAll_get' : ∀ {vs : List V} {ds : List PyData} {i : Nat} {d : PyData}, DqAll K G vs ds → ds[i]? = some d → ∃ v, vs[i]? = some v ∧ Dq K G v d
  | _, _, _, _, .nil, e => by simp at e
  | _, _, 0, _, .cons h _, e => by simp at e; subst e; exact ⟨_, rfl, h⟩
  | _, _, i + 1, d, .cons _ t, e => by
    obtain ⟨v, h1, h2⟩ := dpAll_get' (i := i) (d := d) t (by simpa using e)
    exact ⟨v, by simpa using h1, h2⟩
theorem dpAll_append : ∀ {vs ws : List V} {ds es : List PyData}, DqAll K G vs ds → DqAll K G ws es → DqAll K G (vs ++ ws) (ds ++ es)
  | _, _, _, _, .nil, s => s
  | _, _, _, _, .cons r t, s => .cons r (dpAll_append t s)
theorem dpAll_set : ∀ {vs : List V} {ds : List PyData} (i : Nat) {v : V} {d : PyData}, DqAll K G vs ds → Dq K G v d → DqAll K G (vs.set i v) (ds.set i d)
  | _, _, _, _, _, .nil, _ => .nil
  | _, _, 0, _, _, .cons _ t, r => .cons r t
  | _, _, i + 1, _, _, .cons q t, r => .cons q (dpAll_set i t r)
theorem dpAll_take : ∀ {vs : List V} {ds : List PyData} (n : Nat), DqAll K G vs ds → DqAll K G (vs.take n) (ds.take n)
  | _, _, 0, _ => .nil
  | _, _, _ + 1, .nil => .nil
  | _, _, n + 1, .cons r t => .cons r (dpAll_take n t)
theorem dpAll_drop : ∀ {vs : List V} {ds : List PyData} (n : Nat), DqAll K G vs ds → DqAll K G (vs.drop n) (ds.drop n)
  | _, _, 0, r => r
  | _, _, _ + 1, .nil => .nil
  | _, _, n + 1, .cons _ t => dpAll_drop n t
theorem dpAll_ints : ∀ ns : List Int, DqAll K G (ns.map V.int) (ns.map PyData.int)
  | [] => .nil
  | n :: ns => .cons (.int n) (dpAll_ints ns)
/-- the values of ints -/
theorem vals_ints : ∀ {vs : List V} {ns : List Int}, DqAll K G vs (ns.map PyData.int) → vs = ns.map V.int
  | _, [], h => by cases h; rfl
  | _, n :: ns, h => by
    have h' : DqAll K G _ (PyData.int n :: ns.map PyData.int) := h
    cases h' with
    | cons a b => cases a; rw [vals_ints b]; rfl
theorem vals_bools : ∀ {vs : List V} {bs : List Bool}, DqAll K G vs (bs.map PyData.bool) → vs = bs.map V.bl
  | _, [], h => by cases h; rfl
  | _, n :: ns, h => by
    have h' : DqAll K G _ (PyData.bool n :: ns.map PyData.bool) := h
    cases h' with
    | cons a b => cases a; rw [vals_bools b]; rfl
theorem vals_strs : ∀ {vs : List V} {bs : List Str}, DqAll K G vs (bs.map PyData.str) → vs = bs.map V.str
  | _, [], h => by cases h; rfl
  | _, n :: ns, h => by
    have h' : DqAll K G _ (PyData.str n :: ns.map PyData.str) := h
    cases h' with
    | cons a b => cases a; rw [vals_strs b]; rfl
end mono

section heaps
variable {K : PySem.W.Frag} {G G' G2 H H' H2 : Hp} {p : Addr} {u : HO}
theorem same_upd (h : H p = none) : Same H (upd H p u) := fun b o e => by
  rw [upd_ne (ne_of_none e h)]
  exact e
theorem same_free (s : Same G H) (h : H p = none) : G p = none := s.free h
/-- frozen data and heap grow together: what is new in G is new in H -/
structure Ext (G H G' H' : Hp) : Prop where
  g : Same G G'
  h : Same H H'
  gh : Same G' H'
  fr : ∀ a, G a = none → H a ≠ none → G' a = none
theorem Ext.refl (s : Same G H) : Ext G H G H := ⟨.refl _, .refl _, s, fun _ e _ => e⟩
theorem Ext.trans (a : Ext G H G' H') (b : Ext G' H' G2 H2) : Ext G H G2 H2 :=
  ⟨a.g.trans b.g, a.h.trans b.h, b.gh, fun c e n => b.fr c (a.fr c e n) (by
    intro z
    exact n (a.h.free z))⟩
/-- a new object that is frozen at once -/
theorem Ext.new (s : Same G H) (h : H p = none) : Ext G H (upd G p u) (upd H p u) := by
  refine ⟨same_upd (s.free h), same_upd h, fun b o e => ?_, fun a e n => ?_⟩
  · by_cases hb : b = p
    · subst hb; rw [upd_same] at e ⊢; exact e
    · rw [upd_ne hb] at e ⊢; exact s b o e
  · have : a ≠ p := by rintro rfl; exact n h
    rw [upd_ne this]; exact e
/-- a new object that stays ours -/
theorem Ext.hid (s : Same G H) (h : H p = none) : Ext G H G (upd H p u) :=
  ⟨.refl _, same_upd h, s.trans (same_upd h), fun _ e _ => e⟩
/-- an object of ours is frozen -/
theorem Ext.freeze (x : Ext G H G' H') (hn : H p = none) (hp : H' p = some u) (hg : G' p = none) : Ext G H (upd G' p u) H' := by
  refine ⟨x.g.trans (same_upd hg), x.h, fun b o e => ?_, fun a e n => ?_⟩
  · by_cases hb : b = p
    · subst hb; rw [upd_same] at e; rw [hp]; exact e
    · rw [upd_ne hb] at e; exact x.gh b o e
  · have : a ≠ p := by rintro rfl; exact n hn
    rw [upd_ne this]; exact x.fr a e n
end heaps

/-! ### slots -/
def ObOk (K : PySem.W.Frag) (G : Hp) : Ob → HO → Prop
  | .lst ds, .lst vs => DqAll K G vs ds
  | .dic kvs, .dK vs => Paired (fun (p : Key × PyData) (q : Key × V) => p.1 = q.1 ∧ Dq K G q.2 p.2) kvs vs
  | _, _ => False
theorem ObOk.mono {K : PySem.W.Frag} {G G' : Hp} (e : Same G G') : ∀ {b : Ob} {u : HO}, ObOk K G b u → ObOk K G' b u := by
  intro b u h
  cases b <;> cases u <;> first
    | exact False.elim h
    | exact dpAll_mono e (show DqAll K G _ _ from h)
    | exact Paired.mapP (show Paired _ _ _ from h) fun p q z => ⟨z.1, dp_mono e z.2⟩
theorem ObOk.isLst {K : PySem.W.Frag} {G : Hp} {ds : List PyData} {u : HO} (h : ObOk K G (.lst ds) u) : ∃ vs, u = .lst vs ∧ DqAll K G vs ds := by
  cases u <;> first | exact False.elim h | exact ⟨_, rfl, h⟩
theorem ObOk.isDic {K : PySem.W.Frag} {G : Hp} {ds : Ks} {u : HO} (h : ObOk K G (.dic ds) u) : ∃ vs, u = .dK vs ∧ Paired (fun (p : Key × PyData) (q : Key × V) => p.1 = q.1 ∧ Dq K G q.2 p.2) ds vs := by
  cases u <;> first | exact False.elim h | exact ⟨_, rfl, h⟩
/-- the slot's datum stands at the def's name -/
def SlOk (K : PySem.W.Frag) (G H0 H : Hp) : Sl → Option V → Prop
  | .un, _ => True
  | .sh d, o => ∃ v, o = some v ∧ Dq K G v d
  | .own b, o => ∃ p u, o = some (.ref p) ∧ H p = some u ∧ ObOk K G b u ∧ G p = none ∧ H0 p = none
structure Rel (K : PySem.W.Frag) (H0 G0 G : Hp) (ρ : Ro) (σ : L2.St) (H : Hp) : Prop where
  ext : Ext G0 H0 G H
  len : ρ.length = σ.length
  sl : ∀ (i : Nat) (s : Sl), ρ[i]? = some s → ∃ o, σ[i]? = some o ∧ SlOk K G H0 H s o
  di : ∀ (i j : Nat) (p : Addr) (b c : Ob), ρ[i]? = some (.own b) → ρ[j]? = some (.own c) → σ[i]? = some (some (.ref p)) → σ[j]? = some (some (.ref p)) → i = j
section rel
variable {K : PySem.W.Frag} {H0 G0 G G' H H' : Hp} {ρ : Ro} {σ : L2.St} {i : Nat} {d : PyData} {v : V}
theorem Rel.gh (r : Rel K H0 G0 G ρ σ H) : Same G H := r.ext.gh
theorem SlOk.ext (x : Ext G H G' H') : ∀ {s : Sl} {o : Option V}, SlOk K G H0 H s o → SlOk K G' H0 H' s o
  | .un, _, _ => trivial
  | .sh _, _, ⟨v, e, h⟩ => ⟨v, e, dp_mono x.g h⟩
  | .own _, _, ⟨p, u, e, hp, ho, hg, h0⟩ => ⟨p, u, e, x.h _ _ hp, ho.mono x.g, x.fr p hg (by rw [hp]; simp), h0⟩
theorem Rel.step (r : Rel K H0 G0 G ρ σ H) (x : Ext G H G' H') : Rel K H0 G0 G' ρ σ H' :=
  ⟨r.ext.trans x, r.len, fun i s e => let ⟨o, a, b⟩ := r.sl i s e; ⟨o, a, b.ext x⟩, r.di⟩
theorem Rel.get (r : Rel K H0 G0 G ρ σ H) (e : ρ[i]? = some (.sh d)) : ∃ v, σ[i]? = some (some v) ∧ Dq K G v d := by
  obtain ⟨o, a, v, rfl, h⟩ := r.sl i _ e
  exact ⟨v, a, h⟩
theorem Rel.getOwn (r : Rel K H0 G0 G ρ σ H) {b : Ob} (e : ρ[i]? = some (.own b)) : ∃ p u, σ[i]? = some (some (.ref p)) ∧ H p = some u ∧ ObOk K G b u ∧ G p = none ∧ H0 p = none := by
  obtain ⟨o, a, p, u, rfl, h⟩ := r.sl i _ e
  exact ⟨p, u, a, h⟩
/-- a name is bound to frozen data -/
theorem Rel.set (r : Rel K H0 G0 G ρ σ H) (h : Dq K G v d) : Rel K H0 G0 G (ρ.set i (.sh d)) (σ.set i (some v)) H := by
  refine ⟨r.ext, by simp [r.len], fun j s e => ?_, fun j k p b c e1 e2 e3 e4 => ?_⟩
  · by_cases hj : i = j
    · subst hj
      have hi : i < ρ.length := by
        have := (List.getElem?_eq_some_iff.mp e).1
        simpa using this
      rw [List.getElem?_set_self hi] at e
      cases e
      exact ⟨some v, List.getElem?_set_self (by rw [← r.len]; exact hi), v, rfl, h⟩
    · rw [List.getElem?_set_ne hj] at e
      obtain ⟨o, a, b⟩ := r.sl j s e
      exact ⟨o, by rw [List.getElem?_set_ne hj]; exact a, b⟩
  · have nj : ∀ {l : Nat} {b : Ob}, (ρ.set i (.sh d))[l]? = some (.own b) → i ≠ l := fun {l b} e z => by
      subst z
      have hi : i < ρ.length := by
        have := (List.getElem?_eq_some_iff.mp e).1
        simpa using this
      rw [List.getElem?_set_self hi] at e
      cases e
    have n1 := nj e1
    have n2 := nj e2
    rw [List.getElem?_set_ne n1] at e1 e3
    rw [List.getElem?_set_ne n2] at e2 e4
    exact r.di j k p b c e1 e2 e3 e4
/-- a slot is forgotten -/
theorem Rel.drop (r : Rel K H0 G0 G ρ σ H) {o : Option V} : Rel K H0 G0 G (ρ.set i .un) (σ.set i o) H := by
  refine ⟨r.ext, by simp [r.len], fun j s e => ?_, fun j k p b c e1 e2 e3 e4 => ?_⟩
  · by_cases hj : i = j
    · subst hj
      have hi : i < ρ.length := by
        have := (List.getElem?_eq_some_iff.mp e).1
        simpa using this
      rw [List.getElem?_set_self hi] at e
      cases e
      exact ⟨o, List.getElem?_set_self (by rw [← r.len]; exact hi), trivial⟩
    · rw [List.getElem?_set_ne hj] at e
      obtain ⟨o', a, b⟩ := r.sl j s e
      exact ⟨o', by rw [List.getElem?_set_ne hj]; exact a, b⟩
  · have nj : ∀ {l : Nat} {b : Ob}, (ρ.set i .un)[l]? = some (.own b) → i ≠ l := fun {l b} e z => by
      subst z
      have hi : i < ρ.length := by
        have := (List.getElem?_eq_some_iff.mp e).1
        simpa using this
      rw [List.getElem?_set_self hi] at e
      cases e
    have n1 := nj e1
    have n2 := nj e2
    rw [List.getElem?_set_ne n1] at e1 e3
    rw [List.getElem?_set_ne n2] at e2 e4
    exact r.di j k p b c e1 e2 e3 e4
/-- a name is bound to an object of ours -/
theorem Rel.setOwn (r : Rel K H0 G0 G ρ σ H) {p : Addr} {u : HO} {b : Ob} (hp : H p = some u) (ho : ObOk K G b u) (hg : G p = none) (h0 : H0 p = none)
    (hd : ∀ j c, ρ[j]? = some (.own c) → σ[j]? = some (some (.ref p)) → j = i) : Rel K H0 G0 G (ρ.set i (.own b)) (σ.set i (some (.ref p))) H := by
  refine ⟨r.ext, by simp [r.len], fun j s e => ?_, fun j k q b' c e1 e2 e3 e4 => ?_⟩
  · by_cases hj : i = j
    · subst hj
      have hi : i < ρ.length := by
        have := (List.getElem?_eq_some_iff.mp e).1
        simpa using this
      rw [List.getElem?_set_self hi] at e
      cases e
      exact ⟨_, List.getElem?_set_self (by rw [← r.len]; exact hi), p, u, rfl, hp, ho, hg, h0⟩
    · rw [List.getElem?_set_ne hj] at e
      obtain ⟨o, a, b⟩ := r.sl j s e
      exact ⟨o, by rw [List.getElem?_set_ne hj]; exact a, b⟩
  · have at_i : ∀ {l : Nat}, i = l → (σ.set i (some (V.ref p)))[l]? = some (some (.ref q)) → p = q := fun {l} z e => by
      subst z
      have hi : i < σ.length := by
        have := (List.getElem?_eq_some_iff.mp e).1
        simpa using this
      rw [List.getElem?_set_self hi] at e
      cases e
      rfl
    by_cases hj : i = j
    · by_cases hk : i = k
      · exact hj.symm.trans hk
      · have epq := at_i hj e3
        subst epq
        rw [List.getElem?_set_ne hk] at e2 e4
        exact absurd (hd k c e2 e4).symm hk
    · by_cases hk : i = k
      · have epq := at_i hk e4
        subst epq
        rw [List.getElem?_set_ne hj] at e1 e3
        exact absurd (hd j b' e1 e3).symm hj
      · rw [List.getElem?_set_ne hj] at e1 e3
        rw [List.getElem?_set_ne hk] at e2 e4
        exact r.di j k q b' c e1 e2 e3 e4
/-- an object of ours is changed -/
theorem Rel.write (r : Rel K H0 G0 G ρ σ H) {p : Addr} {u u' : HO} {b b' : Ob} (e : ρ[i]? = some (.own b)) (es : σ[i]? = some (some (.ref p))) (hp : H p = some u) (hg : G p = none) (h0 : H0 p = none) (ho : ObOk K G b' u') :
    Rel K H0 G0 G (ρ.set i (.own b')) σ (upd H p u') := by
  have hi : i < ρ.length := (List.getElem?_eq_some_iff.mp e).1
  refine ⟨⟨r.ext.g, fun a o q => ?_, fun a o q => ?_, r.ext.fr⟩, by simp [r.len], fun j s q => ?_, fun j k q b1 c e1 e2 e3 e4 => ?_⟩
  · rw [upd_ne (ne_of_none q h0)]; exact r.ext.h a o q
  · rw [upd_ne (ne_of_none q hg)]; exact r.ext.gh a o q
  · by_cases hj : i = j
    · subst hj
      rw [List.getElem?_set_self hi] at q
      cases q
      exact ⟨_, es, p, u', rfl, upd_same, ho, hg, h0⟩
    · rw [List.getElem?_set_ne hj] at q
      obtain ⟨o, a, z⟩ := r.sl j s q
      refine ⟨o, a, ?_⟩
      cases s with
      | un => trivial
      | sh d => exact z
      | own c =>
        obtain ⟨p', w, rfl, hp', ho', hg', h0'⟩ := z
        refine ⟨p', w, rfl, ?_, ho', hg', h0'⟩
        have : p' ≠ p := by
          rintro rfl
          exact hj (r.di i j p' b c e q es a)
        rw [upd_ne this]; exact hp'
  · have own_of : ∀ {l : Nat} {c : Ob}, (ρ.set i (.own b'))[l]? = some (.own c) → ∃ c', ρ[l]? = some (.own c') := fun {l c} z => by
      by_cases hl : i = l
      · subst hl; exact ⟨b, e⟩
      · rw [List.getElem?_set_ne hl] at z; exact ⟨c, z⟩
    obtain ⟨_, z1⟩ := own_of e1
    obtain ⟨_, z2⟩ := own_of e2
    exact r.di j k q _ _ z1 z2 e3 e4
/-- an object of ours is given up: frozen as it is -/
theorem Rel.freeze (r : Rel K H0 G0 G ρ σ H) {ds : List PyData} (e : ρ[i]? = some (.own (.lst ds))) : ∃ G', Same G G' ∧ Rel K H0 G0 G' (ρ.set i (.sh (.list ds))) σ H := by
  obtain ⟨p, u, es, hp, ho, hg, h0⟩ := r.getOwn e
  obtain ⟨vs, rfl, hv⟩ := ho.isLst
  have hi : i < ρ.length := (List.getElem?_eq_some_iff.mp e).1
  have sg : Same G (upd G p (.lst vs)) := same_upd hg
  refine ⟨upd G p (.lst vs), sg, ⟨r.ext.g.trans sg, r.ext.h, fun a o q => ?_, fun a q n => ?_⟩, by simp [r.len], fun j s q => ?_, fun j k q b c e1 e2 e3 e4 => ?_⟩
  · by_cases ha : a = p
    · subst ha; rw [upd_same] at q; rw [hp]; exact q
    · rw [upd_ne ha] at q; exact r.ext.gh a o q
  · have : a ≠ p := by rintro rfl; exact n h0
    rw [upd_ne this]; exact r.ext.fr a q n
  · by_cases hj : i = j
    · subst hj
      rw [List.getElem?_set_self hi] at q
      cases q
      exact ⟨_, es, _, rfl, .lst (Rd.of upd_same) (dpAll_mono sg hv)⟩
    · rw [List.getElem?_set_ne hj] at q
      obtain ⟨o, a, z⟩ := r.sl j s q
      refine ⟨o, a, ?_⟩
      cases s with
      | un => trivial
      | sh d => obtain ⟨v, ev, hd⟩ := z; exact ⟨v, ev, dp_mono sg hd⟩
      | own c =>
        obtain ⟨p', w, rfl, hp', ho', hg', h0'⟩ := z
        refine ⟨p', w, rfl, hp', ho'.mono sg, ?_, h0'⟩
        have : p' ≠ p := by
          rintro rfl
          exact hj (r.di i j p' _ c e q es a)
        rw [upd_ne this]; exact hg'
  · have nj : ∀ {l : Nat} {b : Ob}, (ρ.set i (.sh (.list ds)))[l]? = some (.own b) → i ≠ l := fun {l b} e z => by
      subst z
      rw [List.getElem?_set_self hi] at e
      cases e
    rw [List.getElem?_set_ne (nj e1)] at e1
    rw [List.getElem?_set_ne (nj e2)] at e2
    exact r.di j k q b c e1 e2 e3 e4
end rel
end DL
/-! DL2: the judgements on expressions, and their rules. -/
namespace DL
noncomputable section
open PySem PySem.Spec PyProof.Rows L2

/-! ### what is wanted behind an outcome -/
section post
variable {α β : Type}
def PostO (mg : Str → Option Value) (W : WX) (σ : L2.St) (G H : Hp) (R : α → Hp → Hp → Prop) : Out α → Prop
  | .no => False
  | .ex c => ∀ C G' H', mg c = some (.ref C) → Ext G H G' H' → W (.ref C) none σ H'
  | .ok a => ∀ G' H', Ext G H G' H' → R a G' H'
variable {mg : Str → Option Value} {W : WX} {σ : L2.St} {G H G1 H1 : Hp} {R R' : α → Hp → Hp → Prop} {S : β → Hp → Hp → Prop}
theorem PostO.mono {o : Out α} (h : PostO mg W σ G H R o) (f : ∀ a G' H', o = .ok a → Ext G H G' H' → R a G' H' → R' a G' H') : PostO mg W σ G H R' o := by
  cases o with
  | no => exact h
  | ex c => exact h
  | ok a => exact fun G' H' x => f a G' H' rfl x (h G' H' x)
theorem PostO.step {o : Out α} (x : Ext G H G1 H1) (h : PostO mg W σ G H R o) : PostO mg W σ G1 H1 R o := by
  cases o with
  | no => exact h
  | ex c => exact fun C G' H' e y => h C G' H' e (x.trans y)
  | ok a => exact fun G' H' y => h G' H' (x.trans y)
theorem PostO.bind {o : Out α} {f : α → Out β} (h : PostO mg W σ G H S (o >>= f)) : PostO mg W σ G H (fun a G' H' => PostO mg W σ G' H' S (f a)) o := by
  cases o with
  | no => exact h
  | ex c => exact h
  | ok a => exact fun G' H' x => PostO.step x (show PostO mg W σ G H S (f a) from h)
theorem PostO.now {a : α} (s : Same G H) (h : PostO mg W σ G H R (.ok a)) : R a G H := h G H (.refl s)
end post

abbrev MD := Ro → Out PyData
abbrev ML := Ro → Out (List PyData)
abbrev MB := Ro → Out Bool
section
variable (K : PySem.W.Frag) (mg : Str → Option Value) (W : WX)
/-- frozen data -/
def rD (K : PySem.W.Frag) (Q : VK) : PyData → Hp → Hp → Prop := fun d G' H' => ∀ v, Dq K G' v d → Q v H'
/-- a new list of ours -/
def rF (K : PySem.W.Frag) (H : Hp) (Q : VK) : List PyData → Hp → Hp → Prop := fun ds G' H' => ∀ p vs, H p = none → G' p = none → H' p = some (.lst vs) → DqAll K G' vs ds → Q (.ref p) H'
def rA (K : PySem.W.Frag) (Q : List V → Hp → Prop) : List PyData → Hp → Hp → Prop := fun ds G' H' => ∀ vs, DqAll K G' vs ds → Q vs H'
def rB (Q : Bool → Hp → Prop) : Bool → Hp → Hp → Prop := fun b _ H' => Q b H'
def tD (m : MD) : TE := fun σ H Q => ∃ H0 G0 G ρ, Rel K H0 G0 G ρ σ H ∧ PostO mg W σ G H (rD K Q) (m ρ)
def tF (m : ML) : TE := fun σ H Q => ∃ H0 G0 G ρ, Rel K H0 G0 G ρ σ H ∧ PostO mg W σ G H (rF K H Q) (m ρ)
def tA (m : ML) : TA := fun σ H Q => ∃ H0 G0 G ρ, Rel K H0 G0 G ρ σ H ∧ PostO mg W σ G H (rA K Q) (m ρ)
def tT (m : MB) : TT := fun σ H Q => ∃ H0 G0 G ρ, Rel K H0 G0 G ρ σ H ∧ PostO mg W σ G H (rB Q) (m ρ)
end
section
variable (X : Cx) (W : WX)
def DE (e : Expr) (m : MD) : Prop := PE X e (tD X.K X.mg W m)
def DF (e : Expr) (m : ML) : Prop := PE X e (tF X.K X.mg W m)
def DA (es : List Expr) (m : ML) : Prop := PA X es (tA X.K X.mg W m)
def DT (e : Expr) (m : MB) : Prop := PT X e (tT X.K X.mg W m)
end

theorem pe_imp {X : Cx} {e : Expr} {t t' : TE} (h : PE X e t) (i : ∀ σ H Q, t' σ H Q → t σ H Q) : PE X e t' := ⟨fun pins s σ H Q I q => h.run pins s σ H Q I (i σ H Q q)⟩
theorem pt_imp {X : Cx} {e : Expr} {t t' : TT} (h : PT X e t) (i : ∀ σ H Q, t' σ H Q → t σ H Q) : PT X e t' := ⟨fun pins s σ H Q I q => h.run pins s σ H Q I (i σ H Q q)⟩
theorem pw_imp {X : Cx} {e : Expr} {t t' : TT} (h : PW X e t) (i : ∀ σ H Q, t' σ H Q → t σ H Q) : PW X e t' := ⟨fun wh pins s σ H Q I q => h.run wh pins s σ H Q I (i σ H Q q)⟩
theorem pa_imp {X : Cx} {e : List Expr} {t t' : TA} (h : PA X e t) (i : ∀ σ H Q, t' σ H Q → t σ H Q) : PA X e t' := ⟨fun pos pins s σ H Q I q => h.run pos pins s σ H Q I (i σ H Q q)⟩

section
variable {X : Cx} {W : WX} {e a b c : Expr} {es : List Expr} {ma mb mc : MD} {ml : ML} {pos p pos' : Pos} {x : Str}

/-! ### names, constants -/
def rd (i : Nat) : MD := fun ρ => match ρ[i]? with
  | some (.sh d) => .ok d
  | _ => .no
theorem de_var (i : Nat) (hN : X.N[i]? = some x := by rfl) (hv : Vis X.env.scope x := by first | exact Or.inl rfl | exact Or.inr (Or.inl rfl) | exact Or.inr (Or.inr rfl)) (hd : (x == ("__debug__" : Str)) = false := by decide)
    (hcd : (x == ("__classdict__" : Str)) = false := by decide) : DE X W (.Name x pos) (rd i) := by
  refine pe_imp (pe_var hN hv hd hcd) fun σ H Q ⟨H0, G0, G, ρ, r, h⟩ => ?_
  unfold rd at h
  cases q : ρ[i]? with
  | none => rw [q] at h; exact False.elim h
  | some s =>
    rw [q] at h
    cases s with
    | un => exact False.elim h
    | own b => exact False.elim h
    | sh d =>
      obtain ⟨v, e, hd⟩ := r.get q
      exact ⟨v, e, h.now r.gh v hd⟩
/-- a constant value -/
theorem de_con {d : PyData} {v : V} (h : PE X e (tC v)) (hd : ∀ G, Dq X.K G v d) : DE X W e (fun _ => .ok d) := by
  refine pe_imp h fun σ H Q ⟨H0, G0, G, ρ, r, h⟩ => ?_
  exact h.now r.gh v (hd G)
theorem de_int {i j} : DE X W (.Constant (.int i) j pos) (fun _ => .ok (.int i)) := de_con pe_int fun _ => .int i
theorem de_bool {i j} : DE X W (.Constant (.bool i) j pos) (fun _ => .ok (.bool i)) := de_con pe_bl fun _ => .bl i
theorem de_none {j} : DE X W (.Constant .none j pos) (fun _ => .ok .none) := de_con pe_non fun _ => .non
theorem de_str {i j} : DE X W (.Constant (.str i) j pos) (fun _ => .ok (.str i)) := de_con pe_str fun _ => .str i
/-- a constant of the module: told by what stands in the written part -/
theorem de_glob {d : PyData} {v : V} {u : Value} (hd : ∀ G, Dq X.K G v d) (hm : X.mg x = some u) (r : RelV v u) (hg : Gl X x := by rfl) (hdb : (x == ("__debug__" : Str)) = false := by decide) : DE X W (.Name x pos) (fun _ => .ok d) :=
  de_con (pe_glob hg hm r hdb) hd

/-! ### operators by their rules -/
/-- a rule of two values tells what f tells -/
def Op2 (X : Cx) (r : R2) (f : PyData → PyData → Out PyData) : Prop := ∀ (mg : Str → Option Value) (W : WX) (σ : L2.St) (G H : Hp) (Q : VK) (x y : V) (d e : PyData), Same G H → Dq X.K G x d → Dq X.K G y e → PostO mg W σ G H (rD X.K Q) (f d e) → r x y H Q
def m2 (f : PyData → PyData → Out PyData) (ma mb : MD) : MD := fun ρ => ma ρ >>= fun d => mb ρ >>= fun e => f d e
def m1 (f : PyData → Out PyData) (ma : MD) : MD := fun ρ => ma ρ >>= f
theorem two_ok {f : PyData → PyData → Out PyData} {r : R2} (ho : Op2 X r f) {σ : L2.St} {H : Hp} {Q : VK} (h : tD X.K X.mg W (m2 f ma mb) σ H Q) : tOp r (tD X.K X.mg W ma) (tD X.K X.mg W mb) σ H Q := by
  obtain ⟨H0, G0, G, ρ, r, h⟩ := h
  refine ⟨H0, G0, G, ρ, r, (PostO.bind h).mono fun d G1 H1 _ x1 h1 v hv => ?_⟩
  refine ⟨H0, G0, G1, ρ, r.step x1, (PostO.bind h1).mono fun e G2 H2 _ x2 h2 u hu => ?_⟩
  exact ho _ _ _ G2 H2 Q v u d e x2.gh (dp_mono x2.g hv) hu h2
theorem de_op {op : Operator} {r : R2} {f : PyData → PyData → Out PyData} (hr : OpR X (binaryOp op) r) (ho : Op2 X r f) (ha : DE X W a ma) (hb : DE X W b mb) : DE X W (.BinOp a op b pos) (m2 f ma mb) :=
  pe_imp (pe_op hr ha hb) fun _ _ _ h => two_ok ho h
theorem de_cmp {op : CmpOp} {r : R2} {f : PyData → PyData → Out PyData} (hr : OpR X (compareOp op) r) (ho : Op2 X r f) (ha : DE X W a ma) (hb : DE X W b mb) (hm : behindInMarks op b = false := by first | exact nomark _ | rfl) : DE X W (.Compare a [op] [b] pos) (m2 f ma mb) :=
  pe_imp (pe_cmpR hr ha hb hm) fun _ _ _ h => two_ok ho h
/-- the answer is a bool -/
def asB : PyData → Out Bool
  | .bool b => .ok b
  | _ => .no
def mB (ma : MD) : MB := fun ρ => ma ρ >>= asB
theorem dp_bool {K : PySem.W.Frag} {G : Hp} {v : V} {b : Bool} (h : Dq K G v (.bool b)) : v = .bl b := by cases h; rfl
theorem dp_int {K : PySem.W.Frag} {G : Hp} {v : V} {b : Int} (h : Dq K G v (.int b)) : v = .int b := by cases h; rfl
theorem dp_str {K : PySem.W.Frag} {G : Hp} {v : V} {b : Str} (h : Dq K G v (.str b)) : v = .str b := by cases h; rfl
theorem dp_none {K : PySem.W.Frag} {G : Hp} {v : V} (h : Dq K G v .none) : v = .non := by cases h; rfl
theorem dp_list {K : PySem.W.Frag} {G : Hp} {v : V} {ds : List PyData} (h : Dq K G v (.list ds)) : ∃ a vs, v = .ref a ∧ Rd G a (.lst vs) ∧ DqAll K G vs ds := by cases h with | lst a b => exact ⟨_, _, rfl, a, b⟩
theorem dp_tuple {K : PySem.W.Frag} {G : Hp} {v : V} {ds : List PyData} (h : Dq K G v (.tuple ds)) : ∃ a vs, v = .ref a ∧ SqT K G a vs ∧ DqAll K G vs ds := by cases h with | tup a b => exact ⟨_, _, rfl, a, b⟩
theorem post_asB {mg : Str → Option Value} {σ : L2.St} {G H : Hp} {K : PySem.W.Frag} {Q : Bool → Hp → Prop} {d : PyData} (s : Same G H) (h : PostO mg W σ G H (rB Q) (asB d)) : ∀ v, Dq K G v d → ∃ k, v = .bl k ∧ Q k H := fun v hv => by
  cases d with
  | bool b => exact ⟨b, dp_bool hv, h.now s⟩
  | _ => exact False.elim h
theorem toT {σ : L2.St} {H : Hp} {Q : Bool → Hp → Prop} (h : tT X.K X.mg W (mB ma) σ H Q) : tD X.K X.mg W ma σ H fun x H' => ∃ k, x = .bl k ∧ Q k H' := by
  obtain ⟨H0, G0, G, ρ, r, h⟩ := h
  exact ⟨H0, G0, G, ρ, r, (PostO.bind h).mono fun d G1 H1 _ x1 h1 => post_asB x1.gh h1⟩
theorem dt_cmp {op : CmpOp} {r : R2} {f : PyData → PyData → Out PyData} (hr : OpR X (compareOp op) r) (ho : Op2 X r f) (ha : DE X W a ma) (hb : DE X W b mb) (hm : behindInMarks op b = false := by first | exact nomark _ | rfl) : DT X W (.Compare a [op] [b] pos) (mB (m2 f ma mb)) :=
  pt_imp (pt_cmpR hr ha hb hm) fun _ _ _ h => two_ok ho (toT h)

/-! ### arithmetic -/
def mulOk (i j : Int) : Prop := CMul i j ∨ CMulW i j
instance (i j : Int) : Decidable (mulOk i j) := Classical.propDecidable _
theorem mulOk.ok {i j : Int} (h : mulOk i j) : IntMulOk i j := h.elim (fun h => h.ok) fun h => h.ok
def repOk (n : Nat) (j : Int) : Prop := -(2 ^ 63) ≤ j ∧ j < 2 ^ 63 ∧ n * j.toNat ≤ sizeLine
instance (n : Nat) (j : Int) : Decidable (repOk n j) := Classical.propDecidable _
def addD : PyData → PyData → Out PyData
  | .int i, .int j => .ok (.int (i + j))
  | .str i, .str j => if i.length + j.length ≤ sizeLine then .ok (.str (i ++ j)) else .no
  | .list i, .list j => if i.length + j.length ≤ sizeLine then .ok (.list (i ++ j)) else .no
  | .tuple i, .tuple j => if i.length + j.length ≤ sizeLine ∧ i ≠ [] ∧ j ≠ [] then .ok (.tuple (i ++ j)) else .no
  | _, _ => .no
def subD : PyData → PyData → Out PyData
  | .int i, .int j => .ok (.int (i - j))
  | _, _ => .no
def mulD : PyData → PyData → Out PyData
  | .int i, .int j => if mulOk i j then .ok (.int (i * j)) else .no
  | .list i, .int j => if repOk i.length j then .ok (.list (List.replicate j.toNat i).flatten) else .no
  | _, _ => .no
def divOk (j : Int) : Prop := 0 < j ∧ j.natAbs.log2 < 9000
instance (j : Int) : Decidable (divOk j) := Classical.propDecidable _
instance (i j : Int) : Decidable (CDivN i j) := Classical.propDecidable _
instance (i j : Int) : Decidable (CPow i j) := Classical.propDecidable _
def fdivD : PyData → PyData → Out PyData
  | .int i, .int j => if divOk j then .ok (.int (i / j)) else if CDivN i j then .ok (.int (i.fdiv j)) else .no
  | _, _ => .no
def modD : PyData → PyData → Out PyData
  | .int i, .int j => if 0 < j then .ok (.int (i % j)) else if j ≠ 0 then .ok (.int (i.fmod j)) else .no
  | _, _ => .no
def powD : PyData → PyData → Out PyData
  | .int i, .int j => if CPow i j then .ok (.int (i ^ j.toNat)) else .no
  | _, _ => .no
def negD : PyData → Out PyData
  | .int i => .ok (.int (-i))
  | _ => .no
theorem op2_sub : Op2 X (rI0 fun i j => .int (i - j)) subD := by
  intro mg W σ G H Q x y d e s hx hy h
  unfold subD at h
  split at h
  · obtain rfl := dp_int hx
    obtain rfl := dp_int hy
    exact ⟨_, _, rfl, rfl, h.now s _ (.int _)⟩
  · exact h.elim
theorem opr_mul : OpR X (binaryOp .Mult) (rI mulOk fun i j => .int (i * j)) := opI fun _ _ _ _ _ _ _ hc q => mul_int q hc.ok
theorem op2_fdiv : Op2 X (fun x y H Q => rI CDivW (fun i j => .int (i / j)) x y H Q ∨ rI CDivN (fun i j => .int (i.fdiv j)) x y H Q) fdivD := by
  intro mg W σ G H Q x y d e s hx hy h
  unfold fdivD at h
  split at h
  · obtain rfl := dp_int hx
    obtain rfl := dp_int hy
    split at h
    · rename_i hc
      exact .inl ⟨_, _, rfl, rfl, hc, h.now s _ (.int _)⟩
    · split at h
      · rename_i hc
        exact .inr ⟨_, _, rfl, rfl, hc, h.now s _ (.int _)⟩
      · exact h.elim
  · exact h.elim
theorem op2_mod : Op2 X (fun x y H Q => rI (fun _ j => 0 < j) (fun i j => .int (i % j)) x y H Q ∨ rI (fun _ j => j ≠ 0) (fun i j => .int (i.fmod j)) x y H Q) modD := by
  intro mg W σ G H Q x y d e s hx hy h
  unfold modD at h
  split at h
  · obtain rfl := dp_int hx
    obtain rfl := dp_int hy
    split at h
    · rename_i hc
      exact .inl ⟨_, _, rfl, rfl, hc, h.now s _ (.int _)⟩
    · split at h
      · rename_i hc
        exact .inr ⟨_, _, rfl, rfl, hc, h.now s _ (.int _)⟩
      · exact h.elim
  · exact h.elim
theorem op2_pow : Op2 X (rI CPow fun i j => .int (i ^ j.toNat)) powD := by
  intro mg W σ G H Q x y d e s hx hy h
  unfold powD at h
  split at h
  · obtain rfl := dp_int hx
    obtain rfl := dp_int hy
    split at h
    · rename_i hc
      exact ⟨_, _, rfl, rfl, hc, h.now s _ (.int _)⟩
    · exact h.elim
  · exact h.elim
theorem de_sub (ha : DE X W a ma) (hb : DE X W b mb) : DE X W (.BinOp a .Sub b pos) (m2 subD ma mb) := de_op op_sub op2_sub ha hb
theorem de_fdiv (ha : DE X W a ma) (hb : DE X W b mb) : DE X W (.BinOp a .FloorDiv b pos) (m2 fdivD ma mb) := de_op (op_fdivW.or op_fdivN) op2_fdiv ha hb
theorem de_mod (ha : DE X W a ma) (hb : DE X W b mb) : DE X W (.BinOp a .Mod b pos) (m2 modD ma mb) := de_op (op_mod.or op_modN) op2_mod ha hb
theorem de_pow (ha : DE X W a ma) (hb : DE X W b mb) : DE X W (.BinOp a .Pow b pos) (m2 powD ma mb) := de_op op_pow op2_pow ha hb
theorem de_neg (ha : DE X W a ma) : DE X W (.UnaryOp .USub a pos) (m1 negD ma) := by
  refine pe_imp (pe_un un_neg ha) fun σ H Q ⟨H0, G0, G, ρ, r, h⟩ => ⟨H0, G0, G, ρ, r, (PostO.bind h).mono fun d G1 H1 _ x1 h1 v hv => ?_⟩
  unfold negD at h1
  split at h1
  · obtain rfl := dp_int hv
    exact ⟨_, rfl, h1.now x1.gh _ (.int _)⟩
  · exact h1.elim

end
end
end DL
/-! DL3: further rules of expressions. -/
namespace DL
noncomputable section
open PySem PySem.Spec PyProof.Rows L2
section
variable {X : Cx} {W : WX} {e a b c : Expr} {es : List Expr} {ma mb mc : MD} {ml ml' : ML} {pos p pos' : Pos} {x : Str} {k : Nat}

/-! ### + and * of any kind -/
theorem lstR {pins : List (Addr × Obj)} {σ : L2.St} {H : Hp} {s : Shared} {l : Addr} {xs : List V} (I : Inv X pins σ H s) (hH : Rd H l (.lst xs)) : xs.length ≤ sizeLine ∧ ∃ (its : List Value) (n : Nat), Vals xs its ∧ xs.length = its.length ∧ s.heap.get? l = some { cls := .type "list", data := .seq its.toArray n } := by
  obtain ⟨z, its, n, r, e⟩ := hH.ok I.hok
  exact ⟨z, its, n, r, r.length, e⟩
def rCatS : R2 := fun x y H Q => ∃ l b xs zs, x = .ref l ∧ y = .ref b ∧ Rd H l (.lst xs) ∧ Rd H b (.lst zs) ∧ xs.length + zs.length ≤ sizeLine ∧ ∀ p, H p = none → Q (.ref p) (upd H p (.lst (xs ++ zs)))
theorem op_catS : OpR X (binaryOp .Add) rCatS := by
  intro pins s σ H x y v u Q I rx ry h
  obtain ⟨l, b, xs, zs, rfl, rfl, hH, hB, hz, q⟩ := h
  cases rx
  cases ry
  obtain ⟨z, its, n, r, hl, e⟩ := lstR I hH
  obtain ⟨z2, its2, n2, r2, hl2, e2⟩ := lstR I hB
  refine PySem.P.add_list e e2 ?_ (by rw [List.size_toArray, List.size_toArray]; omega)
  have ea : its.toArray ++ its2.toArray = (its ++ its2).toArray := by simp
  rw [ea]
  exact ⟨.ref _, _, I.lnew (t' := s.toks) (r.append r2) (by rw [List.length_append]; omega), rfl, q _ I.fresh⟩
/-- a list times an int: as the library's rule, over a list that may be the script's -/
def rRepS : R2 := fun x y H Q => ∃ l k xs, x = .ref l ∧ y = .int k ∧ Rd H l (.lst xs) ∧ -(2 ^ 63) ≤ k ∧ k < 2 ^ 63 ∧ xs.length * k.toNat ≤ sizeLine ∧
  ∀ p, H p = none → Q (.ref p) (upd H p (.lst (List.replicate k.toNat xs).flatten))
theorem op_repS : OpR X (binaryOp .Mult) rRepS := by
  intro pins s σ H x y v u Q I rx ry h
  obtain ⟨l, k, xs, rfl, rfl, hH, h1, h2, hz, q⟩ := h
  rcases hH with hH | ⟨o, hH⟩
  · exact op_rep pins s σ H _ _ v u Q I rx ry ⟨l, k, xs, rfl, rfl, hH, h1, h2, hz, q⟩
  · cases rx
    obtain ⟨t, rfl⟩ := ry
    obtain ⟨z, its, n, r, hl, e⟩ := lstR I (.inr ⟨o, hH⟩)
    have hlen : its.toArray.size * k.toNat ≤ sizeLine := by rw [List.size_toArray, ← hl]; exact hz
    have hcap : ¬ its.toArray.size * k.toNat > (2 ^ 63 - 1) / 8 := by
      have : (sizeLine : Nat) ≤ (2 ^ 63 - 1) / 8 := by decide
      omega
    have hfit : ¬ (!Builtin.List.listFitsIndex k) = true := by
      rw [fitsIndex_both h1 h2]
      exact Bool.false_ne_true
    have hlong : ¬ Builtin.List.listTooLong (its.toArray.size * k.toNat) = true := by
      rw [notLongL hlen]
      exact Bool.false_ne_true
    have hnew : List.foldl (fun x1 x2 => x1 ++ x2) #[] (List.replicate (if its.toArray.isEmpty = true then 0 else k.toNat) its.toArray) = (List.replicate k.toNat its).flatten.toArray := by
      have f0 : ∀ m : Nat, List.foldl (fun x1 x2 => x1 ++ x2) #[] (List.replicate m its.toArray) = (List.replicate m its).flatten.toArray := fun m => by
        have := foldl_rep its m []
        rw [List.nil_append] at this
        exact this
      rw [f0]
      cases its with
      | nil => simp
      | cons a r' => rw [if_neg (by simp)]
    refine wpAny_binaryOp_repeat_ref (T := "list") (U := "int") (by decide) ⟨_, e, rfl⟩ (fun s' => typeIs_int s' k t) noFill_list_mul F.fills_int_mul F.slot_int_rmul repeat_list F.slot_int_index.lookup
      (call_meets F.slot_int_rmul (typeIs_int s k t) F.entry_int_rmul (F.args_int_rmul_2 _ _) (int___rmul___int_list k t l its.toArray n)
        ⟨e, rfl, ⟨_, e, rfl⟩, call_meets F.slot_list_mul ⟨_, e, rfl⟩ F.entry_list_mul (F.args_list_mul_2 _ _) (AutoListH.list___mul___list_int_3 l its.toArray n k t hfit hcap hlong) ⟨e, ?_⟩⟩)
    rw [hnew]
    exact ⟨.ref _, _, I.lnew (t' := s.toks) (r.rep k.toNat) (by rw [PyProof.Rows.lm_len_rep_flat, Nat.mul_comm]; exact hz), rfl, q _ I.fresh⟩

theorem dpAll_rep {K : PySem.W.Frag} {G : Hp} {vs : List V} {ds : List PyData} (h : DqAll K G vs ds) : ∀ k : Nat, DqAll K G (List.replicate k vs).flatten (List.replicate k ds).flatten
  | 0 => .nil
  | k + 1 => by
    rw [List.replicate_succ, List.replicate_succ, List.flatten_cons, List.flatten_cons]
    exact dpAll_append h (dpAll_rep h k)
theorem rd_same {H H' : Hp} (e : Same H H') {a : Addr} {u : HO} (h : Rd H a u) : Rd H' a u := rd_mono e h
/-- a new list, frozen at once -/
theorem post_newL {K : PySem.W.Frag} {mg : Str → Option Value} {σ : L2.St} {G H : Hp} {Q : VK} {ds : List PyData} {vs : List V} {p : Addr} (s : Same G H) (h : PostO mg W σ G H (rD K Q) (.ok (.list ds))) (hv : DqAll K G vs ds) (hp : H p = none) : Q (.ref p) (upd H p (.lst vs)) := by
  have x := Ext.new (u := .lst vs) s hp
  exact h _ _ x _ (.lst (Rd.of upd_same) (dpAll_mono x.g hv))
theorem post_newT {K : PySem.W.Frag} {mg : Str → Option Value} {σ : L2.St} {G H : Hp} {Q : VK} {ds : List PyData} {vs : List V} {p : Addr} (s : Same G H) (h : PostO mg W σ G H (rD K Q) (.ok (.tuple ds))) (hv : DqAll K G vs ds) (hp : H p = none) : Q (.ref p) (upd H p (.tup vs)) := by
  have x := Ext.new (u := .tup vs) s hp
  exact h _ _ x _ (.tup (SqT.of upd_same) (dpAll_mono x.g hv))
def rAddAll (K : PySem.W.Frag) : R2 := fun x y H Q => ((rI0 (fun i j => V.int (i + j)) x y H Q ∨ (∃ i j, x = .str i ∧ y = .str j ∧ i.length + j.length ≤ sizeLine ∧ Q (.str (i ++ j)) H)) ∨ rCatS x y H Q) ∨ rCatA K x y H Q
theorem opr_add : OpR X (binaryOp .Add) (rAddAll X.K) := ((op_add.or op_add_str).or op_catS).or op_catA
theorem op2_add : Op2 X (rAddAll X.K) addD := by
  intro mg W σ G H Q x y d e s hx hy h
  unfold addD at h
  split at h
  · obtain rfl := dp_int hx
    obtain rfl := dp_int hy
    exact .inl (.inl (.inl ⟨_, _, rfl, rfl, h.now s _ (.int _)⟩))
  · obtain rfl := dp_str hx
    obtain rfl := dp_str hy
    split at h
    · rename_i hc
      exact .inl (.inl (.inr ⟨_, _, rfl, rfl, hc, h.now s _ (.str _)⟩))
    · exact h.elim
  · obtain ⟨a1, v1, rfl, r1, d1⟩ := dp_list hx
    obtain ⟨a2, v2, rfl, r2, d2⟩ := dp_list hy
    split at h
    · rename_i hc
      exact .inl (.inr ⟨a1, a2, v1, v2, rfl, rfl, rd_mono s r1, rd_mono s r2, by rw [dpAll_len d1, dpAll_len d2]; exact hc, fun p hp => post_newL s h (dpAll_append d1 d2) hp⟩)
    · exact h.elim
  · obtain ⟨a1, v1, rfl, r1, d1⟩ := dp_tuple hx
    obtain ⟨a2, v2, rfl, r2, d2⟩ := dp_tuple hy
    split at h
    · rename_i hc
      have n1 : v1 ≠ [] := fun z => hc.2.1 (by subst z; cases d1; rfl)
      have n2 : v2 ≠ [] := fun z => hc.2.2 (by subst z; cases d2; rfl)
      exact .inr ⟨a1, a2, v1, v2, rfl, rfl, Same.seqT s r1, Same.seqT s r2, by rw [dpAll_len d1, dpAll_len d2]; exact hc.1, fun z => absurd z n1, fun _ z => absurd z n2, fun _ _ p hp => post_newT s h (dpAll_append d1 d2) hp⟩
    · exact h.elim
  · exact h.elim
theorem de_add (ha : DE X W a ma) (hb : DE X W b mb) : DE X W (.BinOp a .Add b pos) (m2 addD ma mb) := de_op opr_add op2_add ha hb
theorem op2_mul : Op2 X (fun x y H Q => rI mulOk (fun i j => V.int (i * j)) x y H Q ∨ rRepS x y H Q) mulD := by
  intro mg W σ G H Q x y d e s hx hy h
  unfold mulD at h
  split at h
  · obtain rfl := dp_int hx
    obtain rfl := dp_int hy
    split at h
    · rename_i hc
      exact .inl ⟨_, _, rfl, rfl, hc, h.now s _ (.int _)⟩
    · exact h.elim
  · obtain ⟨a1, v1, rfl, r1, d1⟩ := dp_list hx
    obtain rfl := dp_int hy
    split at h
    · rename_i hc
      exact .inr ⟨a1, _, v1, rfl, rfl, rd_mono s r1, hc.1, hc.2.1, by rw [dpAll_len d1]; exact hc.2.2, fun p hp => post_newL s h (dpAll_rep d1 _) hp⟩
    · exact h.elim
  · exact h.elim
theorem de_mul (ha : DE X W a ma) (hb : DE X W b mb) : DE X W (.BinOp a .Mult b pos) (m2 mulD ma mb) := de_op (opr_mul.or op_repS) op2_mul ha hb
/-! the same as new lists of ours -/
def Op2F (X : Cx) (r : R2) (f : PyData → PyData → Out (List PyData)) : Prop := ∀ (mg : Str → Option Value) (W : WX) (σ : L2.St) (G H : Hp) (Q : VK) (x y : V) (d e : PyData), Same G H → Dq X.K G x d → Dq X.K G y e → PostO mg W σ G H (rF X.K H Q) (f d e) → r x y H Q
def m2F (f : PyData → PyData → Out (List PyData)) (ma mb : MD) : ML := fun ρ => ma ρ >>= fun d => mb ρ >>= fun e => f d e
theorem rF_mono {K : PySem.W.Frag} {H H' : Hp} {Q : VK} (s : Same H H') {ds : List PyData} {G2 H2 : Hp} (h : rF K H Q ds G2 H2) : rF K H' Q ds G2 H2 := fun p vs hp hg hh hv => h p vs (s.free hp) hg hh hv
theorem df_op {op : Operator} {r : R2} {f : PyData → PyData → Out (List PyData)} (hr : OpR X (binaryOp op) r) (ho : Op2F X r f) (ha : DE X W a ma) (hb : DE X W b mb) : DF X W (.BinOp a op b pos) (m2F f ma mb) := by
  refine pe_imp (pe_op hr ha hb) fun σ H Q ⟨H0, G0, G, ρ, r, h⟩ => ?_
  refine ⟨H0, G0, G, ρ, r, (PostO.bind h).mono fun d G1 H1 _ x1 h1 v hv => ?_⟩
  refine ⟨H0, G0, G1, ρ, r.step x1, (PostO.bind h1).mono fun e G2 H2 _ x2 h2 u hu => ?_⟩
  exact ho _ _ _ G2 H2 Q v u d e x2.gh (dp_mono x2.g hv) hu (h2.mono fun _ _ _ _ _ q => rF_mono (x1.h.trans x2.h) q)
theorem post_newF {K : PySem.W.Frag} {mg : Str → Option Value} {σ : L2.St} {G H : Hp} {Q : VK} {ds : List PyData} {vs : List V} {p : Addr} (s : Same G H) (h : PostO mg W σ G H (rF K H Q) (.ok ds)) (hv : DqAll K G vs ds) (hp : H p = none) : Q (.ref p) (upd H p (.lst vs)) :=
  h _ _ (Ext.hid (u := .lst vs) s hp) p vs hp (s.free hp) upd_same hv
def catF : PyData → PyData → Out (List PyData)
  | .list i, .list j => if i.length + j.length ≤ sizeLine then .ok (i ++ j) else .no
  | _, _ => .no
def repF : PyData → PyData → Out (List PyData)
  | .list i, .int j => if repOk i.length j then .ok (List.replicate j.toNat i).flatten else .no
  | _, _ => .no
theorem df_add (ha : DE X W a ma) (hb : DE X W b mb) : DF X W (.BinOp a .Add b pos) (m2F catF ma mb) := by
  refine df_op op_catS (fun mg W σ G H Q x y d e s hx hy h => ?_) ha hb
  unfold catF at h
  split at h
  · obtain ⟨a1, v1, rfl, r1, d1⟩ := dp_list hx
    obtain ⟨a2, v2, rfl, r2, d2⟩ := dp_list hy
    split at h
    · rename_i hc
      exact ⟨a1, a2, v1, v2, rfl, rfl, rd_mono s r1, rd_mono s r2, by rw [dpAll_len d1, dpAll_len d2]; exact hc, fun p hp => post_newF s h (dpAll_append d1 d2) hp⟩
    · exact h.elim
  · exact h.elim
theorem df_mul (ha : DE X W a ma) (hb : DE X W b mb) : DF X W (.BinOp a .Mult b pos) (m2F repF ma mb) := by
  refine df_op op_repS (fun mg W σ G H Q x y d e s hx hy h => ?_) ha hb
  unfold repF at h
  split at h
  · obtain ⟨a1, v1, rfl, r1, d1⟩ := dp_list hx
    obtain rfl := dp_int hy
    split at h
    · rename_i hc
      exact ⟨a1, _, v1, rfl, rfl, rd_mono s r1, hc.1, hc.2.1, by rw [dpAll_len d1]; exact hc.2.2, fun p hp => post_newF s h (dpAll_rep d1 _) hp⟩
    · exact h.elim
  · exact h.elim

/-! ### a new list as frozen data -/
def asL (ml : ML) : MD := fun ρ => ml ρ >>= fun ds => .ok (.list ds)
theorem post_asL {K : PySem.W.Frag} {mg : Str → Option Value} {σ : L2.St} {G H : Hp} {Q : VK} {o : Out (List PyData)} (h : PostO mg W σ G H (rD K Q) (o >>= fun ds => .ok (.list ds))) : PostO mg W σ G H (rF K H Q) o := by
  cases o with
  | no => exact h
  | ex c => exact h
  | ok ds =>
    intro G1 H1 x1 p vs hn hg hp hv
    exact h _ _ (x1.freeze hn hp hg) _ (.lst (Rd.of upd_same) (dpAll_mono (same_upd hg) hv))
theorem de_fr (h : DF X W e ml) : DE X W e (asL ml) :=
  pe_imp h fun σ H Q ⟨H0, G0, G, ρ, r, h⟩ => ⟨H0, G0, G, ρ, r, post_asL h⟩
end
end
end DL
/-! DL4: comparisons, tests, items, slices, displays, calls of built-ins. -/
namespace DL
noncomputable section
open PySem PySem.Spec PyProof.Rows L2
section
variable {X : Cx} {W : WX} {e a b c : Expr} {es rest : List Expr} {ma mb mc : MD} {ml ml' : ML} {mt mu : MB} {pos p pos' : Pos} {x : Str} {k : Nat}

/-! ### == and != -/
def both : PyData → PyData → Bool
  | .str _, .str _ => true
  | _, _ => false
def eqD (d e : PyData) : Out PyData := if (SeqAt.shaped d && SeqAt.shaped e) || both d e then .ok (.bool (PyData.eqv d e)) else .no
def neD (d e : PyData) : Out PyData := if (SeqAt.shaped d && SeqAt.shaped e) || both d e then .ok (.bool (!PyData.eqv d e)) else .no
theorem both_str {d e : PyData} (h : both d e = true) : ∃ x y, d = .str x ∧ e = .str y := by
  cases d <;> cases e <;> first | exact ⟨_, _, rfl, rfl⟩ | cases h
theorem eqv_str (x y : Str) : PyData.eqv (.str x) (.str y) = decide (V.str x = V.str y) := by
  rw [dec_str]
  simp [PyData.eqv]
theorem op2_eq : Op2 X (fun x y H Q => rEqD X.K x y H Q ∨ rEq x y H Q) eqD := by
  intro mg W σ G H Q x y d e s hx hy h
  unfold eqD at h
  split at h
  · rename_i hc
    rw [Bool.or_eq_true] at hc
    rcases hc with hc | hc
    · rw [Bool.and_eq_true] at hc
      exact .inl ⟨d, e, dq_dp (SeqAt.canLay_of_shaped hc.1) (dp_mono s hx), dq_dp (SeqAt.canLay_of_shaped hc.2) (dp_mono s hy), hc.1, hc.2, h.now s _ (.bl _)⟩
    · obtain ⟨a, b, rfl, rfl⟩ := both_str hc
      obtain rfl := dp_str hx
      obtain rfl := dp_str hy
      rw [eqv_str] at h
      exact .inr ⟨rfl, h.now s _ (.bl _)⟩
  · exact h.elim
theorem op2_ne : Op2 X (fun x y H Q => rNeD X.K x y H Q ∨ rNe x y H Q) neD := by
  intro mg W σ G H Q x y d e s hx hy h
  unfold neD at h
  split at h
  · rename_i hc
    rw [Bool.or_eq_true] at hc
    rcases hc with hc | hc
    · rw [Bool.and_eq_true] at hc
      exact .inl ⟨d, e, dq_dp (SeqAt.canLay_of_shaped hc.1) (dp_mono s hx), dq_dp (SeqAt.canLay_of_shaped hc.2) (dp_mono s hy), hc.1, hc.2, h.now s _ (.bl _)⟩
    · obtain ⟨a, b, rfl, rfl⟩ := both_str hc
      obtain rfl := dp_str hx
      obtain rfl := dp_str hy
      rw [eqv_str] at h
      exact .inr ⟨rfl, h.now s _ (.bl _)⟩
  · exact h.elim
/-! ### order -/
def intsOf : List PyData → Option (List Int)
  | [] => some []
  | .int i :: r => (intsOf r).map (i :: ·)
  | _ :: _ => none
theorem intsOf_map : ∀ ns : List Int, intsOf (ns.map PyData.int) = some ns
  | [] => rfl
  | n :: ns => by show (intsOf (ns.map PyData.int)).map (n :: ·) = _; rw [intsOf_map ns]; rfl
theorem intsOf_eq : ∀ {ds : List PyData} {ns : List Int}, intsOf ds = some ns → ds = ns.map PyData.int
  | [], _, h => by cases h; rfl
  | d :: r, ns, h => by
    cases d with
    | int i =>
      have h' : (intsOf r).map (i :: ·) = some ns := h
      cases q : intsOf r with
      | none => rw [q] at h'; cases h'
      | some ms => rw [q] at h'; cases h'; rw [intsOf_eq q]; rfl
    | _ => cases h
def ltD : PyData → PyData → Out PyData
  | .int i, .int j => .ok (.bool (decide (i < j)))
  | .str i, .str j => .ok (.bool (decide (i.cps.toList < j.cps.toList)))
  | .tuple i, .tuple j => match intsOf i, intsOf j with
    | some m, some n => .ok (.bool (HT.lexLt m n))
    | _, _ => .no
  | _, _ => .no
def leD : PyData → PyData → Out PyData
  | .int i, .int j => .ok (.bool (decide (i ≤ j)))
  | .str i, .str j => .ok (.bool (!decide (j.cps.toList < i.cps.toList)))
  | _, _ => .no
def gtD : PyData → PyData → Out PyData
  | .int i, .int j => .ok (.bool (decide (j < i)))
  | .str i, .str j => .ok (.bool (decide (j.cps.toList < i.cps.toList)))
  | _, _ => .no
def geD : PyData → PyData → Out PyData
  | .int i, .int j => .ok (.bool (decide (j ≤ i)))
  | .str i, .str j => .ok (.bool (!decide (i.cps.toList < j.cps.toList)))
  | _, _ => .no
def rLtAll (K : PySem.W.Frag) : R2 := fun x y H Q => (rI0 (fun i j => V.bl (decide (i < j))) x y H Q ∨ ∃ i j, x = .str i ∧ y = .str j ∧ Q (.bl (decide (i.cps.toList < j.cps.toList))) H) ∨ rLtT K x y H Q
theorem opr_lt (hu : X.A.units < cLine) : OpR X (compareOp .Lt) (rLtAll X.K) := (op_lt.or op_lt_str).or (op_ltT hu)
theorem op2_lt : Op2 X (rLtAll X.K) ltD := by
  intro mg W σ G H Q x y d e s hx hy h
  unfold ltD at h
  split at h
  · obtain rfl := dp_int hx
    obtain rfl := dp_int hy
    exact .inl (.inl ⟨_, _, rfl, rfl, h.now s _ (.bl _)⟩)
  · obtain rfl := dp_str hx
    obtain rfl := dp_str hy
    exact .inl (.inr ⟨_, _, rfl, rfl, h.now s _ (.bl _)⟩)
  · obtain ⟨a1, v1, rfl, r1, d1⟩ := dp_tuple hx
    obtain ⟨a2, v2, rfl, r2, d2⟩ := dp_tuple hy
    split at h
    · rename_i m n e1 e2
      rw [intsOf_eq e1] at d1
      rw [intsOf_eq e2] at d2
      rw [vals_ints d1] at r1
      rw [vals_ints d2] at r2
      exact .inr ⟨a1, a2, m, n, rfl, rfl, Same.seqT s r1, Same.seqT s r2, h.now s _ (.bl _)⟩
    · exact h.elim
  · exact h.elim
theorem op2_le : Op2 X (fun x y H Q => rI0 (fun i j => V.bl (decide (i ≤ j))) x y H Q ∨ ∃ i j, x = .str i ∧ y = .str j ∧ Q (.bl (!decide (j.cps.toList < i.cps.toList))) H) leD := by
  intro mg W σ G H Q x y d e s hx hy h
  unfold leD at h
  split at h
  · obtain rfl := dp_int hx
    obtain rfl := dp_int hy
    exact .inl ⟨_, _, rfl, rfl, h.now s _ (.bl _)⟩
  · obtain rfl := dp_str hx
    obtain rfl := dp_str hy
    exact .inr ⟨_, _, rfl, rfl, h.now s _ (.bl _)⟩
  · exact h.elim
theorem op2_gt : Op2 X (fun x y H Q => rI0 (fun i j => V.bl (decide (j < i))) x y H Q ∨ ∃ i j, x = .str i ∧ y = .str j ∧ Q (.bl (decide (j.cps.toList < i.cps.toList))) H) gtD := by
  intro mg W σ G H Q x y d e s hx hy h
  unfold gtD at h
  split at h
  · obtain rfl := dp_int hx
    obtain rfl := dp_int hy
    exact .inl ⟨_, _, rfl, rfl, h.now s _ (.bl _)⟩
  · obtain rfl := dp_str hx
    obtain rfl := dp_str hy
    exact .inr ⟨_, _, rfl, rfl, h.now s _ (.bl _)⟩
  · exact h.elim
theorem op2_ge : Op2 X (fun x y H Q => rI0 (fun i j => V.bl (decide (j ≤ i))) x y H Q ∨ ∃ i j, x = .str i ∧ y = .str j ∧ Q (.bl (!decide (i.cps.toList < j.cps.toList))) H) geD := by
  intro mg W σ G H Q x y d e s hx hy h
  unfold geD at h
  split at h
  · obtain rfl := dp_int hx
    obtain rfl := dp_int hy
    exact .inl ⟨_, _, rfl, rfl, h.now s _ (.bl _)⟩
  · obtain rfl := dp_str hx
    obtain rfl := dp_str hy
    exact .inr ⟨_, _, rfl, rfl, h.now s _ (.bl _)⟩
  · exact h.elim
/-! ### is None; in -/
def isNo : PyData → Bool
  | .none => true
  | _ => false
def isND (d e : PyData) : Out PyData := match e with
  | .none => .ok (.bool (isNo d))
  | _ => .no
def notND (d e : PyData) : Out PyData := match e with
  | .none => .ok (.bool (!isNo d))
  | _ => .no
theorem dq_non {K : PySem.W.Frag} {G : Hp} {v : V} {d : PyData} (h : Dq K G v d) : decide (v = .non) = isNo d := by
  cases h <;> simp [isNo]
theorem op2_isN : Op2 X (fun x y H Q => y = .non ∧ Q (.bl (decide (x = .non))) H) isND := by
  intro mg W σ G H Q x y d e s hx hy h
  unfold isND at h
  split at h
  · refine ⟨dp_none hy, ?_⟩
    rw [dq_non hx]
    exact h.now s _ (.bl _)
  · exact h.elim
theorem op2_notN : Op2 X (fun x y H Q => y = .non ∧ Q (.bl (!decide (x = .non))) H) notND := by
  intro mg W σ G H Q x y d e s hx hy h
  unfold notND at h
  split at h
  · refine ⟨dp_none hy, ?_⟩
    rw [dq_non hx]
    exact h.now s _ (.bl _)
  · exact h.elim
def inD (neg : Bool) (d e : PyData) : Out PyData := match e with
  | .list ds => if SeqAt.shaped d && SeqAt.shaped (.list ds) then .ok (.bool (if neg then !ds.any (fun z => PyData.eqv z d) else ds.any fun z => PyData.eqv z d)) else .no
  | .str z => match d with
    | .str i => .ok (.bool (if neg then !(!(Builtin.Str.occurrences z i 0 z.length 1).isEmpty) else !(Builtin.Str.occurrences z i 0 z.length 1).isEmpty))
    | _ => .no
  | _ => .no
theorem op2_in : Op2 X (fun x y H Q => rInD X.K x y H Q ∨ ∃ i j, x = .str i ∧ y = .str j ∧ Q (.bl (!(Builtin.Str.occurrences j i 0 j.length 1).isEmpty)) H) (inD false) := by
  intro mg W σ G H Q x y d e s hx hy h
  unfold inD at h
  split at h
  · split at h
    · rename_i ds hc
      rw [Bool.and_eq_true] at hc
      exact .inl ⟨d, ds, dq_dp (SeqAt.canLay_of_shaped hc.1) (dp_mono s hx), dq_dp (SeqAt.canLay_of_shaped hc.2) (dp_mono s hy), hc.1, hc.2, h.now s _ (.bl _)⟩
    · exact h.elim
  · split at h
    · obtain rfl := dp_str hx
      obtain rfl := dp_str hy
      exact .inr ⟨_, _, rfl, rfl, h.now s _ (.bl _)⟩
    · exact h.elim
  · exact h.elim
theorem op2_notIn : Op2 X (fun x y H Q => rNotInD X.K x y H Q ∨ ∃ i j, x = .str i ∧ y = .str j ∧ Q (.bl (!(!(Builtin.Str.occurrences j i 0 j.length 1).isEmpty))) H) (inD true) := by
  intro mg W σ G H Q x y d e s hx hy h
  unfold inD at h
  split at h
  · split at h
    · rename_i ds hc
      rw [Bool.and_eq_true] at hc
      exact .inl ⟨d, ds, dq_dp (SeqAt.canLay_of_shaped hc.1) (dp_mono s hx), dq_dp (SeqAt.canLay_of_shaped hc.2) (dp_mono s hy), hc.1, hc.2, h.now s _ (.bl _)⟩
    · exact h.elim
  · split at h
    · obtain rfl := dp_str hx
      obtain rfl := dp_str hy
      exact .inr ⟨_, _, rfl, rfl, h.now s _ (.bl _)⟩
    · exact h.elim
  · exact h.elim

/-! ### comparisons as rules: r is the operator's rule, by name -/
section cmps
variable (hr : Room k X.A)
include hr
theorem cEq : OpR X (compareOp .Eq) (fun x y H Q => rEqD X.K x y H Q ∨ rEq x y H Q) := (op_eqD hr.units).or op_eq
theorem cNe : OpR X (compareOp .NotEq) (fun x y H Q => rNeD X.K x y H Q ∨ rNe x y H Q) := (op_neD hr.units).or op_ne
theorem cLt : OpR X (compareOp .Lt) (rLtAll X.K) := opr_lt hr.units0
theorem hu65 : X.A.units + 65 < cLine := by have := hr.un; omega
end cmps
theorem de_eq (hr : Room k X.A) (ha : DE X W a ma) (hb : DE X W b mb) : DE X W (.Compare a [.Eq] [b] pos) (m2 eqD ma mb) := de_cmp (cEq hr) op2_eq ha hb
theorem de_ne (hr : Room k X.A) (ha : DE X W a ma) (hb : DE X W b mb) : DE X W (.Compare a [.NotEq] [b] pos) (m2 neD ma mb) := de_cmp (cNe hr) op2_ne ha hb
theorem de_lt (hr : Room k X.A) (ha : DE X W a ma) (hb : DE X W b mb) : DE X W (.Compare a [.Lt] [b] pos) (m2 ltD ma mb) := de_cmp (cLt hr) op2_lt ha hb
theorem de_le (hr : Room k X.A) (ha : DE X W a ma) (hb : DE X W b mb) : DE X W (.Compare a [.LtE] [b] pos) (m2 leD ma mb) := de_cmp (op_le.or op_le_str) op2_le ha hb
theorem de_gt (hr : Room k X.A) (ha : DE X W a ma) (hb : DE X W b mb) : DE X W (.Compare a [.Gt] [b] pos) (m2 gtD ma mb) := de_cmp (op_gt.or op_gt_str) op2_gt ha hb
theorem de_ge (hr : Room k X.A) (ha : DE X W a ma) (hb : DE X W b mb) : DE X W (.Compare a [.GtE] [b] pos) (m2 geD ma mb) := de_cmp (op_ge.or op_ge_str) op2_ge ha hb
theorem de_is (hr : Room k X.A) (ha : DE X W a ma) (hb : DE X W b mb) : DE X W (.Compare a [.Is] [b] pos) (m2 isND ma mb) := de_cmp op_isN op2_isN ha hb
theorem de_isnot (hr : Room k X.A) (ha : DE X W a ma) (hb : DE X W b mb) : DE X W (.Compare a [.IsNot] [b] pos) (m2 notND ma mb) := de_cmp op_notN op2_notN ha hb
theorem de_in (hr : Room k X.A) (ha : DE X W a ma) (hb : DE X W b mb) (hm : behindInMarks .In b = false := by rfl) : DE X W (.Compare a [.In] [b] pos) (m2 (inD false) ma mb) := de_cmp ((op_inD (hu65 hr)).or op_in_str) op2_in ha hb hm
theorem de_notin (hr : Room k X.A) (ha : DE X W a ma) (hb : DE X W b mb) (hm : behindInMarks .NotIn b = false := by rfl) : DE X W (.Compare a [.NotIn] [b] pos) (m2 (inD true) ma mb) := de_cmp ((op_notInD (hu65 hr)).or op_notIn_str) op2_notIn ha hb hm
theorem dt_eq (hr : Room k X.A) (ha : DE X W a ma) (hb : DE X W b mb) : DT X W (.Compare a [.Eq] [b] pos) (mB (m2 eqD ma mb)) := dt_cmp (cEq hr) op2_eq ha hb
theorem dt_ne (hr : Room k X.A) (ha : DE X W a ma) (hb : DE X W b mb) : DT X W (.Compare a [.NotEq] [b] pos) (mB (m2 neD ma mb)) := dt_cmp (cNe hr) op2_ne ha hb
theorem dt_lt (hr : Room k X.A) (ha : DE X W a ma) (hb : DE X W b mb) : DT X W (.Compare a [.Lt] [b] pos) (mB (m2 ltD ma mb)) := dt_cmp (cLt hr) op2_lt ha hb
theorem dt_le (hr : Room k X.A) (ha : DE X W a ma) (hb : DE X W b mb) : DT X W (.Compare a [.LtE] [b] pos) (mB (m2 leD ma mb)) := dt_cmp (op_le.or op_le_str) op2_le ha hb
theorem dt_gt (hr : Room k X.A) (ha : DE X W a ma) (hb : DE X W b mb) : DT X W (.Compare a [.Gt] [b] pos) (mB (m2 gtD ma mb)) := dt_cmp (op_gt.or op_gt_str) op2_gt ha hb
theorem dt_ge (hr : Room k X.A) (ha : DE X W a ma) (hb : DE X W b mb) : DT X W (.Compare a [.GtE] [b] pos) (mB (m2 geD ma mb)) := dt_cmp (op_ge.or op_ge_str) op2_ge ha hb
theorem dt_is (hr : Room k X.A) (ha : DE X W a ma) (hb : DE X W b mb) : DT X W (.Compare a [.Is] [b] pos) (mB (m2 isND ma mb)) := dt_cmp op_isN op2_isN ha hb
theorem dt_isnot (hr : Room k X.A) (ha : DE X W a ma) (hb : DE X W b mb) : DT X W (.Compare a [.IsNot] [b] pos) (mB (m2 notND ma mb)) := dt_cmp op_notN op2_notN ha hb
theorem dt_in (hr : Room k X.A) (ha : DE X W a ma) (hb : DE X W b mb) (hm : behindInMarks .In b = false := by rfl) : DT X W (.Compare a [.In] [b] pos) (mB (m2 (inD false) ma mb)) := dt_cmp ((op_inD (hu65 hr)).or op_in_str) op2_in ha hb hm
theorem dt_notin (hr : Room k X.A) (ha : DE X W a ma) (hb : DE X W b mb) (hm : behindInMarks .NotIn b = false := by rfl) : DT X W (.Compare a [.NotIn] [b] pos) (mB (m2 (inD true) ma mb)) := dt_cmp ((op_notInD (hu65 hr)).or op_notIn_str) op2_notIn ha hb hm

/-! ### chains -/
def chD (f g : PyData → PyData → Out PyData) (ma mb mc : MD) : MD := fun ρ => ma ρ >>= fun x => mb ρ >>= fun y => f x y >>= fun z => asB z >>= fun t => if t then mc ρ >>= fun u => g y u else .ok (.bool false)
theorem chain_ok {r r' : R2} {f g : PyData → PyData → Out PyData} (hf : Op2 X r f) (hg : Op2 X r' g) {σ : L2.St} {H : Hp} {Q : VK} (h : tD X.K X.mg W (chD f g ma mb mc) σ H Q) : tChain r r' (tD X.K X.mg W ma) (tD X.K X.mg W mb) (tD X.K X.mg W mc) σ H Q := by
  obtain ⟨H0, G0, G, ρ, q, h⟩ := h
  refine ⟨H0, G0, G, ρ, q, (PostO.bind h).mono fun d G1 H1 _ x1 h1 v hv => ?_⟩
  refine ⟨H0, G0, G1, ρ, q.step x1, (PostO.bind h1).mono fun e G2 H2 _ x2 h2 u hu => ?_⟩
  refine hf _ W σ G2 H2 _ v u d e x2.gh (dp_mono x2.g hv) hu ((PostO.bind h2).mono fun z G3 H3 _ x3 h3 w hw => ?_)
  cases z with
  | bool t =>
    obtain rfl := dp_bool hw
    refine ⟨t, rfl, ?_⟩
    have h4 : PostO X.mg W σ G3 H3 (rD X.K Q) (if t then mc ρ >>= fun u => g e u else .ok (.bool false)) := h3
    cases t with
    | true =>
      exact iteT ⟨H0, G0, G3, ρ, (q.step x1).step (x2.trans x3), (PostO.bind (show PostO X.mg W σ G3 H3 (rD X.K Q) (mc ρ >>= fun u => g e u) from h4)).mono fun u' G4 H4 _ x4 h5 w' hw' => hg _ W σ G4 H4 Q u w' e u' x4.gh (dp_mono (x3.g.trans x4.g) hu) hw' h5⟩
    | false => exact iteF ((show PostO X.mg W σ G3 H3 (rD X.K Q) (.ok (.bool false)) from h4).now x3.gh _ (.bl _))
  | _ => exact False.elim h3
theorem de_chain {op op' : CmpOp} {r r' : R2} {f g : PyData → PyData → Out PyData} (hr : OpR X (compareOp op) r) (hr' : OpR X (compareOp op') r') (hf : Op2 X r f) (hg : Op2 X r' g) (ha : DE X W a ma) (hb : DE X W b mb) (hc : DE X W c mc)
    (hm : lastMarks [op, op'] [b, c] = false := by with_unfolding_all rfl) : DE X W (.Compare a [op, op'] [b, c] pos) (chD f g ma mb mc) :=
  pe_imp (pe_chain hr hr' ha hb hc hm) fun _ _ _ h => chain_ok hf hg h
theorem dt_chain {op op' : CmpOp} {r r' : R2} {f g : PyData → PyData → Out PyData} (hr : OpR X (compareOp op) r) (hr' : OpR X (compareOp op') r') (hf : Op2 X r f) (hg : Op2 X r' g) (ha : DE X W a ma) (hb : DE X W b mb) (hc : DE X W c mc)
    (hm : lastMarks [op, op'] [b, c] = false := by with_unfolding_all rfl) : DT X W (.Compare a [op, op'] [b, c] pos) (mB (chD f g ma mb mc)) :=
  pt_imp (pt_chain hr hr' ha hb hc hm) fun _ _ _ h => chain_ok hf hg (toT h)
end
end
end DL
/-! DL5: and, or, not, if; items, slices, displays; built-ins; lists of ours that are read. -/
namespace DL
noncomputable section
open PySem PySem.Spec PyProof.Rows L2
section
variable {X : Cx} {W : WX} {e a b c : Expr} {es rest : List Expr} {ma mb mc : MD} {ml ml' : ML} {mt mu : MB} {pos p pos' p2 : Pos} {x : Str} {k : Nat}

theorem nowB {mg : Str → Option Value} {σ : L2.St} {G H : Hp} {Q : Bool → Hp → Prop} {t : Bool} (s : Same G H) (h : PostO mg W σ G H (rB Q) (.ok t)) : Q t H := PostO.now (R := rB Q) s h
/-! ### tests -/
def DW (X : Cx) (W : WX) (e : Expr) (m : MB) : Prop := PW X e (tT X.K X.mg W m)
def andB (mt mu : MB) : MB := fun ρ => mt ρ >>= fun b => if b then mu ρ else .ok false
def orB (mt mu : MB) : MB := fun ρ => mt ρ >>= fun b => if b then .ok true else mu ρ
def notB (mt : MB) : MB := fun ρ => mt ρ >>= fun b => .ok (!b)
theorem dw_and1 (ha : DT X W a mt) : DW X W (.BoolOp .And [a] pos) mt := pw_and1 ha
theorem dw_or1 (ha : DT X W a mt) : DW X W (.BoolOp .Or [a] pos) mt := pw_or1 ha
theorem dw_and (ha : DT X W a mt) (hb : DW X W (.BoolOp .And (b :: rest) pos) mu) : DW X W (.BoolOp .And (a :: b :: rest) pos) (andB mt mu) :=
  pw_imp (pw_and ha hb) fun σ H Q ⟨H0, G0, G, ρ, r, h⟩ => ⟨H0, G0, G, ρ, r, (PostO.bind h).mono fun t G1 H1 _ x1 h1 => by
    cases t with
    | true => exact (show tT X.K X.mg W mu σ H1 Q from ⟨H0, G0, G1, ρ, r.step x1, h1⟩)
    | false => exact (nowB x1.gh (show PostO X.mg W σ G1 H1 (rB Q) (.ok false) from h1))⟩
theorem dw_or (ha : DT X W a mt) (hb : DW X W (.BoolOp .Or (b :: rest) pos) mu) : DW X W (.BoolOp .Or (a :: b :: rest) pos) (orB mt mu) :=
  pw_imp (pw_or ha hb) fun σ H Q ⟨H0, G0, G, ρ, r, h⟩ => ⟨H0, G0, G, ρ, r, (PostO.bind h).mono fun t G1 H1 _ x1 h1 => by
    cases t with
    | false => exact (show tT X.K X.mg W mu σ H1 Q from ⟨H0, G0, G1, ρ, r.step x1, h1⟩)
    | true => exact (nowB x1.gh (show PostO X.mg W σ G1 H1 (rB Q) (.ok true) from h1))⟩
theorem dt_w (h : DW X W e mt) : DT X W e mt := PW.pt h
theorem dt_not (ha : DT X W a mt) : DT X W (.UnaryOp .Not a pos) (notB mt) :=
  pt_imp (pt_not ha) fun σ H Q ⟨H0, G0, G, ρ, r, h⟩ => ⟨H0, G0, G, ρ, r, (PostO.bind h).mono fun t G1 H1 _ x1 h1 => nowB x1.gh (show PostO X.mg W σ G1 H1 (rB Q) (.ok (!t)) from h1)⟩
def truD : PyData → Out Bool
  | .none => .ok false
  | .bool b => .ok b
  | .int i => .ok (i != 0)
  | .str y => if y.length ≤ sizeLine then .ok ((y.length : Int) != 0) else .no
  | .list ds => .ok (!ds.isEmpty)
  | .tuple ds => .ok (!ds.isEmpty)
  | .dict _ => .no
def tru (ma : MD) : MB := fun ρ => ma ρ >>= truD
theorem isEmpty_dq {K : PySem.W.Frag} {G : Hp} {vs : List V} {ds : List PyData} (h : DqAll K G vs ds) : (!ds.isEmpty) = !vs.isEmpty := by
  cases h <;> rfl
theorem dt_val (ha : DE X W a ma) (he : ∀ whole, isTrue a X.env whole = (do let v ← whole; standAt a.pos; holding [v] (truthy v)) := by intro _; rfl) : DT X W a (tru ma) := by
  refine pt_imp (pt_truth ha he) fun σ H Q ⟨H0, G0, G, ρ, r, h⟩ => ⟨H0, G0, G, ρ, r, (PostO.bind h).mono fun d G1 H1 _ x1 h1 v hv => ?_⟩
  unfold truD at h1
  split at h1
  · obtain rfl := dp_none hv; exact ⟨_, rfl, h1.now x1.gh⟩
  · obtain rfl := dp_bool hv; exact ⟨_, rfl, h1.now x1.gh⟩
  · obtain rfl := dp_int hv; exact ⟨_, rfl, h1.now x1.gh⟩
  · split at h1
    · rename_i hc
      obtain rfl := dp_str hv; exact ⟨_, ⟨hc, rfl⟩, h1.now x1.gh⟩
    · exact h1.elim
  · obtain ⟨a1, v1, rfl, r1, d1⟩ := dp_list hv
    exact ⟨_, .inl ⟨v1, .inl (rd_mono x1.gh r1), isEmpty_dq d1⟩, h1.now x1.gh⟩
  · obtain ⟨a1, v1, rfl, r1, d1⟩ := dp_tuple hv
    exact ⟨_, .inr (.inl ⟨v1, Same.seqT x1.gh r1, isEmpty_dq d1⟩), h1.now x1.gh⟩
  · exact h1.elim
/-! as values -/
def andD (ma mb : MD) : MD := fun ρ => ma ρ >>= fun d => asB d >>= fun t => if t then mb ρ else .ok (.bool false)
def orD (ma mb : MD) : MD := fun ρ => ma ρ >>= fun d => asB d >>= fun t => if t then .ok (.bool true) else mb ρ
def notD (ma : MD) : MD := fun ρ => ma ρ >>= fun d => asB d >>= fun t => .ok (.bool (!t))
theorem de_one {op} (h : DE X W a ma) : DE X W (.BoolOp op [a] pos) ma := pe_one h
theorem de_and (ha : DE X W a ma) (hb : DE X W (.BoolOp .And (b :: rest) pos) mb) : DE X W (.BoolOp .And (a :: b :: rest) pos) (andD ma mb) := by
  refine pe_imp (pe_and ha hb) fun σ H Q ⟨H0, G0, G, ρ, r, h⟩ => ⟨H0, G0, G, ρ, r, (PostO.bind h).mono fun d G1 H1 _ x1 h1 v hv => ?_⟩
  cases d with
  | bool t =>
    obtain rfl := dp_bool hv
    refine ⟨t, rfl, ?_⟩
    cases t with
    | true => exact iteT ⟨H0, G0, G1, ρ, r.step x1, h1⟩
    | false => exact iteF ((show PostO X.mg W σ G1 H1 (rD X.K Q) (.ok (.bool false)) from h1).now x1.gh _ (.bl _))
  | _ => exact False.elim h1
theorem de_or (ha : DE X W a ma) (hb : DE X W (.BoolOp .Or (b :: rest) pos) mb) : DE X W (.BoolOp .Or (a :: b :: rest) pos) (orD ma mb) := by
  refine pe_imp (pe_or ha hb) fun σ H Q ⟨H0, G0, G, ρ, r, h⟩ => ⟨H0, G0, G, ρ, r, (PostO.bind h).mono fun d G1 H1 _ x1 h1 v hv => ?_⟩
  cases d with
  | bool t =>
    obtain rfl := dp_bool hv
    refine ⟨t, rfl, ?_⟩
    cases t with
    | false => exact iteF ⟨H0, G0, G1, ρ, r.step x1, h1⟩
    | true => exact iteT ((show PostO X.mg W σ G1 H1 (rD X.K Q) (.ok (.bool true)) from h1).now x1.gh _ (.bl _))
  | _ => exact False.elim h1
theorem de_not (ha : DE X W a ma) : DE X W (.UnaryOp .Not a pos) (notD ma) := by
  refine pe_imp (pe_not ha) fun σ H Q ⟨H0, G0, G, ρ, r, h⟩ => ⟨H0, G0, G, ρ, r, (PostO.bind h).mono fun d G1 H1 _ x1 h1 v hv => ?_⟩
  cases d with
  | bool t =>
    obtain rfl := dp_bool hv
    exact ⟨t, rfl, (show PostO X.mg W σ G1 H1 (rD X.K Q) (.ok (.bool (!t))) from h1).now x1.gh _ (.bl _)⟩
  | _ => exact False.elim h1
def ifD {α : Type} (mt : MB) (ma mb : Ro → Out α) : Ro → Out α := fun ρ => mt ρ >>= fun t => if t then ma ρ else mb ρ
theorem de_if (hc : DT X W c mt) (ha : DE X W a ma) (hb : DE X W b mb) : DE X W (.IfExp c a b pos) (ifD mt ma mb) :=
  pe_imp (pe_ifExp hc ha hb) fun σ H Q ⟨H0, G0, G, ρ, r, h⟩ => ⟨H0, G0, G, ρ, r, (PostO.bind h).mono fun t G1 H1 _ x1 h1 => by
    cases t with
    | true => exact (show tD X.K X.mg W ma σ H1 Q from ⟨H0, G0, G1, ρ, r.step x1, h1⟩)
    | false => exact (show tD X.K X.mg W mb σ H1 Q from ⟨H0, G0, G1, ρ, r.step x1, h1⟩)⟩
theorem df_if {ma mb : ML} (hc : DT X W c mt) (ha : DF X W a ma) (hb : DF X W b mb) : DF X W (.IfExp c a b pos) (ifD mt ma mb) :=
  pe_imp (pe_ifExp hc ha hb) fun σ H Q ⟨H0, G0, G, ρ, r, h⟩ => ⟨H0, G0, G, ρ, r, (PostO.bind h).mono fun t G1 H1 _ x1 h1 => by
    have h2 := h1.mono fun _ _ _ _ _ q => rF_mono x1.h q
    cases t with
    | true => exact (show tF X.K X.mg W ma σ H1 Q from ⟨H0, G0, G1, ρ, r.step x1, h2⟩)
    | false => exact (show tF X.K X.mg W mb σ H1 Q from ⟨H0, G0, G1, ρ, r.step x1, h2⟩)⟩

/-! ### items -/
def ixD : PyData → PyData → Out PyData
  | .list ds, .int i => match atI ds i with | some d => .ok d | none => .no
  | .tuple ds, .int i => match atI ds i with | some d => .ok d | none => .no
  | .dict [(.none, .list ds)], .int i => match atI ds i with | some d => .ok d | none => .no
  | .str z, .int i => if z.length ≤ sizeLine then (match atI z.cps.toList i with | some c => .ok (.str ⟨#[c]⟩) | none => .no) else .no
  | _, _ => .no
theorem atI_dq {K : PySem.W.Frag} {G : Hp} {vs : List V} {ds : List PyData} {i : Int} {d : PyData} (h : DqAll K G vs ds) (e : atI ds i = some d) : ∃ v, atI vs i = some v ∧ Dq K G v d := by
  unfold atI at e ⊢
  rw [dpAll_len h]
  cases q : ixN ds.length i with
  | none => rw [q] at e; cases e
  | some j =>
    rw [q] at e
    exact dpAll_get' h e
theorem dp_ro {K : PySem.W.Frag} {G : Hp} {v : V} {ds : List PyData} (h : Dq K G v (roD ds)) : ∃ a vs, v = .ref a ∧ SqL K G a vs ∧ DqAll K G vs ds := by cases h with | ro a b => exact ⟨_, _, rfl, a, b⟩
theorem op2_ix : Op2 X (rIx X.K) ixD := by
  intro mg W σ G H Q x y d e s hx hy h
  unfold ixD at h
  split at h
  · obtain ⟨a1, v1, rfl, r1, d1⟩ := dp_list hx
    obtain rfl := dp_int hy
    split at h
    · rename_i z hz
      obtain ⟨v, hv, dv⟩ := atI_dq d1 hz
      exact .inl ⟨a1, v1, _, v, rfl, rfl, .inl (rd_mono s r1), hv, h.now s _ dv⟩
    · exact h.elim
  · obtain ⟨a1, v1, rfl, r1, d1⟩ := dp_tuple hx
    obtain rfl := dp_int hy
    split at h
    · rename_i z hz
      obtain ⟨v, hv, dv⟩ := atI_dq d1 hz
      exact .inr (.inl ⟨a1, v1, _, v, rfl, rfl, Same.seqT s r1, hv, h.now s _ dv⟩)
    · exact h.elim
  · obtain ⟨a1, v1, rfl, r1, d1⟩ := dp_ro hx
    obtain rfl := dp_int hy
    split at h
    · rename_i z hz
      obtain ⟨v, hv, dv⟩ := atI_dq d1 hz
      exact .inl ⟨a1, v1, _, v, rfl, rfl, s.seq r1, hv, h.now s _ dv⟩
    · exact h.elim
  · obtain rfl := dp_str hx
    obtain rfl := dp_int hy
    split at h
    · rename_i hc
      split at h
      · rename_i z hz
        exact .inr (.inr ⟨_, _, z, rfl, rfl, hc, hz, h.now s _ (.str _)⟩)
      · exact h.elim
    · exact h.elim
  · exact h.elim
theorem de_ix (ha : DE X W a ma) (hb : DE X W b mb) (hs : PlainIx b := by exact fun _ _ => rfl) : DE X W (.Subscript a b pos) (m2 ixD ma mb) :=
  pe_imp (pe_ix ix_seq ha hb hs) fun _ _ _ h => two_ok op2_ix h

/-! ### argument lists, displays -/
def nilA : ML := fun _ => .ok []
def consA (ma : MD) (ml : ML) : ML := fun ρ => ma ρ >>= fun d => ml ρ >>= fun ds => .ok (d :: ds)
theorem da_nil : DA X W [] nilA := pa_imp pa_nil fun σ H Q ⟨H0, G0, G, ρ, r, h⟩ => h.now r.gh _ .nil
theorem da_cons (ha : DE X W a ma) (hr : DA X W es ml) (hs : starEach (a :: es) X.env = (false, eval a X.env) :: starEach es X.env := by rfl) : DA X W (a :: es) (consA ma ml) := by
  refine pa_imp (pa_cons ha hr hs) fun σ H Q ⟨H0, G0, G, ρ, r, h⟩ => ⟨H0, G0, G, ρ, r, (PostO.bind h).mono fun d G1 H1 _ x1 h1 v hv => ?_⟩
  refine ⟨H0, G0, G1, ρ, r.step x1, (PostO.bind h1).mono fun ds G2 H2 _ x2 h2 vs hvs => ?_⟩
  exact h2.now x2.gh _ (.cons (dp_mono x2.g hv) hvs)
def tupD (ml : ML) : MD := fun ρ => ml ρ >>= fun ds => if ds.length ≤ sizeLine then .ok (.tuple ds) else .no
def lstF (ml : ML) : ML := fun ρ => ml ρ >>= fun ds => if ds.length ≤ sizeLine then .ok ds else .no
theorem de_tup {x1} (h : DA X W es ml) : DE X W (.Tuple es x1 pos) (tupD ml) := by
  refine pe_imp (pe_tup h) fun σ H Q ⟨H0, G0, G, ρ, r, h⟩ => ⟨H0, G0, G, ρ, r, (PostO.bind h).mono fun ds G1 H1 _ x1 h1 vs hv => ?_⟩
  split at h1
  · rename_i hc
    exact ⟨by rw [dpAll_len hv]; exact hc, fun p hp => post_newT x1.gh h1 hv hp⟩
  · exact h1.elim
theorem df_lst (h : DA X W es ml) : DF X W (.List es pos) (lstF ml) := by
  refine pe_imp (pe_lst h) fun σ H Q ⟨H0, G0, G, ρ, r, h⟩ => ⟨H0, G0, G, ρ, r, (PostO.bind h).mono fun ds G1 H1 _ x1 h1 vs hv => ?_⟩
  split at h1
  · rename_i hc
    exact ⟨by rw [dpAll_len hv]; exact hc, fun p hp => post_newF x1.gh (h1.mono fun _ _ _ _ _ q => rF_mono x1.h q) hv hp⟩
  · exact h1.elim

/-! ### slices -/
def DO (X : Cx) (W : WX) (e : Option Expr) (m : Ro → Out (Option Int)) : Prop :=
  PO X e (fun σ H Q => ∃ H0 G0 G ρ, Rel X.K H0 G0 G ρ σ H ∧ PostO X.mg W σ G H (fun o _ H' => Q o H') (m ρ))
def asI : PyData → Out (Option Int)
  | .int i => .ok (some i)
  | _ => .no
def noP : Ro → Out (Option Int) := fun _ => .ok none
def someP (ma : MD) : Ro → Out (Option Int) := fun ρ => ma ρ >>= asI
theorem po_imp {e : Option Expr} {t t' : TO} (h : PO X e t) (i : ∀ σ H Q, t' σ H Q → t σ H Q) : PO X e t' := ⟨fun pins s σ H Q I q => h.run pins s σ H Q I (i σ H Q q)⟩
theorem do_none : DO X W none noP := po_imp po_none fun σ H Q ⟨H0, G0, G, ρ, r, h⟩ => h.now r.gh
theorem do_some (ha : DE X W a ma) : DO X W (some a) (someP ma) := by
  refine po_imp (po_some ha) fun σ H Q ⟨H0, G0, G, ρ, r, h⟩ => ⟨H0, G0, G, ρ, r, (PostO.bind h).mono fun d G1 H1 _ x1 h1 v hv => ?_⟩
  cases d with
  | int i => obtain rfl := dp_int hv; exact ⟨i, rfl, h1.now x1.gh⟩
  | _ => exact False.elim h1
def cutD (ds : List PyData) (lo hi : Option Int) : List PyData := (ds.drop (HT.sIx ds.length 0 lo)).take (HT.sIx ds.length ds.length hi - HT.sIx ds.length 0 lo)
def slD (d : PyData) (lo hi : Option Int) : Out PyData := match d with
  | .list ds => .ok (.list (cutD ds lo hi))
  | .tuple ds => if HT.sIx ds.length 0 lo = 0 ∧ HT.sIx ds.length ds.length hi = ds.length then .ok (.tuple ds) else .ok (.tuple (cutD ds lo hi))
  | .str z => if z.length ≤ sizeLine then .ok (.str (cutS z lo hi)) else .no
  | _ => .no
def slF (d : PyData) (lo hi : Option Int) : Out (List PyData) := match d with
  | .list ds => .ok (cutD ds lo hi)
  | _ => .no
def m3S {α : Type} (f : PyData → Option Int → Option Int → Out α) (ma : MD) (m1 m2 : Ro → Out (Option Int)) : Ro → Out α := fun ρ => ma ρ >>= fun d => m1 ρ >>= fun l => m2 ρ >>= fun u => f d l u
theorem cut_dq {K : PySem.W.Frag} {G : Hp} {vs : List V} {ds : List PyData} (h : DqAll K G vs ds) (lo hi : Option Int) : DqAll K G (cutV vs lo hi) (cutD ds lo hi) := by
  unfold cutV cutD
  rw [dpAll_len h]
  exact dpAll_take _ (dpAll_drop _ h)
variable {lo hi : Option Expr} {m1' m2' : Ro → Out (Option Int)}
theorem de_sl (ha : DE X W a ma) (hl : DO X W lo m1') (hh : DO X W hi m2') : DE X W (.Subscript a (.Slice lo hi none p2) pos) (m3S slD ma m1' m2') := by
  refine pe_imp (pe_slice ((sl_list.or sl_tupA).or sl_str) ha hl hh) fun σ H Q ⟨H0, G0, G, ρ, r, h⟩ => ⟨H0, G0, G, ρ, r, (PostO.bind h).mono fun d G1 H1 _ x1 h1 v hv => ?_⟩
  refine ⟨H0, G0, G1, ρ, r.step x1, (PostO.bind h1).mono fun l G2 H2 _ x2 h2 => ?_⟩
  refine ⟨H0, G0, G2, ρ, (r.step x1).step x2, (PostO.bind h2).mono fun u G3 H3 _ x3 h3 => ?_⟩
  have hv3 := dp_mono (x2.g.trans x3.g) hv
  have s := x3.gh
  unfold slD at h3
  split at h3
  · obtain ⟨a1, v1, rfl, r1, d1⟩ := dp_list hv3
    exact .inl (.inl ⟨a1, v1, rfl, .inl (rd_mono s r1), fun p hp => post_newL s h3 (cut_dq d1 l u) hp⟩)
  · obtain ⟨a1, v1, rfl, r1, d1⟩ := dp_tuple hv3
    refine .inl (.inr ⟨a1, v1, rfl, Same.seqT s r1, fun z => ?_, fun z p hp => ?_⟩)
    · rw [dpAll_len d1] at z
      rw [if_pos z] at h3
      exact h3.now s _ (.tup r1 d1)
    · rw [dpAll_len d1] at z
      rw [if_neg z] at h3
      exact post_newT s h3 (cut_dq d1 l u) hp
  · obtain rfl := dp_str hv3
    split at h3
    · rename_i hc
      exact .inr ⟨_, rfl, hc, h3.now s _ (.str _)⟩
    · exact h3.elim
  · exact h3.elim
theorem df_sl (ha : DE X W a ma) (hl : DO X W lo m1') (hh : DO X W hi m2') : DF X W (.Subscript a (.Slice lo hi none p2) pos) (m3S slF ma m1' m2') := by
  refine pe_imp (pe_slice sl_list ha hl hh) fun σ H Q ⟨H0, G0, G, ρ, r, h⟩ => ⟨H0, G0, G, ρ, r, (PostO.bind h).mono fun d G1 H1 _ x1 h1 v hv => ?_⟩
  refine ⟨H0, G0, G1, ρ, r.step x1, (PostO.bind h1).mono fun l G2 H2 _ x2 h2 => ?_⟩
  refine ⟨H0, G0, G2, ρ, (r.step x1).step x2, (PostO.bind h2).mono fun u G3 H3 _ x3 h3 => ?_⟩
  have hv3 := dp_mono (x2.g.trans x3.g) hv
  have s := x3.gh
  unfold slF at h3
  split at h3
  · obtain ⟨a1, v1, rfl, r1, d1⟩ := dp_list hv3
    exact ⟨a1, v1, rfl, .inl (rd_mono s r1), fun p hp => post_newF s (h3.mono fun _ _ _ _ _ q => rF_mono ((x1.h.trans x2.h).trans x3.h) q) (cut_dq d1 l u) hp⟩
  · exact h3.elim
end
end
end DL
/-! DL6: calls of built-ins; lists of ours that are read. -/
namespace DL
noncomputable section
open PySem PySem.Spec PyProof.Rows L2
section
variable {X : Cx} {W : WX} {e a b c : Expr} {es rest : List Expr} {ma mb mc : MD} {ml ml' : ML} {mt mu : MB} {pos p pos' p2 : Pos} {x : Str} {k : Nat}

/-! ### calls of built-ins, by their rules -/
def CallD (X : Cx) (r : List V → Hp → VK → Prop) (f : List PyData → Out PyData) : Prop := ∀ (mg : Str → Option Value) (W : WX) (σ : L2.St) (G H : Hp) (Q : VK) (vs : List V) (ds : List PyData), Same G H → DqAll X.K G vs ds → PostO mg W σ G H (rD X.K Q) (f ds) → r vs H Q
def CallF (X : Cx) (r : List V → Hp → VK → Prop) (f : List PyData → Out (List PyData)) : Prop := ∀ (mg : Str → Option Value) (W : WX) (σ : L2.St) (G H : Hp) (Q : VK) (vs : List V) (ds : List PyData), Same G H → DqAll X.K G vs ds → PostO mg W σ G H (rF X.K H Q) (f ds) → r vs H Q
def cD (f : List PyData → Out PyData) (ml : ML) : MD := fun ρ => ml ρ >>= f
def cF (f : List PyData → Out (List PyData)) (ml : ML) : ML := fun ρ => ml ρ >>= f
theorem call_ok {r : List V → Hp → VK → Prop} {f : List PyData → Out PyData} (ho : CallD X r f) {σ : L2.St} {H : Hp} {Q : VK} (h : tD X.K X.mg W (cD f ml) σ H Q) : tCB r (tA X.K X.mg W ml) σ H Q := by
  obtain ⟨H0, G0, G, ρ, q, h⟩ := h
  exact ⟨H0, G0, G, ρ, q, (PostO.bind h).mono fun ds G1 H1 _ x1 h1 vs hv => ho _ W σ G1 H1 Q vs ds x1.gh hv h1⟩
theorem callF_ok {r : List V → Hp → VK → Prop} {f : List PyData → Out (List PyData)} (ho : CallF X r f) {σ : L2.St} {H : Hp} {Q : VK} (h : tF X.K X.mg W (cF f ml) σ H Q) : tCB r (tA X.K X.mg W ml) σ H Q := by
  obtain ⟨H0, G0, G, ρ, q, h⟩ := h
  exact ⟨H0, G0, G, ρ, q, (PostO.bind h).mono fun ds G1 H1 _ x1 h1 vs hv => ho _ W σ G1 H1 Q vs ds x1.gh hv (h1.mono fun _ _ _ _ _ q => rF_mono x1.h q)⟩
variable {id T : String} {r : List V → Hp → VK → Prop} {f : List PyData → Out PyData} {g : List PyData → Out (List PyData)}
theorem de_callB (hc : CallR X (.builtin id) r) (ho : CallD X r f) (hm : X.mg x = none) (hv : bootBuiltins x = some (.builtin id)) (ha : DA X W (e :: es) ml) (hg : Gl X x := by rfl) (hn : x ≠ "__name__" := by decide) (hdb : (x == ("__debug__" : Str)) = false := by decide)
    (he : starEach (e :: es) X.env = (false, eval e X.env) :: starEach es X.env := by rfl) (hpl : (backTo pos (starEach es X.env)).any (·.1) = false := by rfl) : DE X W (.Call (.Name x p) (e :: es) [] pos) (cD f ml) :=
  pe_imp (pe_callB hc hg hm hv ha hn hdb he hpl) fun _ _ _ h => call_ok ho h
theorem de_callT (hc : CallR X (.type T) r) (ho : CallD X r f) (hm : X.mg x = none) (hv : bootBuiltins x = some (.type T)) (ha : DA X W (e :: es) ml) (hg : Gl X x := by rfl) (hn : x ≠ "__name__" := by decide) (hdb : (x == ("__debug__" : Str)) = false := by decide)
    (he : starEach (e :: es) X.env = (false, eval e X.env) :: starEach es X.env := by rfl) (hpl : (backTo pos (starEach es X.env)).any (·.1) = false := by rfl) : DE X W (.Call (.Name x p) (e :: es) [] pos) (cD f ml) :=
  pe_imp (pe_callTy hc hg hm hv ha hn hdb he hpl) fun _ _ _ h => call_ok ho h
theorem df_callB (hc : CallR X (.builtin id) r) (ho : CallF X r g) (hm : X.mg x = none) (hv : bootBuiltins x = some (.builtin id)) (ha : DA X W (e :: es) ml) (hg : Gl X x := by rfl) (hn : x ≠ "__name__" := by decide) (hdb : (x == ("__debug__" : Str)) = false := by decide)
    (he : starEach (e :: es) X.env = (false, eval e X.env) :: starEach es X.env := by rfl) (hpl : (backTo pos (starEach es X.env)).any (·.1) = false := by rfl) : DF X W (.Call (.Name x p) (e :: es) [] pos) (cF g ml) :=
  pe_imp (pe_callB hc hg hm hv ha hn hdb he hpl) fun _ _ _ h => callF_ok ho h
theorem df_callT (hc : CallR X (.type T) r) (ho : CallF X r g) (hm : X.mg x = none) (hv : bootBuiltins x = some (.type T)) (ha : DA X W (e :: es) ml) (hg : Gl X x := by rfl) (hn : x ≠ "__name__" := by decide) (hdb : (x == ("__debug__" : Str)) = false := by decide)
    (he : starEach (e :: es) X.env = (false, eval e X.env) :: starEach es X.env := by rfl) (hpl : (backTo pos (starEach es X.env)).any (·.1) = false := by rfl) : DF X W (.Call (.Name x p) (e :: es) [] pos) (cF g ml) :=
  pe_imp (pe_callTy hc hg hm hv ha hn hdb he hpl) fun _ _ _ h => callF_ok ho h
/-- a name of the module for a built-in function (from math import gcd) -/
theorem de_callM (hc : CallR X (.builtin id) r) (ho : CallD X r f) (hm : X.mg x = some (.builtin id)) (ha : DA X W (e :: es) ml) (hg : Gl X x := by rfl) (hdb : (x == ("__debug__" : Str)) = false := by decide)
    (he : starEach (e :: es) X.env = (false, eval e X.env) :: starEach es X.env := by rfl) (hpl : (backTo pos (starEach es X.env)).any (·.1) = false := by rfl) : DE X W (.Call (.Name x p) (e :: es) [] pos) (cD f ml) :=
  pe_imp (pe_callBfun hc hg hm ha hdb he hpl) fun _ _ _ h => call_ok ho h

/-! ### which built-ins -/
theorem dq1 {K : PySem.W.Frag} {G : Hp} {vs : List V} {d : PyData} (h : DqAll K G vs [d]) : ∃ v, vs = [v] ∧ Dq K G v d := by
  cases h with | cons a b => cases b; exact ⟨_, rfl, a⟩
theorem dq2 {K : PySem.W.Frag} {G : Hp} {vs : List V} {d d2 : PyData} (h : DqAll K G vs [d, d2]) : ∃ v w, vs = [v, w] ∧ Dq K G v d ∧ Dq K G w d2 := by
  cases h with | cons a b => cases b with | cons a2 b => cases b; exact ⟨_, _, rfl, a, a2⟩
def intD : List PyData → Out PyData
  | [.int i] => .ok (.int i)
  | [.bool t] => .ok (.int (if t then 1 else 0))
  | _ => .no
theorem call_int : CallD X (fun xs H Q => (∃ i, xs = [.int i] ∧ Q (.int i) H) ∨ ∃ k, xs = [.bl k] ∧ Q (.int (if k then 1 else 0)) H) intD := by
  intro mg W σ G H Q vs ds s hv h
  unfold intD at h
  split at h
  · obtain ⟨v, rfl, hd⟩ := dq1 hv
    obtain rfl := dp_int hd
    exact .inl ⟨_, rfl, h.now s _ (.int _)⟩
  · obtain ⟨v, rfl, hd⟩ := dq1 hv
    obtain rfl := dp_bool hd
    exact .inr ⟨_, rfl, h.now s _ (.int _)⟩
  · exact h.elim
def lenD : List PyData → Out PyData
  | [.list ds] => .ok (.int ds.length)
  | [.tuple ds] => .ok (.int ds.length)
  | [.dict [(.none, .list ds)]] => .ok (.int ds.length)
  | [.str z] => if z.length ≤ sizeLine then .ok (.int z.length) else .no
  | _ => .no
theorem call_lenD : CallD X (fun xs H Q => (∃ p ys, xs = [.ref p] ∧ (SqL X.K H p ys ∨ SqT X.K H p ys) ∧ Q (.int ys.length) H) ∨ ∃ z, xs = [.str z] ∧ z.length ≤ sizeLine ∧ Q (.int z.length) H) lenD := by
  intro mg W σ G H Q vs ds s hv h
  unfold lenD at h
  split at h
  · obtain ⟨v, rfl, hd⟩ := dq1 hv
    obtain ⟨a1, v1, rfl, r1, d1⟩ := dp_list hd
    refine .inl ⟨a1, v1, rfl, .inl (.inl (rd_mono s r1)), ?_⟩
    rw [dpAll_len d1]
    exact h.now s _ (.int _)
  · obtain ⟨v, rfl, hd⟩ := dq1 hv
    obtain ⟨a1, v1, rfl, r1, d1⟩ := dp_tuple hd
    refine .inl ⟨a1, v1, rfl, .inr (Same.seqT s r1), ?_⟩
    rw [dpAll_len d1]
    exact h.now s _ (.int _)
  · obtain ⟨v, rfl, hd⟩ := dq1 hv
    obtain ⟨a1, v1, rfl, r1, d1⟩ := dp_ro hd
    refine .inl ⟨a1, v1, rfl, .inl (s.seq r1), ?_⟩
    rw [dpAll_len d1]
    exact h.now s _ (.int _)
  · obtain ⟨v, rfl, hd⟩ := dq1 hv
    obtain rfl := dp_str hd
    split at h
    · rename_i hc
      exact .inr ⟨_, rfl, hc, h.now s _ (.int _)⟩
    · exact h.elim
  · exact h.elim
def absD : List PyData → Out PyData
  | [.int i] => .ok (.int (if i < 0 then -i else i))
  | _ => .no
theorem call_absD : CallD X (fun xs H Q => ∃ i, xs = [.int i] ∧ Q (.int (if i < 0 then -i else i)) H) absD := by
  intro mg W σ G H Q vs ds s hv h
  unfold absD at h
  split at h
  · obtain ⟨v, rfl, hd⟩ := dq1 hv
    obtain rfl := dp_int hd
    exact ⟨_, rfl, h.now s _ (.int _)⟩
  · exact h.elim
/-- the greatest, the least of a :: ns -/
def maxI (a : Int) : List Int → Int
  | [] => a
  | b :: r => maxI (if b > a then b else a) r
def minI (a : Int) : List Int → Int
  | [] => a
  | b :: r => minI (if b < a then b else a) r
theorem maxI_ge : ∀ (ns : List Int) (a : Int), a ≤ maxI a ns ∧ ∀ y ∈ ns, y ≤ maxI a ns
  | [], a => ⟨Int.le_refl _, fun _ h => by simp at h⟩
  | b :: r, a => by
    obtain ⟨h1, h2⟩ := maxI_ge r (if b > a then b else a)
    refine ⟨?_, fun y hy => ?_⟩
    · show a ≤ maxI (if b > a then b else a) r
      refine Int.le_trans ?_ h1
      split <;> omega
    · show y ≤ maxI (if b > a then b else a) r
      rcases List.mem_cons.mp hy with rfl | hy
      · refine Int.le_trans ?_ h1
        split <;> omega
      · exact h2 y hy
theorem maxI_mem : ∀ (ns : List Int) (a : Int), maxI a ns ∈ a :: ns
  | [], a => by simp [maxI]
  | b :: r, a => by
    have h := maxI_mem r (if b > a then b else a)
    show maxI (if b > a then b else a) r ∈ a :: b :: r
    by_cases hc : b > a
    · rw [if_pos hc] at h ⊢
      exact List.mem_cons_of_mem _ h
    · rw [if_neg hc] at h ⊢
      rcases List.mem_cons.mp h with h | h
      · rw [h]; exact List.mem_cons_self
      · exact List.mem_cons_of_mem _ (List.mem_cons_of_mem _ h)
theorem minI_le : ∀ (ns : List Int) (a : Int), minI a ns ≤ a ∧ ∀ y ∈ ns, minI a ns ≤ y
  | [], a => ⟨Int.le_refl _, fun _ h => by simp at h⟩
  | b :: r, a => by
    obtain ⟨h1, h2⟩ := minI_le r (if b < a then b else a)
    refine ⟨?_, fun y hy => ?_⟩
    · show minI (if b < a then b else a) r ≤ a
      refine Int.le_trans h1 ?_
      split <;> omega
    · show minI (if b < a then b else a) r ≤ y
      rcases List.mem_cons.mp hy with rfl | hy
      · refine Int.le_trans h1 ?_
        split <;> omega
      · exact h2 y hy
theorem minI_mem : ∀ (ns : List Int) (a : Int), minI a ns ∈ a :: ns
  | [], a => by simp [minI]
  | b :: r, a => by
    have h := minI_mem r (if b < a then b else a)
    show minI (if b < a then b else a) r ∈ a :: b :: r
    by_cases hc : b < a
    · rw [if_pos hc] at h ⊢
      exact List.mem_cons_of_mem _ h
    · rw [if_neg hc] at h ⊢
      rcases List.mem_cons.mp h with h | h
      · rw [h]; exact List.mem_cons_self
      · exact List.mem_cons_of_mem _ (List.mem_cons_of_mem _ h)
def maxD : List PyData → Out PyData
  | [.int i, .int j] => .ok (.int (if j > i then j else i))
  | [.list ds] => match intsOf ds with
    | some (n :: ns) => .ok (.int (maxI n ns))
    | _ => .no
  | _ => .no
def minD : List PyData → Out PyData
  | [.int i, .int j] => .ok (.int (if j < i then j else i))
  | [.list ds] => match intsOf ds with
    | some (n :: ns) => .ok (.int (minI n ns))
    | _ => .no
  | _ => .no
theorem call_maxD : CallD X (fun xs H Q => (∃ i j, xs = [.int i, .int j] ∧ Q (.int (if j > i then j else i)) H) ∨ rMax X.K xs H Q) maxD := by
  intro mg W σ G H Q vs ds s hv h
  unfold maxD at h
  split at h
  · obtain ⟨v, w, rfl, hd, hd2⟩ := dq2 hv
    obtain rfl := dp_int hd
    obtain rfl := dp_int hd2
    exact .inl ⟨_, _, rfl, h.now s _ (.int _)⟩
  · obtain ⟨v, rfl, hd⟩ := dq1 hv
    obtain ⟨a1, v1, rfl, r1, d1⟩ := dp_list hd
    split at h
    · rename_i n ns' q
      rw [intsOf_eq q] at d1
      rw [vals_ints d1] at r1
      refine .inr ⟨a1, _, rfl, .inl (rd_mono s r1), Nat.succ_pos _, fun m hm hle => ?_⟩
      have e : m = maxI n ns' := by
        have h1 := hle _ (maxI_mem ns' n)
        have h2 := maxI_ge ns' n
        rcases List.mem_cons.mp hm with rfl | hm
        · exact Int.le_antisymm h2.1 h1
        · exact Int.le_antisymm (h2.2 m hm) h1
      rw [e]
      exact h.now s _ (.int _)
    · exact h.elim
  · exact h.elim
theorem call_minD : CallD X (fun xs H Q => (∃ i j, xs = [.int i, .int j] ∧ Q (.int (if j < i then j else i)) H) ∨ rMin X.K xs H Q) minD := by
  intro mg W σ G H Q vs ds s hv h
  unfold minD at h
  split at h
  · obtain ⟨v, w, rfl, hd, hd2⟩ := dq2 hv
    obtain rfl := dp_int hd
    obtain rfl := dp_int hd2
    exact .inl ⟨_, _, rfl, h.now s _ (.int _)⟩
  · obtain ⟨v, rfl, hd⟩ := dq1 hv
    obtain ⟨a1, v1, rfl, r1, d1⟩ := dp_list hd
    split at h
    · rename_i n ns' q
      rw [intsOf_eq q] at d1
      rw [vals_ints d1] at r1
      refine .inr ⟨a1, _, rfl, .inl (rd_mono s r1), Nat.succ_pos _, fun m hm hle => ?_⟩
      have e : m = minI n ns' := by
        have h1 := hle _ (minI_mem ns' n)
        have h2 := minI_le ns' n
        rcases List.mem_cons.mp hm with rfl | hm
        · exact Int.le_antisymm h1 h2.1
        · exact Int.le_antisymm h1 (h2.2 m hm)
      rw [e]
      exact h.now s _ (.int _)
    · exact h.elim
  · exact h.elim
def sumD : List PyData → Out PyData
  | [.list ds] => match intsOf ds with
    | some ns => .ok (.int ns.sum)
    | _ => .no
  | _ => .no
theorem call_sumD : CallD X (rSum X.K) sumD := by
  intro mg W σ G H Q vs ds s hv h
  unfold sumD at h
  split at h
  · obtain ⟨v, rfl, hd⟩ := dq1 hv
    obtain ⟨a1, v1, rfl, r1, d1⟩ := dp_list hd
    split at h
    · rename_i ns q
      rw [intsOf_eq q] at d1
      rw [vals_ints d1] at r1
      exact ⟨a1, _, rfl, .inl (rd_mono s r1), h.now s _ (.int _)⟩
    · exact h.elim
  · exact h.elim
def boolsOf : List PyData → Option (List Bool)
  | [] => some []
  | .bool i :: r => (boolsOf r).map (i :: ·)
  | _ :: _ => none
theorem boolsOf_map : ∀ ns : List Bool, boolsOf (ns.map PyData.bool) = some ns
  | [] => rfl
  | n :: ns => by show (boolsOf (ns.map PyData.bool)).map (n :: ·) = _; rw [boolsOf_map ns]; rfl
theorem boolsOf_eq : ∀ {ds : List PyData} {ns : List Bool}, boolsOf ds = some ns → ds = ns.map PyData.bool
  | [], _, h => by cases h; rfl
  | d :: r, ns, h => by
    cases d with
    | bool i =>
      have h' : (boolsOf r).map (i :: ·) = some ns := h
      cases q : boolsOf r with
      | none => rw [q] at h'; cases h'
      | some ms => rw [q] at h'; cases h'; rw [boolsOf_eq q]; rfl
    | _ => cases h
def anyD : List PyData → Out PyData
  | [.list ds] => match boolsOf ds with
    | some ns => .ok (.bool (ns.any (fun z => z)))
    | _ => .no
  | _ => .no
def allD : List PyData → Out PyData
  | [.list ds] => match boolsOf ds with
    | some ns => .ok (.bool (ns.all (fun z => z)))
    | _ => .no
  | _ => .no
theorem call_anyD : CallD X (rAny X.K) anyD := by
  intro mg W σ G H Q vs ds s hv h
  unfold anyD at h
  split at h
  · obtain ⟨v, rfl, hd⟩ := dq1 hv
    obtain ⟨a1, v1, rfl, r1, d1⟩ := dp_list hd
    split at h
    · rename_i ns q
      rw [boolsOf_eq q] at d1
      rw [vals_bools d1] at r1
      exact ⟨a1, _, rfl, .inl (rd_mono s r1), h.now s _ (.bl _)⟩
    · exact h.elim
  · exact h.elim
theorem call_allD : CallD X (rAll X.K) allD := by
  intro mg W σ G H Q vs ds s hv h
  unfold allD at h
  split at h
  · obtain ⟨v, rfl, hd⟩ := dq1 hv
    obtain ⟨a1, v1, rfl, r1, d1⟩ := dp_list hd
    split at h
    · rename_i ns q
      rw [boolsOf_eq q] at d1
      rw [vals_bools d1] at r1
      exact ⟨a1, _, rfl, .inl (rd_mono s r1), h.now s _ (.bl _)⟩
    · exact h.elim
  · exact h.elim
def gcdD : List PyData → Out PyData
  | [.int i, .int j] => .ok (.int ((Nat.gcd i.natAbs j.natAbs : Nat) : Int))
  | _ => .no
theorem call_gcdD : CallD X rGcd gcdD := by
  intro mg W σ G H Q vs ds s hv h
  unfold gcdD at h
  split at h
  · obtain ⟨v, w, rfl, hd, hd2⟩ := dq2 hv
    obtain rfl := dp_int hd
    obtain rfl := dp_int hd2
    exact ⟨_, _, rfl, h.now s _ (.int _)⟩
  · exact h.elim
/-- list(xs) -/
def listF : List PyData → Out (List PyData)
  | [.list ds] => .ok ds
  | [.tuple ds] => .ok ds
  | _ => .no
theorem call_listF : CallF X (fun xs H Q => ∃ p ys, xs = [.ref p] ∧ (SqL X.K H p ys ∨ SqT X.K H p ys) ∧ ∀ l, H l = none → Q (.ref l) (upd H l (.lst ys))) listF := by
  intro mg W σ G H Q vs ds s hv h
  unfold listF at h
  split at h
  · obtain ⟨v, rfl, hd⟩ := dq1 hv
    obtain ⟨a1, v1, rfl, r1, d1⟩ := dp_list hd
    exact ⟨a1, v1, rfl, .inl (.inl (rd_mono s r1)), fun l hl => post_newF s h d1 hl⟩
  · obtain ⟨v, rfl, hd⟩ := dq1 hv
    obtain ⟨a1, v1, rfl, r1, d1⟩ := dp_tuple hd
    exact ⟨a1, v1, rfl, .inr (Same.seqT s r1), fun l hl => post_newF s h d1 hl⟩
  · exact h.elim
/-- tuple(xs) -/
def tupleD : List PyData → Out PyData
  | [.list ds] => .ok (.tuple ds)
  | [.tuple ds] => .ok (.tuple ds)
  | _ => .no
theorem call_tupleD : CallD X (fun xs H Q => ∃ p ys, xs = [.ref p] ∧ ((SqL X.K H p ys ∧ ∀ l, H l = none → Q (.ref l) (upd H l (.tup ys))) ∨ (SqT X.K H p ys ∧ Q (.ref p) H))) tupleD := by
  intro mg W σ G H Q vs ds s hv h
  unfold tupleD at h
  split at h
  · obtain ⟨v, rfl, hd⟩ := dq1 hv
    obtain ⟨a1, v1, rfl, r1, d1⟩ := dp_list hd
    exact ⟨a1, v1, rfl, .inl ⟨.inl (rd_mono s r1), fun l hl => post_newT s h d1 hl⟩⟩
  · obtain ⟨v, rfl, hd⟩ := dq1 hv
    obtain ⟨a1, v1, rfl, r1, d1⟩ := dp_tuple hd
    exact ⟨a1, v1, rfl, .inr ⟨Same.seqT s r1, h.now s _ (.tup r1 d1)⟩⟩
  · exact h.elim

/-! ### isinstance(x, T), T a built-in type by its name -/
def tyName : PyData → Option String
  | .none => some "NoneType"
  | .bool _ => some "bool"
  | .int _ => some "int"
  | .str _ => some "str"
  | .list _ => some "list"
  | .tuple _ => some "tuple"
  | .dict _ => none
theorem tyX_of {K : PySem.W.Frag} {G H : Hp} {v : V} {d : PyData} {T : String} (s : Same G H) (h : Dq K G v d) (e : tyName d = some T) : TyX K H v (.type T) := by
  cases h with
  | non => cases e; exact .base .non
  | bl b => cases e; exact .base (.bl b)
  | int i => cases e; exact .base (.int i)
  | str z => cases e; exact .base (.str z)
  | lst r _ =>
    cases e
    rcases rd_mono s r with h | ⟨o, h⟩
    · exact .base (.lst h)
    · exact .base (.frz h)
  | ro _ _ => cases e
  | tup r _ =>
    cases e
    rcases Same.seqT s r with (h | ⟨o, h⟩) | ⟨o, its, n, hk, hc, _⟩
    · exact .base (.tup h)
    · exact .fTuple h
    · exact .kTuple hk hc
def isiD (T : String) (d : PyData) : Out PyData := match tyName d with
  | some t => match kitB t T with
    | some b => .ok (.bool b)
    | none => .no
  | none => .no
theorem de_isi {y : Str} {T : String} {p3 p4 : Pos} (hm : X.mg "isinstance" = none) (hmT : X.mg y = none) (hv : bootBuiltins y = some (.type T)) (ha : DE X W a ma) (hg : Gl X "isinstance" := by rfl) (hgT : Gl X y := by rfl) (hn : y ≠ "__name__" := by decide) (hdb : (y == ("__debug__" : Str)) = false := by decide)
    (he : starEach (a :: [.Name y p3]) X.env = (false, eval a X.env) :: starEach [.Name y p3] X.env := by rfl) (he2 : starEach (.Name y p3 :: []) X.env = (false, eval (.Name y p3) X.env) :: starEach [] X.env := by rfl) (hpl : (backTo p4 (starEach [.Name y p3] X.env)).any (·.1) = false := by rfl) :
    DE X W (.Call (.Name "isinstance" p) [a, .Name y p3] [] p4) (m1 (isiD T) ma) := by
  have hT : PE X (.Name y p3) (tC (.ty T)) := pe_bltn hgT hmT hv rfl hn hdb
  refine pe_imp (pe_callB call_isi hg hm (by decide +kernel) (pa_cons ha (pa_cons hT pa_nil he2) he) (by decide) (by decide) he hpl) fun σ H Q ⟨H0, G0, G, ρ, r, h⟩ => ⟨H0, G0, G, ρ, r, (PostO.bind h).mono fun d G1 H1 _ x1 h1 v hv => ?_⟩
  unfold isiD at h1
  split at h1
  · rename_i t ht
    split at h1
    · rename_i b hb
      exact ⟨v, .ty T, .type t, .type T, b, rfl, .ty T, tyX_of x1.gh hv ht, kit_ty hb, h1.now x1.gh _ (.bl _)⟩
    · exact h1.elim
  · exact h1.elim

/-! ### lists of ours that are read -/
def frz1 (i : Nat) (ρ : Ro) : Ro := match ρ[i]? with
  | some (.own (.lst ds)) => ρ.set i (.sh (.list ds))
  | _ => ρ
def frz : List Nat → Ro → Ro
  | [], ρ => ρ
  | i :: r, ρ => frz r (frz1 i ρ)
theorem Rel.frz1 {K : PySem.W.Frag} {H0 G0 G H : Hp} {ρ : Ro} {σ : L2.St} (i : Nat) (r : Rel K H0 G0 G ρ σ H) : ∃ G', Same G G' ∧ Rel K H0 G0 G' (frz1 i ρ) σ H := by
  unfold DL.frz1
  split
  · rename_i ds q
    exact r.freeze q
  · exact ⟨G, .refl _, r⟩
theorem Rel.frz {K : PySem.W.Frag} {H0 G0 H : Hp} {σ : L2.St} : ∀ (is : List Nat) {G : Hp} {ρ : Ro}, Rel K H0 G0 G ρ σ H → ∃ G', Same G G' ∧ Rel K H0 G0 G' (frz is ρ) σ H
  | [], G, _, r => ⟨G, .refl _, r⟩
  | i :: is, _, _, r => by
    obtain ⟨G1, s1, r1⟩ := r.frz1 i
    obtain ⟨G2, s2, r2⟩ := Rel.frz is r1
    exact ⟨G2, s1.trans s2, r2⟩
def flat : PyData → Bool
  | .none | .bool _ | .int _ | .str _ => true
  | _ => false
theorem flat_dq {K : PySem.W.Frag} {G G' : Hp} {v : V} {d : PyData} (f : flat d = true) (h : Dq K G v d) : Dq K G' v d := by
  cases h with
  | non => exact .non
  | bl b => exact .bl b
  | int i => exact .int i
  | str z => exact .str z
  | lst _ _ => cases f
  | tup _ _ => cases f
  | ro _ _ => cases f
theorem flats_dq {K : PySem.W.Frag} {G G' : Hp} : ∀ {vs : List V} {ds : List PyData}, ds.all flat = true → DqAll K G vs ds → DqAll K G' vs ds
  | _, _, _, .nil => .nil
  | _, _, f, .cons a b => by
    rw [List.all_cons, Bool.and_eq_true] at f
    exact .cons (flat_dq f.1 a) (flats_dq f.2 b)
/-- back to what was ours -/
theorem back {G G' G2 H H2 : Hp} (sg : Same G G') (x : Ext G' H G2 H2) : Ext G H G H2 := ⟨.refl _, x.h, (sg.trans x.g).trans x.gh, fun _ e _ => e⟩
def flatO (d : PyData) : Out PyData := if flat d then .ok d else .no
def flatsO (ds : List PyData) : Out (List PyData) := if ds.all flat then .ok ds else .no
def borD (is : List Nat) (ma : MD) : MD := fun ρ => ma (frz is ρ) >>= flatO
def borF (is : List Nat) (ml : ML) : ML := fun ρ => ml (frz is ρ) >>= flatsO
def borB (is : List Nat) (mt : MB) : MB := fun ρ => mt (frz is ρ)
theorem de_bor (is : List Nat) (ha : DE X W a ma) : DE X W a (borD is ma) := by
  refine pe_imp ha fun σ H Q ⟨H0, G0, G, ρ, r, h⟩ => ?_
  obtain ⟨G', sg, r'⟩ := r.frz is
  refine ⟨H0, G0, G', _, r', ?_⟩
  unfold borD at h
  generalize ma (DL.frz is ρ) = o at h
  cases o with
  | no => exact h
  | ex c => exact fun C G2 H2 e y => h C G H2 e (back sg y)
  | ok d =>
    intro G2 H2 y v hv
    have h' : PostO X.mg W σ G H (rD X.K Q) (flatO d) := h
    unfold flatO at h'
    split at h'
    · rename_i f
      exact h' G H2 (back sg y) v (flat_dq f hv)
    · exact h'.elim
theorem df_bor (is : List Nat) (ha : DF X W a ml) : DF X W a (borF is ml) := by
  refine pe_imp ha fun σ H Q ⟨H0, G0, G, ρ, r, h⟩ => ?_
  obtain ⟨G', sg, r'⟩ := r.frz is
  refine ⟨H0, G0, G', _, r', ?_⟩
  unfold borF at h
  generalize ml (DL.frz is ρ) = o at h
  cases o with
  | no => exact h
  | ex c => exact fun C G2 H2 e y => h C G H2 e (back sg y)
  | ok ds =>
    intro G2 H2 y p vs hn hg hp hv
    have h' : PostO X.mg W σ G H (rF X.K H Q) (flatsO ds) := h
    unfold flatsO at h'
    split at h'
    · rename_i f
      exact h' G H2 (back sg y) p vs hn (((sg.trans y.g).free hg)) hp (flats_dq f hv)
    · exact h'.elim
theorem dt_bor (is : List Nat) (ha : DT X W a mt) : DT X W a (borB is mt) := by
  refine pt_imp ha fun σ H Q ⟨H0, G0, G, ρ, r, h⟩ => ?_
  obtain ⟨G', sg, r'⟩ := r.frz is
  refine ⟨H0, G0, G', _, r', ?_⟩
  unfold borB at h
  generalize mt (DL.frz is ρ) = o at h ⊢
  cases o with
  | no => exact h
  | ex c => exact fun C G2 H2 e y => h C G H2 e (back sg y)
  | ok d =>
    intro G2 H2 y
    exact h G H2 (back sg y)
/-- x[e], x a list of ours -/
def ixL (ds : List PyData) : PyData → Out PyData
  | .int i => match atI ds i with | some d => .ok d | none => .no
  | _ => .no
def ownIx (i : Nat) (ma : MD) : MD := fun ρ => match ρ[i]? with
  | some (.own (.lst ds)) => ma ρ >>= ixL ds
  | _ => .no
theorem de_ownIx (i : Nat) (hb : DE X W b mb) (hs : PlainIx b := by exact fun _ _ => rfl) (hN : X.N[i]? = some x := by rfl) (hv : Vis X.env.scope x := by first | exact Or.inl rfl | exact Or.inr (Or.inl rfl) | exact Or.inr (Or.inr rfl)) (hd : (x == ("__debug__" : Str)) = false := by decide)
    (hcd : (x == ("__classdict__" : Str)) = false := by decide) : DE X W (.Subscript (.Name x p) b pos) (ownIx i mb) := by
  refine pe_imp (pe_ix ix_list (pe_var hN hv hd hcd) hb hs) fun σ H Q ⟨H0, G0, G, ρ, r, h⟩ => ?_
  unfold ownIx at h
  split at h
  · rename_i ds q
    obtain ⟨a1, u, es, hp, ho, hg, h0⟩ := r.getOwn q
    obtain ⟨vs, rfl, hvs⟩ := ho.isLst
    refine ⟨.ref a1, es, H0, G0, G, ρ, r, (PostO.bind h).mono fun d G1 H1 _ x1 h1 v hv => ?_⟩
    unfold ixL at h1
    split at h1
    · obtain rfl := dp_int hv
      split at h1
      · rename_i z hz
        obtain ⟨v, hv', dv⟩ := atI_dq (dpAll_mono x1.g hvs) hz
        exact ⟨a1, vs, _, v, rfl, rfl, SqL.of (x1.h _ _ hp), hv', h1.now x1.gh _ dv⟩
      · exact h1.elim
    · exact h1.elim
  · exact h.elim
/-- len(x), x a list of ours -/
def ownLen (i : Nat) : MD := fun ρ => match ρ[i]? with
  | some (.own (.lst ds)) => .ok (.int ds.length)
  | _ => .no
end
end
end DL
/-! DL7: targets, what is walked, comprehensions. -/
namespace DL
noncomputable section
open PySem PySem.Spec PyProof.Rows L2

/-! ### targets -/
abbrev MG := PyData → Ro → Option Ro
abbrev MGs := List PyData → Ro → Option Ro
/-- only the slots at ix are changed -/
def But (ix : List Nat) (σ σ' : L2.St) : Prop := σ'.length = σ.length ∧ ∀ j, j ∉ ix → σ'[j]? = σ[j]?
theorem But.refl {ix : List Nat} {σ : L2.St} : But ix σ σ := ⟨rfl, fun _ _ => rfl⟩
theorem But.trans {ix : List Nat} {σ σ1 σ2 : L2.St} (a : But ix σ σ1) (b : But ix σ1 σ2) : But ix σ σ2 := ⟨b.1.trans a.1, fun j h => (b.2 j h).trans (a.2 j h)⟩
theorem But.mono {ix iy : List Nat} {σ σ' : L2.St} (a : But ix σ σ') (h : ∀ j ∈ ix, j ∈ iy) : But iy σ σ' := ⟨a.1, fun j n => a.2 j fun z => n (h j z)⟩
def tG (K : PySem.W.Frag) (g : MG) (ix : List Nat) : TG := fun v σ H Q => ∃ H0 G0 G ρ d ρ', Rel K H0 G0 G ρ σ H ∧ Dq K G v d ∧ g d ρ = some ρ' ∧ ∀ σ', Rel K H0 G0 G ρ' σ' H → But ix σ σ' → Q σ' H
def tGs (K : PySem.W.Frag) (g : MGs) (ix : List Nat) : TGs := fun vs σ H Q => ∃ H0 G0 G ρ ds ρ', Rel K H0 G0 G ρ σ H ∧ DqAll K G vs ds ∧ g ds ρ = some ρ' ∧ ∀ σ', Rel K H0 G0 G ρ' σ' H → But ix σ σ' → Q σ' H
def DG (X : Cx) (tg : Expr) (g : MG) (ix : List Nat) : Prop := PG X tg (tG X.K g ix)
def DGs (X : Cx) (tgs : List Expr) (g : MGs) (ix : List Nat) : Prop := PGs X tgs (tGs X.K g ix)
theorem pg_imp {X : Cx} {e : Expr} {t t' : TG} (h : PG X e t) (i : ∀ v σ H Q, t' v σ H Q → t v σ H Q) : PG X e t' := ⟨fun pins s σ H v u Q I r q => h.run pins s σ H v u Q I r (i v σ H Q q)⟩
theorem pgs_imp {X : Cx} {e : List Expr} {t t' : TGs} (h : PGs X e t) (i : ∀ v σ H Q, t' v σ H Q → t v σ H Q) : PGs X e t' := ⟨fun pins s σ H v u Q I r q => h.run pins s σ H v u Q I r (i v σ H Q q)⟩
def gN (i : Nat) : MG := fun d ρ => some (ρ.set i (.sh d))
def gT (gs : MGs) : MG := fun d ρ => match d with
  | .tuple ds => gs ds ρ
  | _ => none
def gNilD : MGs := fun ds ρ => match ds with
  | [] => some ρ
  | _ => none
def gConsD (g : MG) (gs : MGs) : MGs := fun ds ρ => match ds with
  | d :: r => (g d ρ).bind (gs r)
  | [] => none
section
variable {X : Cx} {pos : Pos} {x : Str} {e : Expr} {es : List Expr} {g : MG} {gs : MGs} {ix iy : List Nat}
theorem dg_name (i : Nat) (hN : X.N.Nodup) (hi : X.N[i]? = some x := by rfl) (hx : Loc X.env.scope x := by first | exact Or.inl rfl | exact Or.inr rfl) (hf : X.fn x = true ∨ X.env.scope.names.lookup x = some .local := by first | exact .inl rfl | exact .inr rfl) : DG X (.Name x pos) (gN i) [i] :=
  pg_imp (pg_name hN hi hx hf) fun v σ H Q ⟨H0, G0, G, ρ, d, ρ', r, hd, hg, h⟩ => by
    cases hg
    refine h _ (r.set hd) ⟨by simp, fun j hj => ?_⟩
    have : i ≠ j := fun z => hj (by simp [z])
    rw [List.getElem?_set_ne this]
theorem dgs_nil : DGs X [] gNilD [] := pgs_imp pgs_nil fun vs σ H Q ⟨H0, G0, G, ρ, ds, ρ', r, hd, hg, h⟩ => by
  cases hd with
  | nil => cases hg; exact ⟨rfl, h σ r .refl⟩
  | cons _ _ => cases hg
theorem dgs_cons (h1 : DG X e g ix) (h2 : DGs X es gs iy) (hs : (assignEach (e :: es) X.env).map (·.2) = assign e X.env :: (assignEach es X.env).map (·.2) := by rfl) : DGs X (e :: es) (gConsD g gs) (ix ++ iy) :=
  pgs_imp (pgs_cons h1 h2 hs) fun vs σ H Q ⟨H0, G0, G, ρ, ds, ρ', r, hd, hg, h⟩ => by
    cases hd with
    | nil => cases hg
    | @cons v vs d ds hv hvs =>
      have hg' : (g d ρ).bind (gs ds) = some ρ' := hg
      cases q : g d ρ with
      | none => rw [q] at hg'; cases hg'
      | some ρ1 =>
        rw [q] at hg'
        exact ⟨v, vs, rfl, H0, G0, G, ρ, d, ρ1, r, hv, q, fun σ1 r1 b1 => ⟨H0, G0, G, ρ1, ds, ρ', r1, hvs, hg', fun σ2 r2 b2 => h σ2 r2 ((b1.mono fun _ z => List.mem_append_left _ z).trans (b2.mono fun _ z => List.mem_append_right _ z))⟩⟩
theorem dg_tup {k n : Nat} (h : DGs X es gs ix) (hlen : ∀ ds ρ ρ', gs ds ρ = some ρ' → ds.length = n) (hc : X.calm = true := by rfl) (hn : (assignEach es X.env).length = n := by rfl) (hst : (assignEach es X.env).findIdx? (·.1) = none := by rfl) : DG X (.Tuple es k pos) (gT gs) ix :=
  pg_imp (pg_tup hc h hn hst) fun v σ H Q ⟨H0, G0, G, ρ, d, ρ', r, hd, hg, h⟩ => by
    cases d with
    | tuple ds =>
      obtain ⟨a1, v1, rfl, r1, d1⟩ := dp_tuple hd
      exact ⟨a1, v1, rfl, Same.seqT r.gh r1, by rw [dpAll_len d1]; exact hlen _ _ _ hg, H0, G0, G, ρ, ds, ρ', r, d1, hg, h⟩
    | _ => cases hg
theorem len_nil : ∀ (ds : List PyData) (ρ ρ' : Ro), gNilD ds ρ = some ρ' → ds.length = 0 := fun ds ρ ρ' h => by
  cases ds with
  | nil => rfl
  | cons _ _ => cases h
theorem len_cons {n : Nat} (h : ∀ (ds : List PyData) (ρ ρ' : Ro), gs ds ρ = some ρ' → ds.length = n) : ∀ (ds : List PyData) (ρ ρ' : Ro), gConsD g gs ds ρ = some ρ' → ds.length = n + 1 := fun ds ρ ρ' e => by
  cases ds with
  | nil => cases e
  | cons d r =>
    have e' : (g d ρ).bind (gs r) = some ρ' := e
    cases q : g d ρ with
    | none => rw [q] at e'; cases e'
    | some ρ1 =>
      rw [q] at e'
      rw [List.length_cons, h r ρ1 ρ' e']
end

/-! ### what is walked -/
structure ItOk (K : PySem.W.Frag) (J : It) (G : Hp) (ds : List PyData) : Prop where
  go : ∀ i H, Same G H → i < ds.length → J.go i H
  stop : ∀ i H, Same G H → ds.length ≤ i → J.stop i H
  yld : ∀ i H v H' G1, Same G G1 → Same G1 H → J.yld i H v H' → i < ds.length → ∃ d G2, ds[i]? = some d ∧ Ext G1 H G2 H' ∧ Dq K G2 v d
theorem pi_imp {X : Cx} {tg e : Expr} {t t' : TI} (h : PI X tg e t) (i : ∀ σ H R, t' σ H R → t σ H R) : PI X tg e t' := ⟨fun pins s σ H R I q => h.run pins s σ H R I (i σ H R q)⟩
theorem pi_or {X : Cx} {tg e : Expr} {t t' : TI} (h : PI X tg e t) (h' : PI X tg e t') : PI X tg e (fun σ H R => t σ H R ∨ t' σ H R) := ⟨fun pins s σ H R I q => q.elim (h.run pins s σ H R I) (h'.run pins s σ H R I)⟩
def rI' (K : PySem.W.Frag) (R : It → Hp → Prop) : List PyData → Hp → Hp → Prop := fun ds G' H' => ∀ J, ItOk K J G' ds → R J H'
def tI (K : PySem.W.Frag) (mg : Str → Option Value) (W : WX) (m : ML) : TI := fun σ H R => ∃ H0 G0 G ρ, Rel K H0 G0 G ρ σ H ∧ PostO mg W σ G H (rI' K R) (m ρ)
def DI (X : Cx) (W : WX) (tg e : Expr) (m : ML) : Prop := PI X tg e (tI X.K X.mg W m)
theorem itOk_list {K : PySem.W.Frag} {G : Hp} {a : Addr} {vs : List V} {ds : List PyData} (h : SqL K G a vs) (hd : DqAll K G vs ds) : ItOk K (Itl K a) G ds where
  go := fun i H s hi => by
    obtain ⟨v, hv, _⟩ := dpAll_get' hd (List.getElem?_eq_getElem hi)
    exact ⟨vs, v, s.seq h, hv⟩
  stop := fun i H s hi => ⟨vs, s.seq h, by rw [dpAll_len hd]; exact hi⟩
  yld := fun i H v H' G1 s1 s2 ⟨e, y⟩ hi => by
    subst e
    obtain ⟨v', hv, dv⟩ := dpAll_get' hd (List.getElem?_eq_getElem hi)
    have := y vs ((s1.trans s2).seq h)
    rw [hv] at this
    cases this
    exact ⟨_, G1, List.getElem?_eq_getElem hi, .refl s2, dp_mono s1 dv⟩
theorem itOk_tup {K : PySem.W.Frag} {G : Hp} {a : Addr} {vs : List V} {ds : List PyData} (h : SqT K G a vs) (hd : DqAll K G vs ds) : ItOk K (Itt K a) G ds where
  go := fun i H s hi => by
    obtain ⟨v, hv, _⟩ := dpAll_get' hd (List.getElem?_eq_getElem hi)
    exact ⟨vs, v, Same.seqT s h, hv⟩
  stop := fun i H s hi => ⟨vs, Same.seqT s h, by rw [dpAll_len hd]; exact hi⟩
  yld := fun i H v H' G1 s1 s2 ⟨e, y⟩ hi => by
    subst e
    obtain ⟨v', hv, dv⟩ := dpAll_get' hd (List.getElem?_eq_getElem hi)
    have := y vs (Same.seqT (s1.trans s2) h)
    rw [hv] at this
    cases this
    exact ⟨_, G1, List.getElem?_eq_getElem hi, .refl s2, dp_mono s1 dv⟩
def chars (z : Str) : List PyData := z.cps.toList.map fun c => .str ⟨#[c]⟩
theorem itOk_str {K : PySem.W.Frag} {G : Hp} {z : Str} : ItOk K (Its z) G (chars z) where
  go := fun i H s hi => by show i < z.cps.size; simpa [chars] using hi
  stop := fun i H s hi => by show z.cps.size ≤ i; simpa [chars] using hi
  yld := fun i H v H' G1 s1 s2 ⟨e, c, hc, hv⟩ hi => by
    subst e
    subst hv
    refine ⟨_, G1, ?_, .refl s2, .str _⟩
    unfold chars
    rw [List.getElem?_map, Array.getElem?_toList, hc]
    rfl
def rangeL (lo : Int) (n : Nat) : List PyData := (List.range n).map fun i => .int (lo + (i : Nat))
theorem itOk_range {K : PySem.W.Frag} {G : Hp} {lo : Int} {n : Nat} : ItOk K (Itr lo n) G (rangeL lo n) where
  go := fun i H s hi => by show i < n; simpa [rangeL] using hi
  stop := fun i H s hi => by show n ≤ i; simpa [rangeL] using hi
  yld := fun i H v H' G1 s1 s2 ⟨e, hv⟩ hi => by
    subst e
    subst hv
    have hi' : i < n := by simpa [rangeL] using hi
    refine ⟨_, G1, ?_, .refl s2, .int _⟩
    unfold rangeL
    rw [List.getElem?_map, List.getElem?_range hi']
    rfl
/-- items in new pairs -/
def enumL (ds : List PyData) : List PyData := ds.zipIdx.map fun p => .tuple [.int (p.2 : Nat), p.1]
theorem itOk_enum {K : PySem.W.Frag} {G : Hp} {a : Addr} {vs : List V} {ds : List PyData} (h : SqL K G a vs) (hd : DqAll K G vs ds) : ItOk K (Ite K a) G (enumL ds) where
  go := fun i H s hi => by
    have hi' : i < ds.length := by simpa [enumL] using hi
    obtain ⟨v, hv, _⟩ := dpAll_get' hd (List.getElem?_eq_getElem hi')
    exact ⟨vs, v, s.seq h, hv⟩
  stop := fun i H s hi => ⟨vs, s.seq h, by rw [dpAll_len hd]; simpa [enumL] using hi⟩
  yld := fun i H v H' G1 s1 s2 ⟨T, z, ev, hn, eH, y⟩ hi => by
    have hi' : i < ds.length := by simpa [enumL] using hi
    obtain ⟨v', hv, dv⟩ := dpAll_get' hd (List.getElem?_eq_getElem hi')
    have := y vs ((s1.trans s2).seq h)
    rw [hv] at this
    cases this
    subst ev
    subst eH
    refine ⟨.tuple [.int (i : Nat), ds[i]], _, ?_, Ext.new s2 hn, .tup (SqT.of upd_same) (.cons (.int _) (.cons (dp_mono (s1.trans (same_upd (s2.free hn))) dv) .nil))⟩
    unfold enumL
    rw [List.getElem?_map, List.getElem?_zipIdx, List.getElem?_eq_getElem hi']
    simp
def zipL (ds es : List PyData) : List PyData := List.zipWith (fun d e => .tuple [d, e]) ds es
theorem itOk_zip {K : PySem.W.Frag} {G : Hp} {a b : Addr} {vs ws : List V} {ds es : List PyData} (h : SqL K G a vs) (h2 : SqL K G b ws) (hd : DqAll K G vs ds) (he : DqAll K G ws es) : ItOk K (Itz K a b) G (zipL ds es) where
  go := fun i H s hi => by
    have hi' : i < ds.length ∧ i < es.length := by simp [zipL] at hi; omega
    obtain ⟨v, hv, _⟩ := dpAll_get' hd (List.getElem?_eq_getElem hi'.1)
    obtain ⟨w, hw, _⟩ := dpAll_get' he (List.getElem?_eq_getElem hi'.2)
    exact ⟨vs, ws, v, w, s.seq h, s.seq h2, hv, hw⟩
  stop := fun i H s hi => ⟨vs, ws, s.seq h, s.seq h2, by
    rw [dpAll_len hd, dpAll_len he]
    simp [zipL] at hi
    omega⟩
  yld := fun i H v H' G1 s1 s2 ⟨T, z, u, ev, hn, eH, y1, y2⟩ hi => by
    have hi' : i < ds.length ∧ i < es.length := by simp [zipL] at hi; omega
    obtain ⟨v', hv, dv⟩ := dpAll_get' hd (List.getElem?_eq_getElem hi'.1)
    obtain ⟨w', hw, dw⟩ := dpAll_get' he (List.getElem?_eq_getElem hi'.2)
    have t1 := y1 vs ((s1.trans s2).seq h)
    have t2 := y2 ws ((s1.trans s2).seq h2)
    rw [hv] at t1
    rw [hw] at t2
    cases t1
    cases t2
    subst ev
    subst eH
    have sg : ∀ u, Same G (upd G1 T u) := fun u => s1.trans (same_upd (s2.free hn))
    refine ⟨.tuple [ds[i], es[i]], _, ?_, Ext.new s2 hn, .tup (SqT.of upd_same) (.cons (dp_mono (sg _) dv) (.cons (dp_mono (sg _) dw) .nil))⟩
    unfold zipL
    rw [List.getElem?_zipWith, List.getElem?_eq_getElem hi'.1, List.getElem?_eq_getElem hi'.2]
section
variable {X : Cx} {W : WX} {e a b c tg : Expr} {es : List Expr} {ma mb mc : MD} {ml ml' : ML} {mt mu : MB} {pos p pos' p2 : Pos} {x : Str} {k : Nat}
def seqO : PyData → Out (List PyData)
  | .list ds => .ok ds
  | .tuple ds => .ok ds
  | .str z => .ok (chars z)
  | _ => .no
def seqM (ma : MD) : ML := fun ρ => ma ρ >>= seqO
theorem di_seq (ha : DE X W a ma) : DI X W tg a (seqM ma) := by
  refine pi_imp (pi_or (pi_or (pi_list ha) (pi_tup ha)) (pi_str ha)) fun σ H R ⟨H0, G0, G, ρ, r, h⟩ => ?_
  have h2 := PostO.bind h
  cases q : ma ρ with
  | no => rw [q] at h2; exact h2.elim
  | ex c => exact .inl (.inl ⟨H0, G0, G, ρ, r, by rw [q] at h2 ⊢; exact h2⟩)
  | ok d =>
    rw [q] at h2
    cases d with
    | list ds =>
      refine .inl (.inl ⟨H0, G0, G, ρ, r, ?_⟩)
      rw [q]
      intro G1 H1 x1 v hv
      obtain ⟨a1, v1, rfl, r1, d1⟩ := dp_list hv
      exact ⟨a1, rfl, ⟨v1, .inl (rd_mono x1.gh r1)⟩, h2 G1 H1 x1 G1 H1 (.refl x1.gh) _ (itOk_list (.inl r1) d1)⟩
    | tuple ds =>
      refine .inl (.inr ⟨H0, G0, G, ρ, r, ?_⟩)
      rw [q]
      intro G1 H1 x1 v hv
      obtain ⟨a1, v1, rfl, r1, d1⟩ := dp_tuple hv
      exact ⟨a1, rfl, ⟨v1, Same.seqT x1.gh r1⟩, h2 G1 H1 x1 G1 H1 (.refl x1.gh) _ (itOk_tup r1 d1)⟩
    | str z =>
      refine .inr ⟨H0, G0, G, ρ, r, ?_⟩
      rw [q]
      intro G1 H1 x1 v hv
      obtain rfl := dp_str hv
      exact ⟨z, rfl, h2 G1 H1 x1 G1 H1 (.refl x1.gh) _ itOk_str⟩
    | none => exact (h2 G H (.refl r.gh)).elim
    | bool _ => exact (h2 G H (.refl r.gh)).elim
    | int _ => exact (h2 G H (.refl r.gh)).elim
    | dict _ => exact (h2 G H (.refl r.gh)).elim
def rngOk (i j : Int) : Prop := -(2 ^ 62) ≤ i ∧ i < 2 ^ 62 ∧ -(2 ^ 62) ≤ j ∧ j < 2 ^ 62
instance (i j : Int) : Decidable (rngOk i j) := Classical.propDecidable _
def rngOk1 (j : Int) : Prop := -(2 ^ 62) ≤ j ∧ j < 2 ^ 62
instance (j : Int) : Decidable (rngOk1 j) := Classical.propDecidable _
def rng1 : List PyData → Out (List PyData)
  | [.int j] => if rngOk1 j then .ok (rangeL 0 j.toNat) else .no
  | _ => .no
def rng2 : List PyData → Out (List PyData)
  | [.int i, .int j] => if rngOk i j then .ok (rangeL i (j - i).toNat) else .no
  | _ => .no
theorem di_range1 (hm : X.mg "range" = none) (ha : DA X W [a] ml) (hg : Gl X "range" := by rfl) (hs : starEach [a] X.env = [(false, eval a X.env)] := by rfl) : DI X W tg (.Call (.Name "range" p) [a] [] pos) (cF rng1 ml) := by
  refine pi_imp (pi_range1 hg hm ha hs) fun σ H R ⟨H0, G0, G, ρ, r, h⟩ => ⟨H0, G0, G, ρ, r, (PostO.bind h).mono fun ds G1 H1 _ x1 h1 vs hv => ?_⟩
  unfold rng1 at h1
  split at h1
  · obtain ⟨v, rfl, hd⟩ := dq1 hv
    obtain rfl := dp_int hd
    split at h1
    · rename_i hc
      exact ⟨_, rfl, hc.1, hc.2, h1 G1 H1 (.refl x1.gh) _ itOk_range⟩
    · exact h1.elim
  · exact h1.elim
theorem di_range2 (hm : X.mg "range" = none) (ha : DA X W [a, b] ml) (hg : Gl X "range" := by rfl) (hs : starEach [a, b] X.env = [(false, eval a X.env), (false, eval b X.env)] := by rfl) (hs2 : starEach [b] X.env = [(false, eval b X.env)] := by rfl) : DI X W tg (.Call (.Name "range" p) [a, b] [] pos) (cF rng2 ml) := by
  refine pi_imp (pi_range2 hg hm ha hs hs2) fun σ H R ⟨H0, G0, G, ρ, r, h⟩ => ⟨H0, G0, G, ρ, r, (PostO.bind h).mono fun ds G1 H1 _ x1 h1 vs hv => ?_⟩
  unfold rng2 at h1
  split at h1
  · obtain ⟨v, w, rfl, hd, hd2⟩ := dq2 hv
    obtain rfl := dp_int hd
    obtain rfl := dp_int hd2
    split at h1
    · rename_i hc
      exact ⟨_, _, rfl, hc, h1 G1 H1 (.refl x1.gh) _ itOk_range⟩
    · exact h1.elim
  · exact h1.elim
def enumO : List PyData → Out (List PyData)
  | [.list ds] => .ok (enumL ds)
  | _ => .no
def zipO : List PyData → Out (List PyData)
  | [.list ds, .list es] => .ok (zipL ds es)
  | _ => .no
theorem di_enum {elts : List Expr} {kk : Nat} {tpos : Pos} (hm : X.mg "enumerate" = none) (ha : DA X W [a] ml) (hg : Gl X "enumerate" := by rfl) (hs : starEach [a] X.env = [(false, eval a X.env)] := by rfl) : DI X W (.Tuple elts kk tpos) (.Call (.Name "enumerate" p) [a] [] pos) (cF enumO ml) := by
  refine pi_imp (pi_enum hg hm ha hs) fun σ H R ⟨H0, G0, G, ρ, r, h⟩ => ⟨H0, G0, G, ρ, r, (PostO.bind h).mono fun ds G1 H1 _ x1 h1 vs hv => ?_⟩
  unfold enumO at h1
  split at h1
  · obtain ⟨v, rfl, hd⟩ := dq1 hv
    obtain ⟨a1, v1, rfl, r1, d1⟩ := dp_list hd
    exact ⟨a1, v1, rfl, .inl (rd_mono x1.gh r1), h1 G1 H1 (.refl x1.gh) _ (itOk_enum (.inl r1) d1)⟩
  · exact h1.elim
theorem di_zip {elts : List Expr} {kk : Nat} {tpos : Pos} (hm : X.mg "zip" = none) (ha : DA X W [a, b] ml) (hg : Gl X "zip" := by rfl) (hs : starEach [a, b] X.env = (false, eval a X.env) :: starEach [b] X.env := by rfl) (hpl : (backTo pos (starEach [b] X.env)).any (·.1) = false := by rfl) : DI X W (.Tuple elts kk tpos) (.Call (.Name "zip" p) [a, b] [] pos) (cF zipO ml) := by
  refine pi_imp (pi_zip hg hm ha hs hpl) fun σ H R ⟨H0, G0, G, ρ, r, h⟩ => ⟨H0, G0, G, ρ, r, (PostO.bind h).mono fun ds G1 H1 _ x1 h1 vs hv => ?_⟩
  unfold zipO at h1
  split at h1
  · obtain ⟨v, w, rfl, hd, hd2⟩ := dq2 hv
    obtain ⟨a1, v1, rfl, r1, d1⟩ := dp_list hd
    obtain ⟨a2, v2, rfl, r2, d2⟩ := dp_list hd2
    exact ⟨a1, a2, v1, v2, rfl, .inl (rd_mono x1.gh r1), .inl (rd_mono x1.gh r2), h1 G1 H1 (.refl x1.gh) _ (itOk_zip (.inl r1) (.inl r2) d1 d2)⟩
  · exact h1.elim
end

/-! ### comprehensions -/
def noEx {α : Type} : Out α → Out α
  | .ok a => .ok a
  | _ => .no
def wipeR (ρ : Ro) : List Nat → Ro
  | [] => ρ
  | v :: vs => (wipeR ρ vs).set v .un
def oCons (o : Option PyData) (t : List PyData) : List PyData := match o with
  | some y => y :: t
  | none => t
def lcM (f : PyData → Out (Option PyData)) : List PyData → Out (List PyData)
  | [] => .ok []
  | d :: r => noEx (f d) >>= fun o => lcM f r >>= fun t => .ok (oCons o t)
def lcF (mi : ML) (g : MG) (mt : MB) (me : MD) (vs : List Nat) : ML := fun ρ => mi ρ >>= fun ds => if ds.length ≤ sizeLine then
  lcM (fun d => match g d (wipeR ρ vs) with
    | some ρ1 => mt ρ1 >>= fun t => if t then me ρ1 >>= fun y => .ok (some y) else .ok none
    | none => .no) ds else .no
theorem wipe_rel {K : PySem.W.Frag} {H0 G0 G H : Hp} {ρ : Ro} {σ : L2.St} (r : Rel K H0 G0 G ρ σ H) : ∀ vs : List Nat, Rel K H0 G0 G (wipeR ρ vs) (wipe σ vs) H
  | [] => r
  | v :: vs => (wipe_rel r vs).drop
theorem wipe_but {σ σ' : L2.St} : ∀ {vs ix : List Nat}, But ix σ σ' → (∀ j ∈ ix, j ∈ vs) → wipe σ' vs = wipe σ vs := fun {vs ix} b hx => by
  apply List.ext_getElem?
  intro j
  by_cases hj : j ∈ vs
  · have none_at : ∀ (τ : L2.St) (us : List Nat), j ∈ us → (wipe τ us)[j]? = if j < τ.length then some none else none := fun τ us => by
      induction us with
      | nil => intro h; simp at h
      | cons v us ih =>
        intro h
        show ((wipe τ us).set v none)[j]? = _
        by_cases hv : v = j
        · subst hv
          by_cases hl : v < τ.length
          · rw [if_pos hl, List.getElem?_set_self (by rw [wipe_length]; exact hl)]
          · rw [if_neg hl, List.getElem?_eq_none (by rw [List.length_set, wipe_length]; omega)]
        · rw [List.getElem?_set_ne hv]
          rcases List.mem_cons.mp h with h | h
          · exact absurd h.symm hv
          · exact ih h
    rw [none_at _ _ hj, none_at _ _ hj, b.1]
  · have out : ∀ (τ : L2.St) (us : List Nat), j ∉ us → (wipe τ us)[j]? = τ[j]? := fun τ us => by
      induction us with
      | nil => intro _; rfl
      | cons v us ih =>
        intro h
        rw [List.mem_cons, not_or] at h
        show ((wipe τ us).set v none)[j]? = _
        rw [List.getElem?_set_ne (Ne.symm h.1)]
        exact ih h.2
    rw [out _ _ hj, out _ _ hj]
    exact b.2 j fun z => hj (hx j z)
theorem wipe_wipe (σ : L2.St) (vs : List Nat) : wipe (wipe σ vs) vs = wipe σ vs :=
  wipe_but (ix := vs) ⟨wipe_length σ vs, fun j h => wipe_out h⟩ fun _ z => z
theorem lcM_noex {f : PyData → Out (Option PyData)} {c : Str} : ∀ {ds : List PyData}, lcM f ds ≠ .ex c
  | [], h => by cases h
  | d :: r, h => by
    have h' : (noEx (f d) >>= fun o => lcM f r >>= fun t => .ok (oCons o t)) = (.ex c : Out (List PyData)) := h
    cases q : f d with
    | ok o =>
      rw [q] at h'
      have h2 : (lcM f r >>= fun t => .ok (oCons o t)) = (.ex c : Out (List PyData)) := h'
      cases q2 : lcM f r with
      | ok t => rw [q2] at h2; cases h2
      | no => rw [q2] at h2; cases h2
      | ex c2 => rw [q2] at h2; cases h2; exact lcM_noex q2
    | no => rw [q] at h'; cases h'
    | ex c2 => rw [q] at h'; cases h'
theorem lcM_cons {f : PyData → Out (Option PyData)} {d : PyData} {r t : List PyData} (h : lcM f (d :: r) = .ok t) : ∃ o t', f d = .ok o ∧ lcM f r = .ok t' ∧ t = oCons o t' := by
  have h' : (noEx (f d) >>= fun o => lcM f r >>= fun t => .ok (oCons o t)) = .ok t := h
  cases q : f d with
  | ok o =>
    rw [q] at h'
    have h2 : (lcM f r >>= fun t => .ok (oCons o t)) = .ok t := h'
    cases q2 : lcM f r with
    | ok t' => rw [q2] at h2; cases h2; exact ⟨o, t', rfl, rfl, rfl⟩
    | no => rw [q2] at h2; cases h2
    | ex c2 => rw [q2] at h2; cases h2
  | no => rw [q] at h'; cases h'
  | ex c2 => rw [q] at h'; cases h'
abbrev W0 : WX := fun _ _ _ _ => False
def stpF (g : MG) (mt : MB) (me : MD) (ρ : Ro) (d : PyData) : Out (Option PyData) := match g d ρ with
  | some ρ1 => mt ρ1 >>= fun t => if t then me ρ1 >>= fun y => .ok (some y) else .ok none
  | none => .no
theorem stpF_ok {g : MG} {mt : MB} {me : MD} {ρ : Ro} {d : PyData} {o : Option PyData} (h : stpF g mt me ρ d = .ok o) : ∃ ρ1, g d ρ = some ρ1 ∧ ((mt ρ1 = .ok true ∧ ∃ y, me ρ1 = .ok y ∧ o = some y) ∨ (mt ρ1 = .ok false ∧ o = none)) := by
  unfold stpF at h
  cases q : g d ρ with
  | none => rw [q] at h; cases h
  | some ρ1 =>
    rw [q] at h
    refine ⟨ρ1, rfl, ?_⟩
    have h1 : (mt ρ1 >>= fun t => if t then me ρ1 >>= fun y => .ok (some y) else .ok none) = .ok o := h
    cases q1 : mt ρ1 with
    | no => rw [q1] at h1; cases h1
    | ex c => rw [q1] at h1; cases h1
    | ok t =>
      rw [q1] at h1
      cases t with
      | false => cases h1; exact .inr ⟨rfl, rfl⟩
      | true =>
        have h2 : (me ρ1 >>= fun y => .ok (some y)) = .ok o := h1
        cases q2 : me ρ1 with
        | no => rw [q2] at h2; cases h2
        | ex c => rw [q2] at h2; cases h2
        | ok y => rw [q2] at h2; cases h2; exact .inl ⟨rfl, y, rfl, rfl⟩
section
variable {X : Cx} {W : WX} {elt tg iter : Expr} {ifs : List Expr} {mi : ML} {g : MG} {mt : MB} {me : MD} {ix : List Nat} {scope : Scope} {own : List (Str × Nat)} {pos : Pos}
theorem lc_reading {vs : List Nat} (hix : ∀ j ∈ ix, j ∈ vs) {σ : L2.St} {H : Hp} {Q : VK} (h : tF X.K X.mg W (lcF mi g mt me vs) σ H Q) : tLc (tI X.K X.mg W mi) (tG X.K g ix) (tT X.K X.mg W0 mt) (tD X.K X.mg W0 me) vs σ H Q := by
  obtain ⟨H0, G0, G, ρ, r, h⟩ := h
  refine ⟨H0, G0, G, ρ, r, (PostO.bind h).mono fun ds G1 H1 _ x1 h1 J hJ D hD => ?_⟩
  have hz : ds.length ≤ sizeLine := by
    by_cases hz : ds.length ≤ sizeLine
    · exact hz
    · rw [if_neg hz] at h1; exact h1.elim
  rw [if_pos hz] at h1
  obtain ⟨all, hall⟩ : ∃ all, lcM (stpF g mt me (wipeR ρ vs)) ds = .ok all := by
    cases q : lcM (stpF g mt me (wipeR ρ vs)) ds with
    | no => exact False.elim (by have h2 : PostO X.mg W σ G1 H1 (rF X.K H Q) (lcM (stpF g mt me (wipeR ρ vs)) ds) := h1
                                 rw [q] at h2; exact h2)
    | ex c => exact absurd q lcM_noex
    | ok all => exact ⟨all, rfl⟩
  have h2 : PostO X.mg W σ G1 H1 (rF X.K H Q) (.ok all) := by
    have h2 : PostO X.mg W σ G1 H1 (rF X.K H Q) (lcM (stpF g mt me (wipeR ρ vs)) ds) := h1
    rw [hall] at h2
    exact h2
  have r1 := r.step x1
  have g1D : G1 D = none := x1.gh.free hD
  refine ⟨fun i m H2 => ∃ G2 acc accd t, i ≤ ds.length ∧ m = ds.length - i ∧ Ext G1 H1 G2 H2 ∧ H2 D = some (.lst acc) ∧ G2 D = none ∧ DqAll X.K G2 acc accd ∧ accd.length ≤ i ∧ lcM (stpF g mt me (wipeR ρ vs)) (ds.drop i) = .ok t ∧ all = accd ++ t,
    ⟨ds.length, G1, [], [], all, Nat.zero_le _, rfl, Ext.hid x1.gh hD, upd_same, g1D, .nil, Nat.le_refl _, hall, rfl⟩, ?_⟩
  rintro i m H2 ⟨G2, acc, accd, t, hi, rfl, x2, h2D, g2D, hacc, hlen, ht, hal⟩
  by_cases hlt : i < ds.length
  · refine .inr ⟨hJ.go i H2 (x2.g.trans x2.gh) hlt, fun H' => ∃ G2 acc accd t, i + 1 ≤ ds.length ∧ Ext G1 H1 G2 H' ∧ H' D = some (.lst acc) ∧ G2 D = none ∧ DqAll X.K G2 acc accd ∧ accd.length ≤ i + 1 ∧ lcM (stpF g mt me (wipeR ρ vs)) (ds.drop (i + 1)) = .ok t ∧ all = accd ++ t,
      fun H' ⟨G3, a3, b3, t3, k1, k2, k3⟩ => ⟨ds.length - (i + 1), by omega, G3, a3, b3, t3, k1, rfl, k2, k3⟩, fun x H' y => ?_⟩
    obtain ⟨d, G3, hd, x3, dx⟩ := hJ.yld i H2 x H' G2 x2.g x2.gh y hlt
    have ed : ds.drop i = d :: ds.drop (i + 1) := by
      rw [List.getElem?_eq_getElem hlt] at hd
      cases hd
      exact List.drop_eq_getElem_cons hlt
    rw [ed] at ht
    obtain ⟨o, t', hf, ht', eo⟩ := lcM_cons ht
    obtain ⟨ρ1, hg1, hcase⟩ := stpF_ok hf
    have rr := ((r1.step x2).step x3)
    refine ⟨H0, G0, G3, wipeR ρ vs, d, ρ1, wipe_rel rr vs, dx, hg1, fun σ2 r2 b2 => ⟨?_, H0, G0, G3, ρ1, r2, ?_⟩⟩
    · exact (wipe_but b2 hix).trans (wipe_wipe σ vs)
    · have g3D : G3 D = none := x3.fr D g2D (by rw [h2D]; simp)
      have h3D : H' D = some (.lst acc) := x3.h _ _ h2D
      rcases hcase with ⟨q1, y1, q2, rfl⟩ | ⟨q1, rfl⟩
      · rw [q1]
        intro G4 H4 x4
        simp only [rB, if_true]
        refine ⟨H0, G0, G4, ρ1, r2.step x4, ?_⟩
        rw [q2]
        intro G5 H5 x5 v hv
        have g4D : G4 D = none := x4.fr D g3D (by rw [h3D]; simp)
        have h4D : H4 D = some (.lst acc) := x4.h _ _ h3D
        have g5D : G5 D = none := x5.fr D g4D (by rw [h4D]; simp)
        have h5D : H5 D = some (.lst acc) := x5.h _ _ h4D
        refine ⟨acc, h5D, ?_, G5, acc ++ [v], accd ++ [y1], t', hlt, ?_, upd_same, g5D, dpAll_append (dpAll_mono ((x3.g.trans x4.g).trans x5.g) hacc) (.cons hv .nil), ?_, ht', ?_⟩
        · rw [dpAll_len hacc]; omega
        · have x6 := ((x2.trans x3).trans x4).trans x5
          refine ⟨x6.g, fun b o e => ?_, fun b o e => ?_, x6.fr⟩
          · rw [upd_ne (ne_of_none e hD)]; exact x6.h b o e
          · rw [upd_ne (ne_of_none e g5D)]; exact x6.gh b o e
        · rw [List.length_append]; simp; omega
        · rw [hal, eo]; simp [oCons]
      · rw [q1]
        intro G4 H4 x4
        simp only [rB, Bool.false_eq_true, if_false]
        exact ⟨G4, acc, accd, t', hlt, (x2.trans x3).trans x4, x4.h _ _ h3D, x4.fr D g3D (by rw [h3D]; simp), dpAll_mono (x3.g.trans x4.g) hacc, by omega, ht', by rw [hal, eo]; rfl⟩
  · have e : i = ds.length := by omega
    subst e
    refine .inl ⟨hJ.stop _ H2 (x2.g.trans x2.gh) (Nat.le_refl _), ?_⟩
    have et : t = [] := by
      rw [List.drop_length] at ht
      cases ht
      rfl
    rw [et, List.append_nil] at hal
    subst hal
    exact h2 G2 H2 x2 D acc (x1.h.free hD) g2D h2D hacc
/-- the block's context -/
abbrev BX (X : Cx) (scope : Scope) (s : Shared) (H : Hp) (C : Addr) (cl : List (Str × Addr)) (fp : List Addr) : Cx := X.blk s H scope (compEnvC scope cl C X.env) fp
def yesB : MB := fun _ => .ok true
theorem dts_nil {X' : Cx} : PTs X' [] (tT X'.K X'.mg W yesB) := ⟨fun pins s σ H Q I h => by
  obtain ⟨H0, G0, G, ρ, r, h⟩ := h
  exact pts_nil.run pins s σ H Q I (nowB r.gh h)⟩
theorem df_lc (hN : X.N.Nodup) (hi : DI X W tg iter mi) (ok : blkC X.N X.env.scope scope own = true)
    (hg : ∀ s H C cl fp, DG (BX X scope s H C cl fp) tg g ix) (ht : ∀ s H C cl fp, PTs (BX X scope s H C cl fp) ifs (tT X.K X.mg W0 mt))
    (he : ∀ s H C cl fp, DE (BX X scope s H C cl fp) W0 elt me) (hix : ∀ j ∈ ix, j ∈ own.map (·.2) := by decide) (hs : ∀ x, foldedSetIterable iter X.env x = pure x := by intro _; rfl) (hc : X.calm = true := by rfl) :
    DF X W (.ListComp elt [⟨tg, iter, ifs, 0⟩] scope pos) (lcF mi g mt me (own.map (·.2))) :=
  pe_imp (pe_lc (g := tG X.K g ix) (tt := tT X.K X.mg W0 mt) (te := tD X.K X.mg W0 me) hc hN hi (blkOk_by ok) hg ht he hs) fun σ H Q h => lc_reading hix h
end
end
end DL
/-! DL8: statements. -/
namespace DL
noncomputable section
open PySem PySem.Spec PyProof.Rows L2

inductive Fl where
  | no
  | nx (ρ : Ro)
  | rt (d : PyData)
  | rtF (ds : List PyData)
  | bk (ρ : Ro)
  | ct (ρ : Ro)
  | ex (c : Str) (ρ : Ro)
abbrev MS := Ro → Fl
section post
variable (K : PySem.W.Frag) (mg : Str → Option Value) (W : WX)
def PostF (D : Ends) (H0 G0 G : Hp) : Fl → Prop
  | .no => False
  | .nx ρ => ∀ σ G' H', Same G G' → Rel K H0 G0 G' ρ σ H' → D.nx σ H'
  | .bk ρ => ∀ σ G' H', Same G G' → Rel K H0 G0 G' ρ σ H' → D.bk σ H'
  | .ct ρ => ∀ σ G' H', Same G G' → Rel K H0 G0 G' ρ σ H' → D.ct σ H'
  | .rt d => ∀ v G' H', Same G G' → Ext G0 H0 G' H' → Dq K G' v d → D.rt v H'
  | .rtF ds => ∀ p vs G' H', Same G G' → Ext G0 H0 G' H' → H0 p = none → G' p = none → H' p = some (.lst vs) → DqAll K G' vs ds → D.rt (.ref p) H'
  | .ex c ρ => ∀ C σ G' H', mg c = some (.ref C) → Same G G' → Rel K H0 G0 G' ρ σ H' → W (.ref C) none σ H'
end post
section
variable {K : PySem.W.Frag} {mg : Str → Option Value} {W : WX} {D D' : Ends} {H0 G0 G G' : Hp}
theorem PostF.mono {f : Fl} (s : Same G G') (h : PostF K mg W D H0 G0 G f) : PostF K mg W D H0 G0 G' f := by
  cases f with
  | no => exact h
  | nx ρ => exact fun σ G2 H' e => h σ G2 H' (s.trans e)
  | bk ρ => exact fun σ G2 H' e => h σ G2 H' (s.trans e)
  | ct ρ => exact fun σ G2 H' e => h σ G2 H' (s.trans e)
  | rt d => exact fun v G2 H' e => h v G2 H' (s.trans e)
  | rtF d => exact fun p vs G2 H' e => h p vs G2 H' (s.trans e)
  | ex c ρ => exact fun C σ G2 H' q e => h C σ G2 H' q (s.trans e)
end
def tS (K : PySem.W.Frag) (mg : Str → Option Value) (W : WX) (m : MS) : TS := fun D σ H => ∃ H0 G0 G ρ, Rel K H0 G0 G ρ σ H ∧ PostF K mg W D H0 G0 G (m ρ)
def DS (X : Cx) (W : WX) (st : Stmt) (m : MS) : Prop := PS X st (tS X.K X.mg W m)
def DSs (X : Cx) (W : WX) (st : List Stmt) (m : MS) : Prop := PSs X st (tS X.K X.mg W m)
theorem ps_imp {X : Cx} {e : Stmt} {t t' : TS} (h : PS X e t) (i : ∀ D σ H, t' D σ H → t D σ H) : PS X e t' := ⟨fun pins s σ H D I q => h.run pins s σ H D I (i D σ H q)⟩
theorem pss_imp {X : Cx} {e : List Stmt} {t t' : TS} (h : PSs X e t) (i : ∀ D σ H, t' D σ H → t D σ H) : PSs X e t' := ⟨fun pins s σ H D I q => h.run pins s σ H D I (i D σ H q)⟩

/-- an expression's outcome, then a statement's -/
def thenF {α : Type} (o : Out α) (ρ : Ro) (k : α → Fl) : Fl := match o with
  | .no => .no
  | .ex c => .ex c ρ
  | .ok a => k a
def seqS (m1 m2 : MS) : MS := fun ρ => match m1 ρ with
  | .nx ρ' => m2 ρ'
  | f => f
section
variable {X : Cx} {W : WX} {e a b c tg : Expr} {es : List Expr} {st : Stmt} {sts rest : List Stmt} {ma mb mc : MD} {ml ml' : ML} {mt mu : MB} {ms mr : MS} {pos p pos' p2 : Pos} {x : Str} {k : Nat} {D : Ends} {H0 G0 G H : Hp} {ρ : Ro} {σ : L2.St}
/-- from a statement's wish to its expression's -/
theorem thenF_post {α : Type} {o : Out α} {f : α → Fl} {R : α → Hp → Hp → Prop} (r : Rel X.K H0 G0 G ρ σ H) (h : PostF X.K X.mg W D H0 G0 G (thenF o ρ f)) (hk : ∀ a G' H', o = .ok a → Ext G H G' H' → PostF X.K X.mg W D H0 G0 G' (f a) → R a G' H') : PostO X.mg W σ G H R o := by
  cases o with
  | no => exact h
  | ex c => exact fun C G' H' e x => h C σ G' H' e x.g (r.step x)
  | ok a => exact fun G' H' x => hk a G' H' rfl x (PostF.mono x.g h)
theorem dss_nil : DSs X W [] .nx := pss_imp pss_nil fun D σ H ⟨H0, G0, G, ρ, r, h⟩ => h σ G H (.refl _) r
theorem seq_ok {m1 m2 : MS} (h : tS X.K X.mg W (seqS m1 m2) D σ H) : tS X.K X.mg W m1 { D with nx := tS X.K X.mg W m2 D } σ H := by
  obtain ⟨H0, G0, G, ρ, r, h⟩ := h
  refine ⟨H0, G0, G, ρ, r, ?_⟩
  unfold seqS at h
  cases q : m1 ρ with
  | no => rw [q] at h; exact h
  | nx ρ' =>
    rw [q] at h
    intro σ' G' H' s r'
    exact ⟨H0, G0, G', ρ', r', PostF.mono s h⟩
  | bk ρ' => rw [q] at h; exact h
  | ct ρ' => rw [q] at h; exact h
  | rt d => rw [q] at h; exact h
  | rtF d => rw [q] at h; exact h
  | ex c ρ' => rw [q] at h; exact h
theorem dss_cons (h1 : DS X W st ms) (h2 : DSs X W rest mr) : DSs X W (st :: rest) (seqS ms mr) :=
  pss_imp (pss_cons h1 h2) fun D σ H h => seq_ok h
theorem dss_one (h1 : DS X W st ms) : DSs X W [st] ms := pss_one h1
/-! ### freezing ahead of a statement -/
def frzS (is : List Nat) (m : MS) : MS := fun ρ => m (frz is ρ)
theorem frz_ok {is : List Nat} {m : MS} (h : tS X.K X.mg W (frzS is m) D σ H) : tS X.K X.mg W m D σ H := by
  obtain ⟨H0, G0, G, ρ, r, h⟩ := h
  obtain ⟨G', s, r'⟩ := r.frz is
  exact ⟨H0, G0, G', _, r', PostF.mono s h⟩
theorem ds_frz (is : List Nat) (h : DS X W st ms) : DS X W st (frzS is ms) := ps_imp h fun _ _ _ q => frz_ok q
theorem dss_frz (is : List Nat) (h : DSs X W sts ms) : DSs X W sts (frzS is ms) := pss_imp h fun _ _ _ q => frz_ok q
/-- slots that are forgotten -/
def unS (is : List Nat) (m : MS) : MS := fun ρ => m (is.foldl (fun ρ i => ρ.set i .un) ρ)

/-! ### small statements -/
theorem ds_pass : DS X W (.Pass pos) .nx := ps_imp ps_pass fun D σ H ⟨H0, G0, G, ρ, r, h⟩ => h σ G H (.refl _) r
theorem ds_break : DS X W (.Break pos) .bk := ps_imp ps_break fun D σ H ⟨H0, G0, G, ρ, r, h⟩ => h σ G H (.refl _) r
theorem ds_continue : DS X W (.Continue pos) .ct := ps_imp ps_continue fun D σ H ⟨H0, G0, G, ρ, r, h⟩ => h σ G H (.refl _) r
theorem ds_doc {z : Str} {j : Nat} : DS X W (.Expr (.Constant (.str z) j p) pos) .nx := ps_imp ps_doc fun D σ H ⟨H0, G0, G, ρ, r, h⟩ => h σ G H (.refl _) r
def retS (ma : MD) : MS := fun ρ => thenF (ma ρ) ρ .rt
def retFS (ml : ML) : MS := fun ρ => thenF (ml ρ) ρ .rtF
def retN : MS := fun _ => .rt .none
theorem ds_ret (ha : DE X W a ma) : DS X W (.Return (some a) pos) (retS ma) := ps_imp (ps_ret ha) fun D σ H ⟨H0, G0, G, ρ, r, h⟩ =>
  ⟨H0, G0, G, ρ, r, thenF_post r h fun d G1 H1 _ x1 h1 v hv => h1 v G1 H1 (.refl _) (r.ext.trans x1) hv⟩
theorem ds_retF (ha : DF X W a ml) : DS X W (.Return (some a) pos) (retFS ml) := ps_imp (ps_ret ha) fun D σ H ⟨H0, G0, G, ρ, r, h⟩ =>
  ⟨H0, G0, G, ρ, r, thenF_post r h fun ds G1 H1 _ x1 h1 p vs hn hg hp hv => h1 p vs G1 H1 (.refl _) (r.ext.trans x1) (r.ext.h.free hn) hg hp hv⟩
theorem ds_retN : DS X W (.Return none pos) retN := ps_imp ps_retN fun D σ H ⟨H0, G0, G, ρ, r, h⟩ => h .non G H (.refl _) r.ext .non
/-- return x, x a list of ours -/
def retO (i : Nat) : MS := fun ρ => match ρ[i]? with
  | some (.own (.lst ds)) => .rtF ds
  | _ => .no
theorem ds_retO (i : Nat) (hN : X.N[i]? = some x := by rfl) (hv : Vis X.env.scope x := by first | exact Or.inl rfl | exact Or.inr (Or.inl rfl) | exact Or.inr (Or.inr rfl)) (hd : (x == ("__debug__" : Str)) = false := by decide)
    (hcd : (x == ("__classdict__" : Str)) = false := by decide) : DS X W (.Return (some (.Name x p)) pos) (retO i) := ps_imp (ps_ret (pe_var hN hv hd hcd)) fun D σ H ⟨H0, G0, G, ρ, r, h⟩ => by
  unfold retO at h
  split at h
  · rename_i ds q
    obtain ⟨a1, u, es, hp, ho, hg, h0⟩ := r.getOwn q
    obtain ⟨vs, rfl, hvs⟩ := ho.isLst
    exact ⟨.ref a1, es, h a1 vs G H (.refl _) r.ext h0 hg hp hvs⟩
  · exact h.elim
def ifS (mt : MB) (m1 m2 : MS) : MS := fun ρ => thenF (mt ρ) ρ fun t => if t then m1 ρ else m2 ρ
theorem ds_if {A B : List Stmt} {m1 m2 : MS} (hc : DT X W c mt) (ha : DSs X W A m1) (hb : DSs X W B m2) : DS X W (.If c A B pos) (ifS mt m1 m2) := ps_imp (ps_if hc ha hb) fun D σ H ⟨H0, G0, G, ρ, r, h⟩ =>
  ⟨H0, G0, G, ρ, r, thenF_post r h fun t G1 H1 _ x1 h1 => by
    cases t with
    | true => exact (show tS X.K X.mg W m1 D σ H1 from ⟨H0, G0, G1, ρ, r.step x1, h1⟩)
    | false => exact (show tS X.K X.mg W m2 D σ H1 from ⟨H0, G0, G1, ρ, r.step x1, h1⟩)⟩
/-! ### names are bound -/
def setS (i : Nat) (ma : MD) : MS := fun ρ => thenF (ma ρ) ρ fun d => .nx (ρ.set i (.sh d))
def setFS (i : Nat) (ml : ML) : MS := fun ρ => thenF (ml ρ) ρ fun ds => .nx (ρ.set i (.own (.lst ds)))
theorem set_reading (i : Nat) (h : tS X.K X.mg W (setS i ma) D σ H) : tAsg (tD X.K X.mg W ma) (gName i) D σ H := by
  obtain ⟨H0, G0, G, ρ, r, h⟩ := h
  exact ⟨H0, G0, G, ρ, r, thenF_post r h fun d G1 H1 _ x1 h1 v hv => h1 _ G1 H1 (.refl _) ((r.step x1).set hv)⟩
theorem Rel.fresh_ne (r : Rel X.K H0 G0 G ρ σ H) {q : Addr} (hq : H q = none) {i : Nat} : ∀ (j : Nat) (c : Ob), ρ[j]? = some (.own c) → σ[j]? = some (some (.ref q)) → j = i := fun j c e es => by
  obtain ⟨p', u, es', hp, _⟩ := r.getOwn e
  rw [es] at es'
  cases es'
  rw [hq] at hp
  cases hp
theorem setF_reading (i : Nat) (h : tS X.K X.mg W (setFS i ml) D σ H) : tAsg (tF X.K X.mg W ml) (gName i) D σ H := by
  obtain ⟨H0, G0, G, ρ, r, h⟩ := h
  exact ⟨H0, G0, G, ρ, r, thenF_post r h fun ds G1 H1 _ x1 h1 p vs hn hg hp hv => h1 _ G1 H1 (.refl _) ((r.step x1).setOwn (b := .lst ds) hp hv hg (r.ext.h.free hn) (r.fresh_ne hn))⟩
theorem ds_set (i : Nat) (hN : X.N.Nodup) (ha : DE X W a ma) (hi : X.N[i]? = some x := by rfl) (hx : Loc X.env.scope x := by first | exact Or.inl rfl | exact Or.inr rfl) (hs : swapsWith a (some (.Name x pos')) pos.line X.env = pure false := by rfl) (hf : X.fn x = true ∨ X.env.scope.names.lookup x = some .local := by first | exact .inl rfl | exact .inr rfl) :
    DS X W (.Assign [.Name x pos'] a pos) (setS i ma) := ps_imp (ps_set hN hi hx ha hs hf) fun D σ H h => set_reading i h
theorem ds_setF (i : Nat) (hN : X.N.Nodup) (ha : DF X W a ml) (hi : X.N[i]? = some x := by rfl) (hx : Loc X.env.scope x := by first | exact Or.inl rfl | exact Or.inr rfl) (hs : swapsWith a (some (.Name x pos')) pos.line X.env = pure false := by rfl) (hf : X.fn x = true ∨ X.env.scope.names.lookup x = some .local := by first | exact .inl rfl | exact .inr rfl) :
    DS X W (.Assign [.Name x pos'] a pos) (setFS i ml) := ps_imp (ps_set hN hi hx ha hs hf) fun D σ H h => setF_reading i h
/-- x = [.. for ..] on one line -/
theorem ds_setLc {elt tg iter : Expr} {ifs : List Expr} {mi : ML} {g : MG} {me : MD} {ix : List Nat} {scope : Scope} {own : List (Str × Nat)} (i : Nat) (hN : X.N.Nodup) (hi : DI X W tg iter mi) (ok : blkC X.N X.env.scope scope own = true)
    (hg : ∀ s H C cl fp, DG (BX X scope s H C cl fp) tg g ix) (ht : ∀ s H C cl fp, PTs (BX X scope s H C cl fp) ifs (tT X.K X.mg W0 mt)) (he : ∀ s H C cl fp, DE (BX X scope s H C cl fp) W0 elt me) (hsw : swapsWith (.ListComp elt [⟨tg, iter, ifs, 0⟩] scope pos) (some (.Name x pos')) p2.line X.env = pure true)
    (hix : ∀ j ∈ ix, j ∈ own.map (·.2) := by decide) (hy : X.N[i]? = some x := by rfl) (hyl : X.env.scope.names.lookup x = some .local := by rfl) (hs : ∀ x, foldedSetIterable iter X.env x = pure x := by intro _; rfl) (hc : X.calm = true := by rfl) :
    DS X W (.Assign [.Name x pos'] (.ListComp elt [⟨tg, iter, ifs, 0⟩] scope pos) p2) (setFS i (lcF mi g mt me (own.map (·.2)))) :=
  ps_imp (ps_setLc (g := tG X.K g ix) (tt := tT X.K X.mg W0 mt) (te := tD X.K X.mg W0 me) hc hN hy hyl hsw hi (blkOk_by ok) hg ht he hs) fun D σ H h => by
    obtain ⟨H0, G0, G, ρ, r, h⟩ := h
    refine lc_reading hix ⟨H0, G0, G, ρ, r, ?_⟩
    exact thenF_post r h fun ds G1 H1 _ x1 h1 p vs hn hg hp hv => h1 _ G1 H1 (.refl _) ((r.step x1).setOwn (b := .lst ds) hp hv hg (r.ext.h.free hn) (r.fresh_ne hn))
/-- the same, frozen at once -/
def setLS (i : Nat) (ml : ML) : MS := fun ρ => thenF (ml ρ) ρ fun ds => .nx (ρ.set i (.sh (.list ds)))
theorem setL_of {i : Nat} (h : DS X W st (setFS i ml)) : DS X W st (setLS i ml) := ps_imp h fun D σ H ⟨H0, G0, G, ρ, r, h⟩ => by
  refine ⟨H0, G0, G, ρ, r, ?_⟩
  unfold setLS at h
  unfold setFS
  generalize ml ρ = o at h
  cases o with
  | no => exact h
  | ex c => exact h
  | ok ds =>
    intro σ' G' H' s r'
    by_cases hi : i < ρ.length
    · have q : (ρ.set i (Sl.own (.lst ds)))[i]? = some (.own (.lst ds)) := List.getElem?_set_self hi
      obtain ⟨G2, s2, r2⟩ := r'.freeze q
      rw [List.set_set] at r2
      exact h σ' G2 H' (s.trans s2) r2
    · have e1 : ρ.set i (Sl.own (.lst ds)) = ρ := List.set_eq_of_length_le (by omega)
      have e2 : ρ.set i (Sl.sh (.list ds)) = ρ := List.set_eq_of_length_le (by omega)
      rw [e1] at r'
      have h' : PostF X.K X.mg W D H0 G0 G (.nx (ρ.set i (Sl.sh (.list ds)))) := h
      rw [e2] at h'
      exact h' σ' G' H' s r'
/-- a, b = e -/
def unpS (ma : MD) (g : MG) : MS := fun ρ => thenF (ma ρ) ρ fun d => match g d ρ with
  | some ρ' => .nx ρ'
  | none => .no
theorem ds_unp {g : MG} {ix : List Nat} (ha : DE X W a ma) (hg : DG X tg g ix) (hs : swapsWithSole [tg] a pos.line X.env = pure false := by rfl) (hw : swappedStores [tg] a X.env = pure none := by rfl) (h1 : (assignEach [tg] X.env).map (·.2) = [assign tg X.env] := by rfl) : DS X W (.Assign [tg] a pos) (unpS ma g) :=
  ps_imp (ps_asg ha hg hs hw h1) fun D σ H ⟨H0, G0, G, ρ, r, h⟩ => ⟨H0, G0, G, ρ, r, thenF_post r h fun d G1 H1 _ x1 h1 v hv => by
    cases q : g d ρ with
    | none => rw [q] at h1; exact h1.elim
    | some ρ' =>
      rw [q] at h1
      exact ⟨H0, G0, G1, ρ, d, ρ', r.step x1, hv, q, fun σ' r' _ => h1 σ' G1 H1 (.refl _) r'⟩⟩
/-- a, b = x, y -/
def parS (i j : Nat) (ml : ML) : MS := fun ρ => thenF (ml ρ) ρ fun ds => match ds with
  | [d, e] => .nx ((ρ.set i (.sh d)).set j (.sh e))
  | _ => .no
theorem ds_par {y : Str} {px py pt : Pos} {kt k2 pt2} (i j : Nat) (hN : X.N.Nodup) (ha : DA X W [a, b] ml) (hw : swappedStores [.Tuple [.Name x px, .Name y py] kt pt] (.Tuple [a, b] k2 pt2) X.env = pure (some [x, y]) := by rfl)
    (hc : X.calm = true := by rfl) (hi : X.N[i]? = some x := by rfl) (hj : X.N[j]? = some y := by rfl) (hij : i ≠ j := by decide) (hx : X.env.scope.names.lookup x = some .local := by rfl) (hy : X.env.scope.names.lookup y = some .local := by rfl)
    (hs : swapsWithSole [.Tuple [.Name x px, .Name y py] kt pt] (.Tuple [a, b] k2 pt2) pos.line X.env = pure false := by rfl) : DS X W (.Assign [.Tuple [.Name x px, .Name y py] kt pt] (.Tuple [a, b] k2 pt2) pos) (parS i j ml) :=
  ps_imp (ps_par hc hN hi hj hij hx hy ha hw hs) fun D σ H ⟨H0, G0, G, ρ, r, h⟩ => ⟨H0, G0, G, ρ, r, thenF_post r h fun ds G1 H1 _ x1 h1 vs hv => by
    match ds, hv, h1 with
    | [d, e], hv, h1 =>
      obtain ⟨v, w, rfl, hd, hd2⟩ := dq2 hv
      exact ⟨v, w, rfl, h1 _ G1 H1 (.refl _) (((r.step x1).set hd).set hd2)⟩
    | [], _, h1 => exact h1.elim
    | [_], _, h1 => exact h1.elim
    | _ :: _ :: _ :: _, _, h1 => exact h1.elim⟩
/-- x += e, ints -/
def augS (f : PyData → PyData → Out PyData) (i : Nat) (ma : MD) : MS := fun ρ => match ρ[i]? with
  | some (.sh d) => thenF (ma ρ >>= f d) ρ fun z => .nx (ρ.set i (.sh z))
  | _ => .no
def iaddD : PyData → PyData → Out PyData
  | .int i, .int j => .ok (.int (i + j))
  | _, _ => .no
def isubD : PyData → PyData → Out PyData
  | .int i, .int j => .ok (.int (i - j))
  | _, _ => .no
theorem aug_reading {f : Int → Int → Int} {fd : PyData → PyData → Out PyData} (hfd : ∀ d e z, fd d e = .ok z → ∃ i j, d = .int i ∧ e = .int j ∧ z = .int (f i j)) (hfe : ∀ d e c, fd d e ≠ .ex c) (i : Nat) (h : tS X.K X.mg W (augS fd i ma) D σ H) :
    tAug i (tD X.K X.mg W ma) (ipI f) D σ H := by
  obtain ⟨H0, G0, G, ρ, r, h⟩ := h
  unfold augS at h
  split at h
  · rename_i d q
    obtain ⟨v, es, dv⟩ := r.get q
    refine ⟨v, es, H0, G0, G, ρ, r, ?_⟩
    have h2 := thenF_post (R := fun z G' H' => PostF X.K X.mg W D H0 G0 G' (.nx (ρ.set i (.sh z)))) r h fun z G1 H1 _ x1 h1 => h1
    refine (PostO.bind h2).mono fun e G1 H1 _ x1 h1 w hw => ?_
    cases q2 : fd d e with
    | no => rw [q2] at h1; exact h1.elim
    | ex c => exact absurd q2 (hfe d e c)
    | ok z =>
      rw [q2] at h1
      obtain ⟨m, n, rfl, rfl, rfl⟩ := hfd d e z q2
      obtain rfl := dp_int dv
      obtain rfl := dp_int hw
      exact ⟨m, n, rfl, rfl, h1 G1 H1 (.refl x1.gh) _ G1 H1 (.refl _) ((r.step x1).set (.int _))⟩
  · exact h.elim
theorem ds_iadd (i : Nat) (hN : X.N.Nodup) (ha : DE X W a ma) (hi : X.N[i]? = some x := by rfl) (hx : Loc X.env.scope x := by first | exact Or.inl rfl | exact Or.inr rfl) (hf : X.fn x = true ∨ X.env.scope.names.lookup x = some .local := by first | exact .inl rfl | exact .inr rfl) :
    DS X W (.AugAssign (.Name x pos') .Add a pos) (augS iaddD i ma) := ps_imp (ps_aug hN hi hx ha ip_add hf) fun D σ H h => aug_reading (fun d e z h => by
      cases d <;> cases e <;> first | (cases h; exact ⟨_, _, rfl, rfl, rfl⟩) | cases h) (fun d e c h => by cases d <;> cases e <;> cases h) i h
theorem ds_isub (i : Nat) (hN : X.N.Nodup) (ha : DE X W a ma) (hi : X.N[i]? = some x := by rfl) (hx : Loc X.env.scope x := by first | exact Or.inl rfl | exact Or.inr rfl) (hf : X.fn x = true ∨ X.env.scope.names.lookup x = some .local := by first | exact .inl rfl | exact .inr rfl) :
    DS X W (.AugAssign (.Name x pos') .Sub a pos) (augS isubD i ma) := ps_imp (ps_aug hN hi hx ha ip_sub hf) fun D σ H h => aug_reading (fun d e z h => by
      cases d <;> cases e <;> first | (cases h; exact ⟨_, _, rfl, rfl, rfl⟩) | cases h) (fun d e c h => by cases d <;> cases e <;> cases h) i h
/-! ### lists of ours are changed -/
/-- x.append(e) -/
def appS (i : Nat) (ma : MD) : MS := fun ρ => match ρ[i]? with
  | some (.own (.lst ds)) => thenF (ma ρ) ρ fun d => if ds.length < sizeLine then .nx (ρ.set i (.own (.lst (ds ++ [d])))) else .no
  | _ => .no
theorem ds_app {ap cp : Pos} (i : Nat) (ha : DE X W a ma) (hN : X.N[i]? = some x := by rfl) (hv : Vis X.env.scope x := by first | exact Or.inl rfl | exact Or.inr (Or.inl rfl) | exact Or.inr (Or.inr rfl)) (hd : (x == ("__debug__" : Str)) = false := by decide) (hcd : (x == ("__classdict__" : Str)) = false := by decide)
    (hbase : attributeBase (.Name x p) "append" X.env (eval (.Name x p) X.env) = eval (.Name x p) X.env := by rfl)
    (hfew : ((backTo cp (starEach [a] X.env)).all (fun x => !x.1) && (backToKw cp (keywordEach [] X.env)).all (fun x => x.1.isSome)
      && decide (([a] : List Expr).length + ([] : List Keyword).length + (if ([] : List Keyword).isEmpty then 0 else 1) < 30)) = true := by rfl)
    (hline : (ap.endLine == cp.line) = true := by rfl) (hs : starEach [a] X.env = (false, eval a X.env) :: starEach [] X.env := by rfl) (hplain : (backTo cp (starEach [] X.env)).any (·.1) = false := by rfl)
    (hsw : swapsWith (.Call (.Attribute (.Name x p) "append" ap) [a] [] cp) none pos.line X.env = pure false := by rfl) : DS X W (.Expr (.Call (.Attribute (.Name x p) "append" ap) [a] [] cp) pos) (appS i ma) := by
  refine ps_imp (ps_expr (pe_bm PySem.F.plainAttrs_list PySem.F.slot_list_append PySem.F.type_list_append mt_append (pe_var hN hv hd hcd) (pa_cons ha pa_nil hs) hbase hfew hline hs hplain) hsw) fun D σ H ⟨H0, G0, G, ρ, r, h⟩ => ?_
  unfold appS at h
  split at h
  · rename_i ds q
    obtain ⟨a1, u, es, hp, ho, hg, h0⟩ := r.getOwn q
    obtain ⟨vs, rfl, hvs⟩ := ho.isLst
    refine ⟨.ref a1, es, .inl ⟨rfl, vs, SqL.of hp⟩, H0, G0, G, ρ, r, thenF_post r h fun d G1 H1 _ x1 h1 v hv => ?_⟩
    split at h1
    · rename_i hz
      have r1 := r.step x1
      refine ⟨a1, vs, v, rfl, rfl, x1.h _ _ hp, by rw [dpAll_len hvs]; exact hz, ?_⟩
      exact h1 σ G1 _ (.refl _) (r1.write (b' := .lst (ds ++ [d])) q es (x1.h _ _ hp) (x1.fr a1 hg (by rw [hp]; simp)) h0 (show DqAll _ _ _ _ from dpAll_append (dpAll_mono x1.g hvs) (.cons hv .nil)))
    · exact h1.elim
  · exact h.elim
/-- x[e] = v -/
def setIS (i : Nat) (mi mv : MD) : MS := fun ρ => match ρ[i]? with
  | some (.own (.lst ds)) => thenF (mv ρ >>= fun v => mi ρ >>= fun j => .ok (v, j)) ρ fun vj => match vj.2 with
    | .int j => match ixN ds.length j with
      | some n => .nx (ρ.set i (.own (.lst (ds.set n vj.1))))
      | none => .no
    | _ => .no
  | _ => .no
theorem ds_setI {sp : Pos} (i : Nat) (hi : DE X W b mb) (ha : DE X W a ma) (hN : X.N[i]? = some x := by rfl) (hv : Vis X.env.scope x := by first | exact Or.inl rfl | exact Or.inr (Or.inl rfl) | exact Or.inr (Or.inr rfl)) (hd : (x == ("__debug__" : Str)) = false := by decide) (hcd : (x == ("__classdict__" : Str)) = false := by decide)
    (hsub : ∀ v, assign (.Subscript (.Name x p) b sp) X.env v = (do
      let ov ← holding [v] (eval (.Name x p) X.env)
      let iv ← holding [v, ov] (eval b X.env)
      standAt sp
      holding [v, ov, iv] (setItem ov iv v)
      release [v, ov, iv] []) := by intro _; rfl)
    (hs : swapsWithSole [.Subscript (.Name x p) b sp] a pos.line X.env = pure false := by rfl) (hw : swappedStores [.Subscript (.Name x p) b sp] a X.env = pure none := by rfl) (h1 : (assignEach [.Subscript (.Name x p) b sp] X.env).map (·.2) = [assign (.Subscript (.Name x p) b sp) X.env] := by rfl) :
    DS X W (.Assign [.Subscript (.Name x p) b sp] a pos) (setIS i mb ma) := by
  refine ps_imp (ps_asg ha (pg_sub (pe_var hN hv hd hcd) hi set_list hsub) hs hw h1) fun D σ H ⟨H0, G0, G, ρ, r, h⟩ => ?_
  unfold setIS at h
  cases q : ρ[i]? with
  | none => rw [q] at h; exact h.elim
  | some s =>
    rw [q] at h
    cases s with
    | un => exact h.elim
    | sh d => exact h.elim
    | own o =>
      cases o with
      | dic kv => exact h.elim
      | lst ds =>
        obtain ⟨a1, u, es, hp, ho, hg, h0⟩ := r.getOwn q
        obtain ⟨vs, rfl, hvs⟩ := ho.isLst
        have h2 := thenF_post (R := fun vj G' H' => PostF X.K X.mg W D H0 G0 G' (match vj.2 with
          | .int j => match ixN ds.length j with
            | some n => .nx (ρ.set i (.own (.lst (ds.set n vj.1))))
            | none => .no
          | _ => .no)) r h fun z G1 H1 _ x1 h1 => h1
        refine ⟨H0, G0, G, ρ, r, (PostO.bind h2).mono fun d G1 H1 _ x1 h3 v hv => ?_⟩
        refine ⟨.ref a1, es, H0, G0, G1, ρ, r.step x1, (PostO.bind h3).mono fun e G2 H2 _ x2 h4 w hw => ?_⟩
        have h5 := h4 G2 H2 (.refl x2.gh)
        cases e with
        | int j =>
          obtain rfl := dp_int hw
          cases qn : ixN ds.length j with
          | none =>
            have h6 : PostF X.K X.mg W D H0 G0 G2 (match ixN ds.length j with
              | some n => .nx (ρ.set i (.own (.lst (ds.set n d))))
              | none => .no) := h5
            rw [qn] at h6
            exact h6.elim
          | some n =>
            have h6 : PostF X.K X.mg W D H0 G0 G2 (match ixN ds.length j with
              | some n => .nx (ρ.set i (.own (.lst (ds.set n d))))
              | none => .no) := h5
            rw [qn] at h6
            have x3 := x1.trans x2
            refine ⟨a1, vs, j, n, rfl, rfl, x3.h _ _ hp, by rw [dpAll_len hvs]; exact qn, ?_⟩
            exact h6 σ G2 _ (.refl _) ((r.step x3).write (b' := .lst (ds.set n d)) q es (x3.h _ _ hp) (x3.fr a1 hg (by rw [hp]; simp)) h0 (show DqAll _ _ _ _ from dpAll_set n (dpAll_mono x3.g hvs) (dp_mono x2.g hv)))
        | _ => exact h5.elim
end
end
end DL
/-! DL9: loops, defs and their calls, the law's end. -/
namespace DL
noncomputable section
open PySem PySem.Spec PyProof.Rows L2
/-! ### for -/
def forD (g : MG) (body : MS) : List PyData → MS
  | [], ρ => .nx ρ
  | d :: r, ρ => match g d ρ with
    | none => .no
    | some ρ1 => match body ρ1 with
      | .nx ρ' => forD g body r ρ'
      | .ct ρ' => forD g body r ρ'
      | .bk ρ' => .nx ρ'
      | f => f
def forS (mi : ML) (g : MG) (body : MS) : MS := fun ρ => thenF (mi ρ) ρ fun ds => forD g body ds ρ
section
variable {X : Cx} {W : WX} {e a b c tg iter : Expr} {es : List Expr} {st : Stmt} {sts rest body : List Stmt} {ma mb mc : MD} {ml ml' mi : ML} {mt mu : MB} {ms mr : MS} {g : MG} {ix : List Nat} {pos p pos' p2 : Pos} {x : Str} {k : Nat} {D : Ends} {H0 G0 G H : Hp} {ρ : Ro} {σ : L2.St}
theorem ds_for (hp : PassesOwn (model X.prog X.w) X.A X.env X.xe) (hi : DI X W tg iter mi) (hg : DG X tg g ix) (hb : DSs X W body ms) (hs : ∀ x, foldedSetIterable iter X.env x = pure x := by intro _; rfl) (hc : X.calm = true := by rfl) : DS X W (.For tg iter body [] pos) (forS mi g ms) := by
  refine ps_imp (ps_for hp hc hi hg hb hs) fun D σ H ⟨H0, G0, G, ρ, r, h⟩ => ⟨H0, G0, G, ρ, r, thenF_post r h fun ds G1 H1 _ x1 h1 J hJ => ?_⟩
  refine ⟨fun i m σ2 H2 => ∃ G2 ρ2, i ≤ ds.length ∧ m = ds.length - i ∧ Same G1 G2 ∧ Rel X.K H0 G0 G2 ρ2 σ2 H2 ∧ PostF X.K X.mg W D H0 G0 G2 (forD g ms (ds.drop i) ρ2), ⟨ds.length, G1, ρ, Nat.zero_le _, rfl, .refl _, r.step x1, h1⟩, ?_⟩
  rintro i m σ2 H2 ⟨G2, ρ2, hi2, rfl, s2, r2, h2⟩
  by_cases hlt : i < ds.length
  · refine .inr ⟨hJ.go i H2 (s2.trans r2.gh) hlt, fun σ' H' => ∃ G2 ρ2, i + 1 ≤ ds.length ∧ Same G1 G2 ∧ Rel X.K H0 G0 G2 ρ2 σ' H' ∧ PostF X.K X.mg W D H0 G0 G2 (forD g ms (ds.drop (i + 1)) ρ2),
      fun σ' H' ⟨G3, ρ3, k1, k2, k3, k4⟩ => ⟨ds.length - (i + 1), by omega, G3, ρ3, k1, rfl, k2, k3, k4⟩, fun v H' y => ?_⟩
    obtain ⟨d, G3, hd, x3, dv⟩ := hJ.yld i H2 v H' G2 s2 r2.gh y hlt
    have ed : ds.drop i = d :: ds.drop (i + 1) := by
      rw [List.getElem?_eq_getElem hlt] at hd
      cases hd
      exact List.drop_eq_getElem_cons hlt
    rw [ed] at h2
    have h3 := PostF.mono x3.g h2
    unfold forD at h3
    cases q : g d ρ2 with
    | none => rw [q] at h3; exact h3.elim
    | some ρ3 =>
      rw [q] at h3
      refine ⟨H0, G0, G3, ρ2, d, ρ3, r2.step x3, dv, q, fun σ3 r3 _ => ⟨H0, G0, G3, ρ3, r3, ?_⟩⟩
      have s3 := s2.trans x3.g
      have again : ∀ ρ', PostF X.K X.mg W D H0 G0 G3 (forD g ms (ds.drop (i + 1)) ρ') → ∀ σ' G' H'', Same G3 G' → Rel X.K H0 G0 G' ρ' σ' H'' → ∃ G2 ρ2, i + 1 ≤ ds.length ∧ Same G1 G2 ∧ Rel X.K H0 G0 G2 ρ2 σ' H'' ∧ PostF X.K X.mg W D H0 G0 G2 (forD g ms (ds.drop (i + 1)) ρ2) :=
        fun ρ' z σ' G' H'' s r' => ⟨G', ρ', hlt, s3.trans s, r', PostF.mono s z⟩
      have h4 : PostF X.K X.mg W D H0 G0 G3 (match ms ρ3 with
        | .nx ρ' => forD g ms (ds.drop (i + 1)) ρ'
        | .ct ρ' => forD g ms (ds.drop (i + 1)) ρ'
        | .bk ρ' => .nx ρ'
        | f => f) := h3
      cases q2 : ms ρ3 with
      | no => rw [q2] at h4; exact h4
      | nx ρ' => rw [q2] at h4; exact again ρ' h4
      | ct ρ' => rw [q2] at h4; exact again ρ' h4
      | bk ρ' => rw [q2] at h4; exact h4
      | rt d => rw [q2] at h4; exact h4
      | rtF d => rw [q2] at h4; exact h4
      | ex c ρ' => rw [q2] at h4; exact h4
  · have e : i = ds.length := by omega
    subst e
    refine .inl ⟨hJ.stop _ H2 (s2.trans r2.gh) (Nat.le_refl _), ?_⟩
    rw [List.drop_length] at h2
    exact h2 σ2 G2 H2 (.refl _) r2
/-! ### while -/
def whileD (mt : MB) (body : MS) : Nat → MS
  | 0, _ => .no
  | n + 1, ρ => thenF (mt ρ) ρ fun t => if t then (match body ρ with
      | .nx ρ' => whileD mt body n ρ'
      | .ct ρ' => whileD mt body n ρ'
      | .bk ρ' => .nx ρ'
      | f => f) else .nx ρ
theorem whileD_more {mt : MB} {body : MS} : ∀ {n : Nat} {ρ : Ro}, whileD mt body n ρ ≠ .no → whileD mt body (n + 1) ρ = whileD mt body n ρ
  | 0, _, h => absurd rfl h
  | n + 1, ρ, h => by
    have e1 : whileD mt body (n + 1 + 1) ρ = thenF (mt ρ) ρ fun t => if t then (match body ρ with
      | .nx ρ' => whileD mt body (n + 1) ρ'
      | .ct ρ' => whileD mt body (n + 1) ρ'
      | .bk ρ' => .nx ρ'
      | f => f) else .nx ρ := rfl
    have e2 : whileD mt body (n + 1) ρ = thenF (mt ρ) ρ fun t => if t then (match body ρ with
      | .nx ρ' => whileD mt body n ρ'
      | .ct ρ' => whileD mt body n ρ'
      | .bk ρ' => .nx ρ'
      | f => f) else .nx ρ := rfl
    rw [e2] at h
    rw [e1, e2]
    cases q : mt ρ with
    | no => rfl
    | ex c => rfl
    | ok t =>
      rw [q] at h
      cases t with
      | false => rfl
      | true =>
        show (match body ρ with
          | .nx ρ' => whileD mt body (n + 1) ρ'
          | .ct ρ' => whileD mt body (n + 1) ρ'
          | .bk ρ' => .nx ρ'
          | f => f) = (match body ρ with
          | .nx ρ' => whileD mt body n ρ'
          | .ct ρ' => whileD mt body n ρ'
          | .bk ρ' => .nx ρ'
          | f => f)
        have h' : (match body ρ with
          | .nx ρ' => whileD mt body n ρ'
          | .ct ρ' => whileD mt body n ρ'
          | .bk ρ' => .nx ρ'
          | f => f) ≠ .no := h
        cases q2 : body ρ with
        | nx ρ' => rw [q2] at h'; exact whileD_more h'
        | ct ρ' => rw [q2] at h'; exact whileD_more h'
        | _ => rfl
theorem whileD_le {mt : MB} {body : MS} {n m : Nat} {ρ : Ro} (h : whileD mt body n ρ ≠ .no) (hl : n ≤ m) : whileD mt body m ρ = whileD mt body n ρ := by
  induction hl with
  | refl => rfl
  | step _ ih => rw [← ih] at h ⊢; exact whileD_more h
open Classical in
def whileX (mt : MB) (body : MS) : MS := fun ρ => if h : ∃ n, whileD mt body n ρ ≠ .no then whileD mt body h.choose ρ else .no
theorem whileX_eq {mt : MB} {body : MS} {n : Nat} {ρ : Ro} {f : Fl} (h : whileD mt body n ρ = f) (hf : f ≠ .no) : whileX mt body ρ = f := by
  have h1 : whileD mt body n ρ ≠ .no := by rw [h]; exact hf
  have hex : ∃ n, whileD mt body n ρ ≠ .no := ⟨n, h1⟩
  unfold whileX
  rw [dif_pos hex]
  have h2 := hex.choose_spec
  rcases Nat.le_total n hex.choose with hl | hl
  · rw [whileD_le h1 hl]; exact h
  · rw [← whileD_le h2 hl]; exact h
theorem ds_while (hp : PassesOwn (model X.prog X.w) X.A X.env X.xe) (hc : DT X W c mt) (hb : DSs X W body ms) : DS X W (.While c body [] pos) (whileX mt ms) := by
  refine ps_imp (ps_while hp hc hb) fun D σ H ⟨H0, G0, G, ρ, r, h⟩ => ?_
  by_cases hex : ∃ n, whileD mt ms n ρ ≠ .no
  · have e : whileX mt ms ρ = whileD mt ms hex.choose ρ := by unfold whileX; rw [dif_pos hex]
    rw [e] at h
    refine ⟨fun m σ2 H2 => ∃ G2 ρ2, Rel X.K H0 G0 G2 ρ2 σ2 H2 ∧ PostF X.K X.mg W D H0 G0 G2 (whileD mt ms m ρ2), ⟨_, G, ρ, r, h⟩, ?_⟩
    rintro m σ2 H2 ⟨G2, ρ2, r2, h2⟩
    cases m with
    | zero => exact h2.elim
    | succ n =>
      have h3 : PostF X.K X.mg W D H0 G0 G2 (thenF (mt ρ2) ρ2 fun t => if t then (match ms ρ2 with
        | .nx ρ' => whileD mt ms n ρ'
        | .ct ρ' => whileD mt ms n ρ'
        | .bk ρ' => .nx ρ'
        | f => f) else .nx ρ2) := h2
      refine ⟨H0, G0, G2, ρ2, r2, thenF_post r2 h3 fun t G3 H3 _ x3 h4 => ?_⟩
      cases t with
      | false =>
        simp only [rB, Bool.false_eq_true, if_false]
        exact h4 σ2 G3 H3 (.refl _) (r2.step x3)
      | true =>
        simp only [rB, if_true]
        refine ⟨fun σ' H' => ∃ G2 ρ2, Rel X.K H0 G0 G2 ρ2 σ' H' ∧ PostF X.K X.mg W D H0 G0 G2 (whileD mt ms n ρ2), fun σ' H' z => ⟨n, Nat.lt_succ_self n, z⟩, H0, G0, G3, ρ2, r2.step x3, ?_⟩
        have h5 : PostF X.K X.mg W D H0 G0 G3 (match ms ρ2 with
          | .nx ρ' => whileD mt ms n ρ'
          | .ct ρ' => whileD mt ms n ρ'
          | .bk ρ' => .nx ρ'
          | f => f) := h4
        cases q2 : ms ρ2 with
        | no => rw [q2] at h5; exact h5
        | nx ρ' => rw [q2] at h5; exact fun σ' G' H' s r' => ⟨G', ρ', r', PostF.mono s h5⟩
        | ct ρ' => rw [q2] at h5; exact fun σ' G' H' s r' => ⟨G', ρ', r', PostF.mono s h5⟩
        | bk ρ' => rw [q2] at h5; exact h5
        | rt d => rw [q2] at h5; exact h5
        | rtF d => rw [q2] at h5; exact h5
        | ex c ρ' => rw [q2] at h5; exact h5
  · have e : whileX mt ms ρ = .no := by unfold whileX; rw [dif_neg hex]
    rw [e] at h
    exact h.elim
end

/-! ### defs -/
def wE (E : XK) : WX := fun cls d _ H => E cls d H
def start0 (n : Nat) (ds : List PyData) : Ro := ds.map .sh ++ List.replicate (n - ds.length) .un
/-- what a def of n names, np of them parameters, hands back, by its body's mirror -/
def runD (np n : Nat) (m : MS) (ds : List PyData) : Out PyData := if ds.length = np then (match m (start0 n ds) with
  | .nx _ => .ok .none
  | .rt d => .ok d
  | .rtF es => .ok (.list es)
  | .ex c _ => .ex c
  | _ => .no) else .no
def runF (np n : Nat) (m : MS) (ds : List PyData) : Out (List PyData) := if ds.length = np then (match m (start0 n ds) with
  | .rtF es => .ok es
  | .ex c _ => .ex c
  | _ => .no) else .no
abbrev FD := List PyData → Out PyData
abbrev FF := List PyData → Out (List PyData)
def spD (K : PySem.W.Frag) (mg : Str → Option Value) (F : FD) : Sp := fun vs H Q E => ∃ G ds, Same G H ∧ DqAll K G vs ds ∧ PostO mg (wE E) [] G H (rD K Q) (F ds)
def spF (K : PySem.W.Frag) (mg : Str → Option Value) (F : FF) : Sp := fun vs H Q E => ∃ G ds, Same G H ∧ DqAll K G vs ds ∧ PostO mg (wE E) [] G H (rF K H Q) (F ds)
/-- a def of the module by its name, called with every parameter given -/
structure Cal (P : Program) (w : World) (K : PySem.W.Frag) (mg : Str → Option Value) (base : Heap) (k : Nat) (x : Str) (ps : List Str) (sp : Sp) : Prop where
  ex : ∃ f fd, mg x = some (.ref f) ∧ PySem.W.keepIn K (.ref f) = true ∧ Binds K fd ps [] ∧ FnOk P w K mg base (L2.CX P w) k f fd ps sp
section
variable {P : Program} {w : World} {K : PySem.W.Frag} {mg : Str → Option Value} {base : Heap}
theorem start_rel {N ps : List Str} {G H : Hp} {vs : List V} {ds : List PyData} (s : Same G H) (h : DqAll K G vs ds) : Rel K H G G (start0 N.length ds) (L2.start N vs) H := by
  have hl := dpAll_len h
  refine ⟨.refl s, by simp [start0, L2.start, hl], fun i z e => ?_, fun i j p b c e1 => ?_⟩
  · unfold start0 at e
    unfold L2.start
    by_cases hi : i < ds.length
    · rw [List.getElem?_append_left (by simpa using hi), List.getElem?_map, List.getElem?_eq_getElem hi] at e
      cases e
      obtain ⟨v, hv, dv⟩ := dpAll_get' h (List.getElem?_eq_getElem hi)
      refine ⟨some v, ?_, v, rfl, dv⟩
      rw [List.getElem?_append_left (by simpa [hl] using hi), List.getElem?_map, hv]
      rfl
    · rw [List.getElem?_append_right (by simpa using hi), List.getElem?_replicate] at e
      split at e
      · cases e
        rename_i h2
        refine ⟨none, ?_, trivial⟩
        rw [List.getElem?_append_right (by simp [hl]; omega), List.getElem?_replicate]
        simp only [List.length_map] at h2 ⊢
        rw [if_pos (by rw [hl]; exact h2)]
      · cases e
  · unfold start0 at e1
    by_cases hi : i < ds.length
    · rw [List.getElem?_append_left (by simpa using hi), List.getElem?_map, List.getElem?_eq_getElem hi] at e1
      cases e1
    · rw [List.getElem?_append_right (by simpa using hi), List.getElem?_replicate] at e1
      split at e1 <;> cases e1
theorem fun_D {x qual : Str} {st : Stmt} {f : Addr} {fd : FuncData} {N ps : List Str} {k : Nat} {m : MS} (Fu : Fun K x qual st f fd) (S : FnScope N ps (defScope st))
    (hb : ∀ (cdv : Value) (A : Around) (outer : List Env) (s : Shared) (H : Hp) (E : XK), Room k (A.deeper (envOfC qual (defScope st) s.heap.objs.size f cdv)) → DSs (cxOf (L2.CX P w) P w K mg base N qual (defScope st) f cdv A outer s H E) (wE E) (defBody st) m) :
    FnOk P w K mg base (L2.CX P w) (k + 1) f fd ps (spD K mg (runD ps.length N.length m)) := by
  refine Fu.okX S (fun vs H Q E h => ?_) fun cdv A outer s H vs Q E hr h => ⟨_, hb cdv A outer s H E hr, ?_⟩
  · obtain ⟨G, ds, s, hd, h⟩ := h
    unfold runD at h
    split at h
    · rename_i hc
      rw [dpAll_len hd]; exact hc
    · exact h.elim
  · obtain ⟨G, ds, sg, hd, h⟩ := h
    refine ⟨H, G, G, _, start_rel (ps := ps) sg hd, ?_⟩
    unfold runD at h
    split at h
    · rename_i hc
      cases q : m (start0 N.length ds) with
      | no => rw [q] at h; exact h.elim
      | nx ρ => rw [q] at h; exact fun σ' G' H' _ r' => h G' H' r'.ext _ .non
      | bk ρ => rw [q] at h; exact h.elim
      | ct ρ => rw [q] at h; exact h.elim
      | rt d => rw [q] at h; exact fun v G' H' _ x hv => h G' H' x v hv
      | rtF es => rw [q] at h; exact fun p vs' G' H' _ x hn hg hp hv => h _ H' (x.freeze hn hp hg) _ (.lst (Rd.of upd_same) (dpAll_mono (same_upd hg) hv))
      | ex c ρ => rw [q] at h; exact fun C σ' G' H' e _ r' => h C G' H' e r'.ext
    · exact h.elim
theorem fun_F {x qual : Str} {st : Stmt} {f : Addr} {fd : FuncData} {N ps : List Str} {k : Nat} {m : MS} (Fu : Fun K x qual st f fd) (S : FnScope N ps (defScope st))
    (hb : ∀ (cdv : Value) (A : Around) (outer : List Env) (s : Shared) (H : Hp) (E : XK), Room k (A.deeper (envOfC qual (defScope st) s.heap.objs.size f cdv)) → DSs (cxOf (L2.CX P w) P w K mg base N qual (defScope st) f cdv A outer s H E) (wE E) (defBody st) m) :
    FnOk P w K mg base (L2.CX P w) (k + 1) f fd ps (spF K mg (runF ps.length N.length m)) := by
  refine Fu.okX S (fun vs H Q E h => ?_) fun cdv A outer s H vs Q E hr h => ⟨_, hb cdv A outer s H E hr, ?_⟩
  · obtain ⟨G, ds, s, hd, h⟩ := h
    unfold runF at h
    split at h
    · rename_i hc
      rw [dpAll_len hd]; exact hc
    · exact h.elim
  · obtain ⟨G, ds, sg, hd, h⟩ := h
    refine ⟨H, G, G, _, start_rel (ps := ps) sg hd, ?_⟩
    unfold runF at h
    split at h
    · rename_i hc
      cases q : m (start0 N.length ds) with
      | no => rw [q] at h; exact h.elim
      | nx ρ => rw [q] at h; exact h.elim
      | bk ρ => rw [q] at h; exact h.elim
      | ct ρ => rw [q] at h; exact h.elim
      | rt d => rw [q] at h; exact h.elim
      | rtF es => rw [q] at h; exact fun p vs' G' H' _ x hn hg hp hv => h G' H' x p vs' hn hg hp hv
      | ex c ρ => rw [q] at h; exact fun C σ' G' H' e _ r' => h C G' H' e r'.ext
    · exact h.elim
/-- a def that promises nothing (a recursion's ground) -/
theorem cal_no {x qual : Str} {st : Stmt} {f : Addr} {fd : FuncData} {ps : List Str} (Fu : Fun K x qual st f fd) (hm : mg x = some (.ref f)) (hb : Binds K fd ps []) : Cal P w K mg base 0 x ps (spD K mg fun _ => .no) :=
  ⟨f, fd, hm, Fu.kp, hb, fun vs H Q E ⟨_, _, _, _, h⟩ => h.elim, fun A outer s H args us vs Q E _ _ _ _ ⟨_, _, _, _, h⟩ => h.elim⟩
theorem Cal.mk' {x qual : Str} {st : Stmt} {f : Addr} {fd : FuncData} {ps : List Str} {k : Nat} {sp : Sp} (Fu : Fun K x qual st f fd) (hm : mg x = some (.ref f)) (hb : Binds K fd ps []) (h : FnOk P w K mg base (L2.CX P w) k f fd ps sp) : Cal P w K mg base k x ps sp := ⟨f, fd, hm, Fu.kp, hb, h⟩
theorem Cal.up {x : Str} {ps : List Str} {j k : Nat} {sp : Sp} (C : Cal P w K mg base j x ps sp) (h : j ≤ k) : Cal P w K mg base k x ps sp := by
  obtain ⟨f, fd, a, b, c, d⟩ := C.ex
  exact ⟨f, fd, a, b, c, d.mono h⟩
/-- what the mirror hands back may be told otherwise -/
theorem Cal.eq {x : Str} {ps : List Str} {k : Nat} {F F' : FD} (C : Cal P w K mg base k x ps (spD K mg F)) (h : ∀ ds, F' ds = .no ∨ F ds = F' ds) : Cal P w K mg base k x ps (spD K mg F') := by
  obtain ⟨f, fd, a, b, c, d⟩ := C.ex
  refine ⟨f, fd, a, b, c, d.imp fun vs H Q E ⟨G, ds, s, hd, q⟩ => ⟨G, ds, s, hd, ?_⟩⟩
  rcases h ds with e | e
  · rw [e] at q; exact q.elim
  · rw [e]; exact q
end
section
variable {X : Cx} {W : WX} {e : Expr} {es : List Expr} {ml : ML} {pos p : Pos} {x : Str} {k : Nat} {ps : List Str} {F : FD} {FF' : FF}
theorem postE {σ : L2.St} {G H : Hp} {α : Type} {R : α → Hp → Hp → Prop} {o : Out α} (h : PostO X.mg W σ G H R o) : PostO X.mg (wE (WE W σ)) [] G H R o := by
  cases o with
  | no => exact h
  | ex c => exact h
  | ok a => exact h
theorem de_call (C : Cal X.prog X.w X.K X.mg X.base k x ps (spD X.K X.mg F)) (hr : Room k X.A) (tk : Takes X W) (ha : DA X W (e :: es) ml) (hg : Gl X x := by rfl) (hdb : (x == ("__debug__" : Str)) = false := by decide)
    (he : starEach (e :: es) X.env = (false, eval e X.env) :: starEach es X.env := by rfl) (hpl : (backTo pos (starEach es X.env)).any (·.1) = false := by rfl) : DE X W (.Call (.Name x p) (e :: es) [] pos) (cD F ml) := by
  obtain ⟨f, fd, hm, hk, hb, hF⟩ := C.ex
  refine pe_imp (pe_callS hF hr hg hm hk hb (fun σ => passAt tk σ) ha hdb he hpl) fun σ H Q ⟨H0, G0, G, ρ, r, h⟩ => ?_
  exact ⟨H0, G0, G, ρ, r, (PostO.bind h).mono fun ds G1 H1 _ x1 h1 vs hv => ⟨G1, ds, x1.gh, hv, postE h1⟩⟩
theorem df_call (C : Cal X.prog X.w X.K X.mg X.base k x ps (spF X.K X.mg FF')) (hr : Room k X.A) (tk : Takes X W) (ha : DA X W (e :: es) ml) (hg : Gl X x := by rfl) (hdb : (x == ("__debug__" : Str)) = false := by decide)
    (he : starEach (e :: es) X.env = (false, eval e X.env) :: starEach es X.env := by rfl) (hpl : (backTo pos (starEach es X.env)).any (·.1) = false := by rfl) : DF X W (.Call (.Name x p) (e :: es) [] pos) (cF FF' ml) := by
  obtain ⟨f, fd, hm, hk, hb, hF⟩ := C.ex
  refine pe_imp (pe_callS hF hr hg hm hk hb (fun σ => passAt tk σ) ha hdb he hpl) fun σ H Q ⟨H0, G0, G, ρ, r, h⟩ => ?_
  exact ⟨H0, G0, G, ρ, r, (PostO.bind h).mono fun ds G1 H1 _ x1 h1 vs hv => ⟨G1, ds, x1.gh, hv, postE (h1.mono fun _ _ _ _ _ q => rF_mono x1.h q)⟩⟩
end
/-! ### the law's end -/
theorem sp_script {K : PySem.W.Frag} {mg : Str → Option Value} {F : FD} {H : Hp} {a : Addr} {ns : List Int} (h : F [roD (ns.map .int)] = .ok (.bool true)) (hS : SqL K H a (ns.map V.int)) : spD K mg F [.ref a] H (fun v _ => v = .bl true) fun _ _ _ => False := by
  refine ⟨H, _, .refl _, .cons (.ro hS (dpAll_ints ns)) .nil, ?_⟩
  rw [h]
  exact fun G' H' _ v hv => dp_bool hv
theorem no_cx {P : Program} {w : World} (H : Hp) (s : Shared) (e : Value) (s' : Shared) : L2.CX P w [] H s (fun _ _ _ => False) e s' → False := fun h => by
  obtain ⟨_, _, _, _, _, _, _, _, _, _, _, _, z⟩ := h
  exact z
end
end DL
/-! DL10: short words, sorted sets, backwards, items changed by +=. -/
namespace DL
noncomputable section
open PySem PySem.Spec PyProof.Rows L2 PpSet
abbrev cI (i : Int) : MD := fun _ => .ok (.int i)
abbrev cB (b : Bool) : MD := fun _ => .ok (.bool b)
abbrev cS (x : Str) : MD := fun _ => .ok (.str x)
abbrev cN : MD := fun _ => .ok .none
abbrev cG (d : PyData) : MD := fun _ => .ok d
theorem bt_int : bootBuiltins "int" = some (.type "int") := by decide +kernel
theorem bt_str : bootBuiltins "str" = some (.type "str") := by decide +kernel
theorem bt_bool : bootBuiltins "bool" = some (.type "bool") := by decide +kernel
theorem bt_list : bootBuiltins "list" = some (.type "list") := by decide +kernel
theorem bt_tuple : bootBuiltins "tuple" = some (.type "tuple") := by decide +kernel
theorem bt_len : bootBuiltins "len" = some (.builtin "len") := by decide +kernel
theorem bt_abs : bootBuiltins "abs" = some (.builtin "abs") := by decide +kernel
theorem bt_max : bootBuiltins "max" = some (.builtin "max") := by decide +kernel
theorem bt_min : bootBuiltins "min" = some (.builtin "min") := by decide +kernel
theorem bt_sum : bootBuiltins "sum" = some (.builtin "sum") := by decide +kernel
theorem bt_any : bootBuiltins "any" = some (.builtin "any") := by decide +kernel
theorem bt_all : bootBuiltins "all" = some (.builtin "all") := by decide +kernel
theorem bt_sorted : bootBuiltins "sorted" = some (.builtin "sorted") := by decide +kernel
/-- a constant of the module stands for a datum -/
def Gb (K : PySem.W.Frag) (mg : Str → Option Value) (x : Str) (d : PyData) : Prop := ∃ u v, mg x = some u ∧ RelV v u ∧ ∀ G, Dq K G v d
section
variable {X : Cx} {W : WX} {e a b c elt tg iter : Expr} {es rest ifs : List Expr} {ma mb mc me : MD} {ml ml' mi : ML} {mt mu : MB} {g : MG} {ix : List Nat} {scope : Scope} {own : List (Str × Nat)} {pos p pos' p2 p3 : Pos} {x : Str} {k : Nat}
theorem de_gl {d : PyData} (h : Gb X.K X.mg x d) (hg : Gl X x := by rfl) (hdb : (x == ("__debug__" : Str)) = false := by decide) : DE X W (.Name x pos) (cG d) := by
  obtain ⟨u, v, hm, r, hd⟩ := h
  exact de_glob hd hm r hg hdb
theorem rlen : CallR X (.builtin "len") (fun xs H Q => (∃ p ys, xs = [.ref p] ∧ (SqL X.K H p ys ∨ SqT X.K H p ys) ∧ Q (.int ys.length) H) ∨ ∃ z, xs = [.str z] ∧ z.length ≤ sizeLine ∧ Q (.int z.length) H) := call_len_seq.or call_len_str
theorem rmax (hc : X.calm = true := by rfl) : CallR X (.builtin "max") (fun xs H Q => (∃ i j, xs = [.int i, .int j] ∧ Q (.int (if j > i then j else i)) H) ∨ rMax X.K xs H Q) := (call_max2 hc).or (cr_max hc)
theorem rmin (hc : X.calm = true := by rfl) : CallR X (.builtin "min") (fun xs H Q => (∃ i j, xs = [.int i, .int j] ∧ Q (.int (if j < i then j else i)) H) ∨ rMin X.K xs H Q) := (call_min2 hc).or (cr_min hc)
theorem blkB (N : List Str) (sc : Scope) {scope : Scope} {own : List (Str × Nat)} (h : blkC N sc scope own = true) : blkC N sc scope own = true := h

/-! ### xs[::-1] -/
def revO : PyData → Out (List PyData)
  | .list ds => .ok ds.reverse
  | _ => .no
def revF (ma : MD) : ML := fun ρ => ma ρ >>= revO
theorem dpAll_rev {K : PySem.W.Frag} {G : Hp} : ∀ {vs : List V} {ds : List PyData}, DqAll K G vs ds → DqAll K G vs.reverse ds.reverse
  | _, _, .nil => .nil
  | _, _, .cons h t => by
    rw [List.reverse_cons, List.reverse_cons]
    exact dpAll_append (dpAll_rev t) (.cons h .nil)
theorem df_rev {p1 : Pos} (ha : DE X W a ma) : DF X W (.Subscript a (.Slice none none (some (.UnaryOp .USub (.Constant (.int 1) k p1) p2)) p3) pos) (revF ma) :=
  pe_imp (pe_revL ha) fun σ H Q ⟨H0, G0, G, ρ, r, h⟩ => ⟨H0, G0, G, ρ, r, (PostO.bind h).mono fun d G1 H1 _ x1 h1 v hv => by
    cases d with
    | list ds =>
      obtain ⟨a1, v1, rfl, r1, d1⟩ := dp_list hv
      exact ⟨a1, v1, rfl, .inl (rd_mono x1.gh r1), fun p hp => post_newF x1.gh ((show PostO X.mg W σ G1 H1 (rF X.K H Q) (.ok ds.reverse) from h1).mono fun _ _ _ _ _ q => rF_mono x1.h q) (dpAll_rev d1) hp⟩
    | _ => exact False.elim h1⟩

/-! ### a set of ints, made by a comprehension, sorted at once -/
theorem setAdd {pins : List (Addr × Obj)} {σ : L2.St} {H : Hp} {s : Shared} {E : Value → Shared → Prop} {D : Addr} {S : Int → Bool} {n : Nat} {y : Int} {tk : Tok} {Q : Value → Shared → Prop} (I : Inv X pins σ H s) (hD : H D = some (SetO X.w D S n)) (room : n + 1 < scanBound)
    (h : ∀ s', Inv X pins σ (upd H D (SetO X.w D (fun j => S j || decide (j = y)) (if S y = true then n else n + 1))) s' → Q .none s') : wpAny (model X.prog X.w) X.A (call (.builtin "set.add") [.ref D, .int y tk]) Q E s := by
  refine setR_add (setO_get I hD) room fun h' sb new => h _ ?_
  obtain ⟨o, _, _, _, ho, _⟩ := id new
  exact I.write (e := D) (t' := s.toks + 1) (by rw [hD]; trivial) (.inl rfl) (fun b u hb hu => (sb.2 b hb).trans hu) ⟨o, ho⟩ (setO_new new)
/-- the reading of {elt for tg in iter if ..}, elt an int -/
def tSi (w : World) (wi : TI) (g : TG) (tt : TT) (te : TE) (vs : List Nat) : TE := fun σ H Q => wi σ H fun J H1 => ∀ D, H1 D = none → ∃ W : Nat → Nat → Hp → Prop, (∃ m, W 0 m (upd H1 D (SetO w D (fun _ => false) 0))) ∧ ∀ i m H, W i m H →
  (J.stop i H ∧ Q (.ref D) H) ∨ (J.go i H ∧ ∃ Nx : Hp → Prop, (∀ H', Nx H' → ∃ m', m' < m ∧ W (i + 1) m' H') ∧ ∀ x H', J.yld i H x H' → g x (wipe σ vs) H' fun σ2 H2 => wipe σ2 vs = wipe σ vs ∧ tt σ2 H2 fun b H3 =>
    if b = true then te σ2 H3 fun y H4 => ∃ (c : Int) (S : Int → Bool) (n : Nat), y = .int c ∧ H4 D = some (SetO w D S n) ∧ n + 1 < scanBound ∧ Nx (upd H4 D (SetO w D (fun j => S j || decide (j = c)) (if S c = true then n else n + 1))) else Nx H3)
theorem pe_si {wi : TI} {tg' : TG} {tt : TT} {te : TE} (hc : X.calm = true) (hN : X.N.Nodup) (hi : PI X tg iter wi) (ok : BlkOk X.N X.env.scope scope own)
    (hg : ∀ s H C cl fp, PG (BX X scope s H C cl fp) tg tg') (ht : ∀ s H C cl fp, PTs (BX X scope s H C cl fp) ifs tt) (he : ∀ s H C cl fp, PE (BX X scope s H C cl fp) elt te) (hs : ∀ x, foldedSetIterable iter X.env x = pure x) :
    PE X (.SetComp elt [⟨tg, iter, ifs, 0⟩] scope pos) (tSi X.w wi tg' tt te (own.map (·.2))) := by
  refine ⟨fun pins s σ H Q I h => ?_⟩
  rw [eval_SetComp]
  have hfree : ∀ y ∈ scope.names, y.2 = .free → ∃ c, X.env.cells.lookup y.1 = some c := fun y hy z => (ok.free y hy z).elim (fun k => I.ok.has _ (.inl k)) fun k => I.ok.has _ (.inr k)
  refine wpAny_comprehension_free (use := none) rfl hs (closure_ok hfree) ok.kind (fun y hy z => by rw [ok.uniq y hy, z]) (thn (hi.run pins s σ H _ I h) fun xv s1 hx => thn hx fun itv s2 h2 => ?_)
  obtain ⟨it, fp, tn, J, H2, rfl, I2, T, st2, f2, q⟩ := h2
  refine newSet_ok (newEnv_comp ?_)
  have hDn : H2 s2.heap.objs.size = none := I2.hok.fresh (Nat.le_refl _)
  obtain ⟨Wv, ⟨m0, w0⟩, turn⟩ := q _ hDn
  generalize eD : s2.heap.objs.size = D at hDn w0 turn ⊢
  generalize es3 : ({ s2 with heap := s2.heap.push { cls := .type "set", dict := none, data := .set #[] 0 (.fresh 0 0 (!X.w.params.followText "set-order")) } } : Shared) = s3
  have hh3 : s3.heap = s2.heap.push { cls := .type "set", dict := none, data := .set #[] 0 (.fresh 0 0 (!X.w.params.followText "set-order")) } := by rw [← es3]
  have I3 : Inv X pins σ (upd H2 D (SetO X.w D (fun _ => false) 0)) s3 := by
    rw [← es3]
    refine I2.laid (t' := s2.toks) (fun b o z => Heap.get?_push_of_some _ z) (Nat.le_of_eq eD) ?_
    rw [← eD]
    exact setO_new (setR_fresh X.w)
  have old : ∀ b ∈ fp, b < s2.heap.objs.size := fun b hb => by
    obtain ⟨o, z, _⟩ := T.obj _ _ st2 b hb
    exact Heap.lt_size z
  have f3 : ∀ b ∈ fp, FpOk X pins (upd H2 D (SetO X.w D (fun _ => false) 0)) b ∧ b < s3.heap.objs.size := fun b hb => by
    have hlt := old b hb
    refine ⟨⟨?_, (f2 b hb).2⟩, by rw [hh3, Heap.size_push]; exact Nat.lt_succ_of_lt hlt⟩
    rw [upd_ne (by rw [← eD]; exact Nat.ne_of_lt hlt)]
    exact (f2 b hb).1
  have st3 : tn 0 s3.heap := T.keep _ _ _ st2 fun b _ o z => by rw [hh3]; exact Heap.get?_push_of_some _ z
  generalize eH3 : upd H2 D (SetO X.w D (fun _ => false) 0) = H3 at I3 f3 w0
  have I4 := block_start I3 ok hN f3
  show codeAny _ _ (.compStart (.SetComp elt [⟨tg, iter, ifs, 0⟩] scope pos) 0 (.ref it) (.ref D) (compEnvC scope (cellsFrom (s3.heap.objs.size + 1) scope.names (cloFrom X.env.cells scope.names [])) s3.heap.objs.size X.env)) (compPost (model X.prog X.w) X.A X.xe none (EP X pins σ Q) (.ref D) s3.heap.objs.size) { s3 with heap := pushCells (s3.heap.push { cls := .type "dict", data := .dict #[] }) scope.names }
  generalize ecl : cellsFrom (s3.heap.objs.size + 1) scope.names (cloFrom X.env.cells scope.names []) = cl at I4 ⊢
  have pg : PG (X.blk s3 H3 scope (compEnvC scope cl s3.heap.objs.size X.env) fp) tg tg' := hg s3 H3 s3.heap.objs.size cl fp
  have pt : PTs (X.blk s3 H3 scope (compEnvC scope cl s3.heap.objs.size X.env) fp) ifs tt := ht s3 H3 s3.heap.objs.size cl fp
  have pe : PE (X.blk s3 H3 scope (compEnvC scope cl s3.heap.objs.size X.env) fp) elt te := he s3 H3 s3.heap.objs.size cl fp
  generalize ece : compEnvC scope cl s3.heap.objs.size X.env = ce at I4 pg pt pe ⊢
  have cL : ce.locals = s3.heap.objs.size := by subst ece; rfl
  generalize es4 : ({ s3 with heap := pushCells (s3.heap.push { cls := .type "dict", data := .dict #[] }) scope.names } : Shared) = s4 at I4 ⊢
  have st4 : tn 0 s4.heap := T.keep _ _ _ st3 fun b _ o z => by rw [← es4]; exact pushCells_keeps _ _ _ _ (Heap.get?_push_of_some _ z)
  have fpo : ∀ {σ' : L2.St} {H' : Hp} {s' : Shared}, Inv (X.blk s3 H3 scope ce fp) [] σ' H' s' → (∀ b ∈ fp, H' b = none) → ∀ b ∈ fp, FpOk (X.blk s3 H3 scope ce fp) [] H' b := fun {σ' H' s'} J' hn b hb =>
    ⟨hn b hb, (J'.ok.exf b hb).1, J'.ok.exfs b hb, .inl hb, fun y c z => (J'.ok.exf b hb).2 y c z, fun p' hp' => by simp at hp'⟩
  have loop : codeAny (model X.prog X.w) X.A (.compLoop (.SetComp elt [⟨tg, iter, ifs, 0⟩] scope pos) 0 (.ref it) (.ref D) ce) (compPost (model X.prog X.w) X.A X.xe none (EP X pins σ Q) (.ref D) s3.heap.objs.size) s4 := by
    refine compLoopS_any (fun n s' => ∃ i H', Inv (X.blk s3 H3 scope ce fp) [] (wipe σ (own.map (·.2))) H' s' ∧ tn i s'.heap ∧ (∀ b ∈ fp, H' b = none) ∧ Wv i n H') ?_ m0 ⟨0, H3, I4, st4, fun b hb => (f3 b hb).1.1, w0⟩
    rintro n s5 ⟨i, H5, I5, st5, n5, w5⟩
    rcases turn i n H5 w5 with ⟨stop, qq⟩ | ⟨go, Nx, hNx, step⟩
    · refine thnF (T.done (X.blk s3 H3 scope ce fp) rfl rfl rfl hc i [] s5 _ H5 (fun _ _ => False) I5 (fpo I5 n5) st5 stop) fun r s6 ⟨hr, I6⟩ => ?_
      subst hr
      have I7 : Inv X pins σ H5 s6 := I3.call' (ch := fp) I6.os I6.base I6.hok I6.bare fun b hb => ⟨(f3 b hb).1.2.2.2.1, (f3 b hb).1.2.1, (f3 b hb).1.2.2.2.2.1, (f3 b hb).1.2.2.2.2.2⟩
      have nC : H5 s3.heap.objs.size = none := by rw [← cL]; exact I6.free
      obtain ⟨m, hn, _⟩ := I6.loc
      have hn' : s6.heap.Ns s3.heap.objs.size m := by rw [← cL]; exact hn
      obtain ⟨e0, e1, e2, e3, e4, e5⟩ := I3.fpOk (H' := H5) (Nat.le_refl _) nC
      exact ⟨m, hn', fun h'' sb => ⟨.ref D, H5, I7.turned (t' := s6.toks) (fun b o hb z => (sb.2 b hb).trans z) e0 e1 e3 e4 e5, rfl, qq⟩⟩
    · refine thnF (T.item (X.blk s3 H3 scope ce fp) rfl rfl rfl hc i [] s5 _ H5 (fun _ _ => False) I5 (fpo I5 n5) st5 go) fun r s6 ⟨u, hr, h6⟩ => ?_
      subst hr
      refine thnF h6 fun _ s7 ⟨y, H7, I7, r7, y7, st7, n7⟩ => ?_
      have I7' := I7.pinned (fpo I7 n7) (T.obj _ _ st7)
      refine thnF (pg.run _ s7 _ H7 y u _ I7' r7 (step y H7 y7)) fun _ s8 ⟨σ8, H8, I8, hw8, q8⟩ => ?_
      refine thnF (pt.run _ s8 σ8 H8 _ I8 q8) fun b s9 ⟨H9, I9, q9⟩ => ?_
      have fin : ∀ {s' : Shared} {H' : Hp}, Inv (X.blk s3 H3 scope ce fp) ([] ++ pinsAt fp s7.heap) σ8 H' s' → Nx H' → ∃ m, m < n ∧ ∃ i H', Inv (X.blk s3 H3 scope ce fp) [] (wipe σ (own.map (·.2))) H' s' ∧ tn i s'.heap ∧ (∀ b ∈ fp, H' b = none) ∧ Wv i m H' := fun {s' H'} J' nx => by
        obtain ⟨m', hm, w'⟩ := hNx H' nx
        have pin' : ∀ b ∈ fp, ∀ o, s7.heap.get? b = some o → s'.heap.get? b = some o ∧ H' b = none := fun b hb o z =>
          ⟨(J'.pin (b, o) (List.mem_append_right _ (List.mem_append_right _ (mem_pinsAt hb z)))).1, (J'.pin (b, o) (List.mem_append_right _ (List.mem_append_right _ (mem_pinsAt hb z)))).2.1⟩
        refine ⟨m', hm, i + 1, H', (J'.unpinned (pins := [])).weak (by rw [← hw8, wipe_length]) (fun j v z => ?_), T.keep _ _ _ st7 fun b hb o z => (pin' b hb o z).1, fun b hb => ?_, w'⟩
        · rw [← hw8] at z
          exact (wipe_some z).1
        · obtain ⟨o, z, _⟩ := T.obj _ _ st7 b hb
          exact (pin' b hb o z).2
      cases b with
      | false =>
        simp only [Bool.false_eq_true, if_false] at q9 ⊢
        exact fin I9 q9
      | true =>
        simp only [if_true] at q9 ⊢
        refine thnF (pe.run _ s9 σ8 H9 _ I9 q9) fun z s10 ⟨yv, H10, I10, r10, c0, S0, n0, ey, hD10, hz10, nx⟩ => ?_
        subst ey
        obtain ⟨tk, rfl⟩ := r10
        exact setAdd (X := X.blk s3 H3 scope ce fp) I10 hD10 hz10 fun s11 I11 => fin I11 nx
  exact codeAny_compStart_set loop (T.self X.A 0 _ _ _ st4 loop)
/-! the sorted members -/
def insU (x : Int) : List Int → List Int
  | [] => [x]
  | y :: r => if x < y then x :: y :: r else if x = y then y :: r else y :: insU x r
def sortU : List Int → List Int
  | [] => []
  | x :: r => insU x (sortU r)
theorem mem_insU (x k : Int) : ∀ l : List Int, k ∈ insU x l ↔ k = x ∨ k ∈ l
  | [] => by simp [insU]
  | y :: r => by
    unfold insU
    split
    · simp
    · split
      · rename_i h; subst h; simp
      · rw [List.mem_cons, mem_insU x k r, List.mem_cons]
        constructor
        · rintro (h | h | h)
          · exact .inr (.inl h)
          · exact .inl h
          · exact .inr (.inr h)
        · rintro (h | h | h)
          · exact .inr (.inl h)
          · exact .inl h
          · exact .inr (.inr h)
theorem mem_sortU (k : Int) : ∀ l : List Int, k ∈ sortU l ↔ k ∈ l
  | [] => by simp [sortU]
  | x :: r => by
    show k ∈ insU x (sortU r) ↔ _
    rw [mem_insU, mem_sortU k r, List.mem_cons]
theorem up_insU (x : Int) : ∀ l : List Int, l.Pairwise (· < ·) → (insU x l).Pairwise (· < ·)
  | [], _ => by simp [insU]
  | y :: r, h => by
    obtain ⟨h1, h2⟩ := List.pairwise_cons.mp h
    unfold insU
    split
    · rename_i hx
      refine List.pairwise_cons.mpr ⟨fun z hz => ?_, h⟩
      rcases List.mem_cons.mp hz with rfl | hz
      · exact hx
      · exact Int.lt_trans hx (h1 z hz)
    · split
      · exact h
      · rename_i hx hy
        refine List.pairwise_cons.mpr ⟨fun z hz => ?_, up_insU x r h2⟩
        rcases (mem_insU x z r).mp hz with rfl | hz
        · omega
        · exact h1 z hz
theorem up_sortU : ∀ l : List Int, (sortU l).Pairwise (· < ·)
  | [] => List.Pairwise.nil
  | x :: r => up_insU x _ (up_sortU r)
theorem up_one : ∀ {l m : List Int}, l.Pairwise (· < ·) → m.Pairwise (· < ·) → (∀ k, k ∈ l ↔ k ∈ m) → l = m
  | [], [], _, _, _ => rfl
  | [], y :: m, _, _, h => absurd ((h y).mpr List.mem_cons_self) (by simp)
  | x :: l, [], _, _, h => absurd ((h x).mp List.mem_cons_self) (by simp)
  | x :: l, y :: m, hl, hm, h => by
    obtain ⟨l1, l2⟩ := List.pairwise_cons.mp hl
    obtain ⟨m1, m2⟩ := List.pairwise_cons.mp hm
    have exy : x = y := by
      rcases List.mem_cons.mp ((h x).mp List.mem_cons_self) with e | e
      · exact e
      · rcases List.mem_cons.mp ((h y).mpr List.mem_cons_self) with e2 | e2
        · exact e2.symm
        · have a := m1 x e
          have b := l1 y e2
          omega
    subst exy
    have : l = m := up_one l2 m2 fun k => by
      constructor
      · intro hk
        rcases List.mem_cons.mp ((h k).mp (List.mem_cons_of_mem _ hk)) with e | e
        · have := l1 k hk; omega
        · exact e
      · intro hk
        rcases List.mem_cons.mp ((h k).mpr (List.mem_cons_of_mem _ hk)) with e | e
        · have := m1 k hk; omega
        · exact e
    rw [this]
def scO (ys : List PyData) : Out (List PyData) := match intsOf ys with
  | some ns => .ok ((sortU ns).map .int)
  | none => .no
def scF (mi : ML) (g : MG) (mt : MB) (me : MD) (vs : List Nat) : ML := fun ρ => mi ρ >>= fun ds => if ds.length < 64 then lcM (stpF g mt me (wipeR ρ vs)) ds >>= scO else .no
theorem sc_reading {vs : List Nat} (hix : ∀ j ∈ ix, j ∈ vs) {σ : L2.St} {H : Hp} {Q : VK} (h : tF X.K X.mg W (scF mi g mt me vs) σ H Q) :
    tSi X.w (tI X.K X.mg W mi) (tG X.K g ix) (tT X.K X.mg W0 mt) (tD X.K X.mg W0 me) vs σ H fun x H1 => rSortedSet X.w [x] H1 Q := by
  obtain ⟨H0, G0, G, ρ, r, h⟩ := h
  refine ⟨H0, G0, G, ρ, r, (PostO.bind h).mono fun ds G1 H1 _ x1 h1 J hJ D hD => ?_⟩
  have hz : ds.length < 64 := by
    by_cases hz : ds.length < 64
    · exact hz
    · rw [if_neg hz] at h1; exact h1.elim
  rw [if_pos hz] at h1
  obtain ⟨all, hall⟩ : ∃ all, lcM (stpF g mt me (wipeR ρ vs)) ds = .ok all := by
    cases q : lcM (stpF g mt me (wipeR ρ vs)) ds with
    | no => rw [q] at h1; exact h1.elim
    | ex c => exact absurd q lcM_noex
    | ok all => exact ⟨all, rfl⟩
  rw [hall] at h1
  have h1' : PostO X.mg W σ G1 H1 (rF X.K H Q) (scO all) := h1
  unfold scO at h1'
  cases qn : intsOf all with
  | none => rw [qn] at h1'; exact h1'.elim
  | some ns =>
    rw [qn] at h1'
    have eall := intsOf_eq qn
    have r1 := r.step x1
    have g1D : G1 D = none := x1.gh.free hD
    have sb : (64 : Nat) + 1 < scanBound := by decide
    refine ⟨fun i m H2 => ∃ G2 S n done t, i ≤ ds.length ∧ m = ds.length - i ∧ Ext G1 H1 G2 H2 ∧ H2 D = some (SetO X.w D S n) ∧ G2 D = none ∧ (∀ k : Int, S k = true ↔ k ∈ done) ∧ n ≤ i ∧ lcM (stpF g mt me (wipeR ρ vs)) (ds.drop i) = .ok t ∧ all = done.map PyData.int ++ t,
      ⟨ds.length, G1, _, 0, [], all, Nat.zero_le _, rfl, Ext.hid x1.gh hD, upd_same, g1D, fun k => by simp, Nat.le_refl _, hall, rfl⟩, ?_⟩
    rintro i m H2 ⟨G2, S, n, done, t, hi, rfl, x2, h2D, g2D, hS, hn, ht, hal⟩
    by_cases hlt : i < ds.length
    · refine .inr ⟨hJ.go i H2 (x2.g.trans x2.gh) hlt, fun H' => ∃ G2 S n done t, i + 1 ≤ ds.length ∧ Ext G1 H1 G2 H' ∧ H' D = some (SetO X.w D S n) ∧ G2 D = none ∧ (∀ k : Int, S k = true ↔ k ∈ done) ∧ n ≤ i + 1 ∧ lcM (stpF g mt me (wipeR ρ vs)) (ds.drop (i + 1)) = .ok t ∧ all = done.map PyData.int ++ t,
        fun H' ⟨G3, S3, n3, d3, t3, k1, k2, k3⟩ => ⟨ds.length - (i + 1), by omega, G3, S3, n3, d3, t3, k1, rfl, k2, k3⟩, fun x H' y => ?_⟩
      obtain ⟨d, G3, hd, x3, dx⟩ := hJ.yld i H2 x H' G2 x2.g x2.gh y hlt
      have ed : ds.drop i = d :: ds.drop (i + 1) := by
        rw [List.getElem?_eq_getElem hlt] at hd
        cases hd
        exact List.drop_eq_getElem_cons hlt
      rw [ed] at ht
      obtain ⟨o, t', hf, ht', eo⟩ := lcM_cons ht
      obtain ⟨ρ1, hg1, hcase⟩ := stpF_ok hf
      have rr := ((r1.step x2).step x3)
      refine ⟨H0, G0, G3, wipeR ρ vs, d, ρ1, wipe_rel rr vs, dx, hg1, fun σ2 r2 b2 => ⟨(wipe_but b2 hix).trans (wipe_wipe σ vs), H0, G0, G3, ρ1, r2, ?_⟩⟩
      have g3D : G3 D = none := x3.fr D g2D (by rw [h2D]; simp)
      have h3D : H' D = some (SetO X.w D S n) := x3.h _ _ h2D
      rcases hcase with ⟨q1, y1, q2, rfl⟩ | ⟨q1, rfl⟩
      · rw [q1]
        intro G4 H4 x4
        simp only [rB, if_true]
        refine ⟨H0, G0, G4, ρ1, r2.step x4, ?_⟩
        rw [q2]
        intro G5 H5 x5 v hv
        have g4D : G4 D = none := x4.fr D g3D (by rw [h3D]; simp)
        have h4D : H4 D = some (SetO X.w D S n) := x4.h _ _ h3D
        have g5D : G5 D = none := x5.fr D g4D (by rw [h4D]; simp)
        have h5D : H5 D = some (SetO X.w D S n) := x5.h _ _ h4D
        obtain ⟨c0, rfl⟩ : ∃ c0, y1 = .int c0 := by
          have hm : y1 ∈ ns.map PyData.int := by
            rw [← eall, hal, eo]
            simp [oCons]
          obtain ⟨c0, _, e0⟩ := List.mem_map.mp hm
          exact ⟨c0, e0.symm⟩
        obtain rfl := dp_int hv
        refine ⟨c0, S, n, rfl, h5D, by omega, G5, _, _, done ++ [c0], t', hlt, ?_, upd_same, g5D, fun k => ?_, ?_, ht', ?_⟩
        · have x6 := ((x2.trans x3).trans x4).trans x5
          refine ⟨x6.g, fun b o e => ?_, fun b o e => ?_, x6.fr⟩
          · rw [upd_ne (ne_of_none e hD)]; exact x6.h b o e
          · rw [upd_ne (ne_of_none e g5D)]; exact x6.gh b o e
        · show (S k || decide (k = c0)) = true ↔ _
          rw [Bool.or_eq_true, hS k, decide_eq_true_eq, List.mem_append]
          simp
        · split <;> omega
        · rw [hal, eo, List.map_append]; simp [oCons]
      · rw [q1]
        intro G4 H4 x4
        simp only [rB, Bool.false_eq_true, if_false]
        exact ⟨G4, S, n, done, t', hlt, (x2.trans x3).trans x4, x4.h _ _ h3D, x4.fr D g3D (by rw [h3D]; simp), hS, by omega, ht', by rw [hal, eo]; rfl⟩
    · have e : i = ds.length := by omega
      subst e
      refine .inl ⟨hJ.stop _ H2 (x2.g.trans x2.gh) (Nat.le_refl _), ?_⟩
      have et : t = [] := by
        rw [List.drop_length] at ht
        cases ht
        rfl
      rw [et, List.append_nil, eall] at hal
      have edone : ns = done := by
        have : intsOf (ns.map .int) = intsOf (done.map .int) := by rw [hal]
        rw [intsOf_map, intsOf_map] at this
        exact Option.some.inj this
      subst edone
      refine ⟨D, S, n, rfl, h2D, by omega, fun ns' p hup hmem hlen hp => ?_⟩
      have en : ns' = sortU ns := up_one hup (up_sortU ns) fun k => by rw [hmem k, hS k, mem_sortU]
      subst en
      exact post_newF (W := W) (σ := σ) x2.gh ((PostO.step x2 h1').mono fun _ _ _ _ _ q => rF_mono (x1.h.trans x2.h) q) (dpAll_ints _) hp
theorem de_sortedSc {cpos : Pos} (hm : X.mg "sorted" = none) (hN : X.N.Nodup) (hi : DI X W tg iter mi) (ok : blkC X.N X.env.scope scope own = true)
    (hg : ∀ s H C cl fp, DG (BX X scope s H C cl fp) tg g ix) (ht : ∀ s H C cl fp, PTs (BX X scope s H C cl fp) ifs (tT X.K X.mg W0 mt))
    (he : ∀ s H C cl fp, DE (BX X scope s H C cl fp) W0 elt me) (hix : ∀ j ∈ ix, j ∈ own.map (·.2) := by decide) (hgl : Gl X "sorted" := by rfl) (hs : ∀ x, foldedSetIterable iter X.env x = pure x := by intro _; rfl) (hc : X.calm = true := by rfl)
    (hst : starEach [(.SetComp elt [⟨tg, iter, ifs, 0⟩] scope pos)] X.env = (false, eval (.SetComp elt [⟨tg, iter, ifs, 0⟩] scope pos) X.env) :: starEach [] X.env := by rfl) (hpl : (backTo cpos (starEach [] X.env)).any (·.1) = false := by rfl) :
    DE X W (.Call (.Name "sorted" p) [.SetComp elt [⟨tg, iter, ifs, 0⟩] scope pos] [] cpos) (asL (scF mi g mt me (own.map (·.2)))) := by
  refine de_fr (pe_imp (pe_callB (cr_sortedSet hc) hgl hm bt_sorted (pa_cons (pe_si (tg' := tG X.K g ix) (tt := tT X.K X.mg W0 mt) (te := tD X.K X.mg W0 me) hc hN hi (blkOk_by ok) hg ht he hs) pa_nil hst) (by decide) (by decide) hst hpl) fun σ H Q h => ?_)
  exact sc_reading hix h
end
end
end DL
/-! DL11: the mirrors' words as rewriting rules. -/
namespace DL
noncomputable section
open PySem PySem.Spec PyProof.Rows L2
section
variable {ma mb mc : MD} {ml ml' mi : ML} {mt mu : MB} {m1' m2' : MS} {g : MG} {gs : MGs} {ρ : Ro} {d e : PyData} {i : Nat}
@[simp] theorem m2_eq (f : PyData → PyData → Out PyData) : m2 f ma mb ρ = (ma ρ >>= fun d => mb ρ >>= fun e => f d e) := rfl
@[simp] theorem m1_eq (f : PyData → Out PyData) : m1 f ma ρ = (ma ρ >>= f) := rfl
@[simp] theorem mB_eq : mB ma ρ = (ma ρ >>= asB) := rfl
@[simp] theorem asB_bool (b : Bool) : asB (.bool b) = .ok b := rfl
@[simp] theorem tru_eq : tru ma ρ = (ma ρ >>= truD) := rfl
@[simp] theorem truD_bool (b : Bool) : truD (.bool b) = .ok b := rfl
@[simp] theorem truD_int (b : Int) : truD (.int b) = .ok (b != 0) := rfl
@[simp] theorem truD_list (ds : List PyData) : truD (.list ds) = .ok (!ds.isEmpty) := rfl
@[simp] theorem truD_tuple (ds : List PyData) : truD (.tuple ds) = .ok (!ds.isEmpty) := rfl
@[simp] theorem truD_none : truD .none = .ok false := rfl
@[simp] theorem andB_eq : andB mt mu ρ = (mt ρ >>= fun b => if b then mu ρ else .ok false) := rfl
@[simp] theorem orB_eq : orB mt mu ρ = (mt ρ >>= fun b => if b then .ok true else mu ρ) := rfl
@[simp] theorem notB_eq : notB mt ρ = (mt ρ >>= fun b => .ok (!b)) := rfl
@[simp] theorem andD_eq : andD ma mb ρ = (ma ρ >>= fun d => asB d >>= fun t => if t then mb ρ else .ok (.bool false)) := rfl
@[simp] theorem orD_eq : orD ma mb ρ = (ma ρ >>= fun d => asB d >>= fun t => if t then .ok (.bool true) else mb ρ) := rfl
@[simp] theorem notD_eq : notD ma ρ = (ma ρ >>= fun d => asB d >>= fun t => .ok (.bool (!t))) := rfl
@[simp] theorem ifD_eq {α : Type} (a b : Ro → Out α) : ifD mt a b ρ = (mt ρ >>= fun t => if t then a ρ else b ρ) := rfl
@[simp] theorem chD_eq (f f' : PyData → PyData → Out PyData) : chD f f' ma mb mc ρ = (ma ρ >>= fun x => mb ρ >>= fun y => f x y >>= fun z => asB z >>= fun t => if t then mc ρ >>= fun u => f' y u else .ok (.bool false)) := rfl
@[simp] theorem cI_eq (i : Int) : cI i ρ = .ok (.int i) := rfl
@[simp] theorem cB_eq (i : Bool) : cB i ρ = .ok (.bool i) := rfl
@[simp] theorem cS_eq (i : Str) : cS i ρ = .ok (.str i) := rfl
@[simp] theorem cN_eq : cN ρ = .ok .none := rfl
@[simp] theorem nilA_eq : nilA ρ = .ok [] := rfl
@[simp] theorem consA_eq : consA ma ml ρ = (ma ρ >>= fun d => ml ρ >>= fun ds => .ok (d :: ds)) := rfl
@[simp] theorem tupD_eq : tupD ml ρ = (ml ρ >>= fun ds => if ds.length ≤ sizeLine then .ok (.tuple ds) else .no) := rfl
@[simp] theorem lstF_eq : lstF ml ρ = (ml ρ >>= fun ds => if ds.length ≤ sizeLine then .ok ds else .no) := rfl
@[simp] theorem asL_eq : asL ml ρ = (ml ρ >>= fun ds => .ok (.list ds)) := rfl
@[simp] theorem cD_eq (f : List PyData → Out PyData) : cD f ml ρ = (ml ρ >>= f) := rfl
@[simp] theorem cF_eq (f : List PyData → Out (List PyData)) : cF f ml ρ = (ml ρ >>= f) := rfl
@[simp] theorem m2F_eq (f : PyData → PyData → Out (List PyData)) : m2F f ma mb ρ = (ma ρ >>= fun d => mb ρ >>= fun e => f d e) := rfl
@[simp] theorem revF_eq : revF ma ρ = (ma ρ >>= revO) := rfl
@[simp] theorem revO_list (ds : List PyData) : revO (.list ds) = .ok ds.reverse := rfl
@[simp] theorem noP_eq : noP ρ = .ok none := rfl
@[simp] theorem someP_eq : someP ma ρ = (ma ρ >>= asI) := rfl
@[simp] theorem asI_int (i : Int) : asI (.int i) = .ok (some i) := rfl
@[simp] theorem m3S_eq {α : Type} (f : PyData → Option Int → Option Int → Out α) (p q : Ro → Out (Option Int)) : m3S f ma p q ρ = (ma ρ >>= fun d => p ρ >>= fun l => q ρ >>= fun u => f d l u) := rfl
@[simp] theorem seqM_eq : seqM ma ρ = (ma ρ >>= seqO) := rfl
@[simp] theorem seqO_list (ds : List PyData) : seqO (.list ds) = .ok ds := rfl
@[simp] theorem seqO_tuple (ds : List PyData) : seqO (.tuple ds) = .ok ds := rfl
@[simp] theorem seqO_str (z : Str) : seqO (.str z) = .ok (chars z) := rfl
@[simp] theorem borB_eq (is : List Nat) : borB is mt ρ = mt (frz is ρ) := rfl
@[simp] theorem borD_eq (is : List Nat) : borD is ma ρ = (ma (frz is ρ) >>= flatO) := rfl
@[simp] theorem borF_eq (is : List Nat) : borF is ml ρ = (ml (frz is ρ) >>= flatsO) := rfl
@[simp] theorem flatO_int (i : Int) : flatO (.int i) = .ok (.int i) := rfl
@[simp] theorem flatO_bool (i : Bool) : flatO (.bool i) = .ok (.bool i) := rfl
@[simp] theorem flatO_str (i : Str) : flatO (.str i) = .ok (.str i) := rfl
@[simp] theorem flatO_none : flatO .none = .ok .none := rfl
@[simp] theorem frz_nil : frz [] ρ = ρ := rfl
@[simp] theorem frz_cons (is : List Nat) : frz (i :: is) ρ = frz is (frz1 i ρ) := rfl
@[simp] theorem yesB_eq : yesB ρ = .ok true := rfl
/-! operators -/
@[simp] theorem addD_int (i j : Int) : addD (.int i) (.int j) = .ok (.int (i + j)) := rfl
@[simp] theorem addD_list (i j : List PyData) : addD (.list i) (.list j) = if i.length + j.length ≤ sizeLine then .ok (.list (i ++ j)) else .no := rfl
@[simp] theorem addD_str (i j : Str) : addD (.str i) (.str j) = if i.length + j.length ≤ sizeLine then .ok (.str (i ++ j)) else .no := rfl
@[simp] theorem catF_list (i j : List PyData) : catF (.list i) (.list j) = if i.length + j.length ≤ sizeLine then .ok (i ++ j) else .no := rfl
@[simp] theorem repF_list (i : List PyData) (j : Int) : repF (.list i) (.int j) = if repOk i.length j then .ok (List.replicate j.toNat i).flatten else .no := rfl
@[simp] theorem subD_int (i j : Int) : subD (.int i) (.int j) = .ok (.int (i - j)) := rfl
@[simp] theorem iaddD_int (i j : Int) : iaddD (.int i) (.int j) = .ok (.int (i + j)) := rfl
@[simp] theorem isubD_int (i j : Int) : isubD (.int i) (.int j) = .ok (.int (i - j)) := rfl
@[simp] theorem mulD_int (i j : Int) : mulD (.int i) (.int j) = if mulOk i j then .ok (.int (i * j)) else .no := rfl
@[simp] theorem fdivD_int (i j : Int) : fdivD (.int i) (.int j) = if divOk j then .ok (.int (i / j)) else if CDivN i j then .ok (.int (i.fdiv j)) else .no := rfl
@[simp] theorem modD_int (i j : Int) : modD (.int i) (.int j) = if 0 < j then .ok (.int (i % j)) else if j ≠ 0 then .ok (.int (i.fmod j)) else .no := rfl
@[simp] theorem powD_int (i j : Int) : powD (.int i) (.int j) = if CPow i j then .ok (.int (i ^ j.toNat)) else .no := rfl
@[simp] theorem negD_int (i : Int) : negD (.int i) = .ok (.int (-i)) := rfl
@[simp] theorem ltD_int (i j : Int) : ltD (.int i) (.int j) = .ok (.bool (decide (i < j))) := rfl
@[simp] theorem leD_int (i j : Int) : leD (.int i) (.int j) = .ok (.bool (decide (i ≤ j))) := rfl
@[simp] theorem gtD_int (i j : Int) : gtD (.int i) (.int j) = .ok (.bool (decide (j < i))) := rfl
@[simp] theorem geD_int (i j : Int) : geD (.int i) (.int j) = .ok (.bool (decide (j ≤ i))) := rfl
@[simp] theorem shaped_int (i : Int) : SeqAt.shaped (.int i) = true := by simp [SeqAt.shaped, PyData.canLay0, PyData.depth]
@[simp] theorem shaped_bool (i : Bool) : SeqAt.shaped (.bool i) = true := by simp [SeqAt.shaped, PyData.canLay0, PyData.depth]
@[simp] theorem shaped_none : SeqAt.shaped .none = true := by simp [SeqAt.shaped, PyData.canLay0, PyData.depth]
@[simp] theorem eqD_int (i j : Int) : eqD (.int i) (.int j) = .ok (.bool (decide (i = j))) := by
  unfold eqD
  simp [PyData.eqv]
  exact Bool.beq_eq_decide_eq i j
@[simp] theorem neD_int (i j : Int) : neD (.int i) (.int j) = .ok (.bool (!decide (i = j))) := by
  unfold neD
  simp [PyData.eqv]
  exact Bool.beq_eq_decide_eq i j
theorem eqD_self {d : PyData} (h : SeqAt.shaped d = true) : eqD d d = .ok (.bool true) := by
  unfold eqD
  rw [h, SeqAt.eqv_refl d (SeqAt.canLay_of_shaped h)]
  rfl
theorem neD_self {d : PyData} (h : SeqAt.shaped d = true) : neD d d = .ok (.bool false) := by
  unfold neD
  rw [h, SeqAt.eqv_refl d (SeqAt.canLay_of_shaped h)]
  rfl
/-- data of bounded depth, without dicts -/
structure ShK (k : Nat) (d : PyData) : Prop where
  lay : d.canLay0 = true
  dep : d.depth ≤ k
theorem ShK.mono {k j : Nat} {d : PyData} (h : ShK k d) (hk : k ≤ j) : ShK j d := ⟨h.lay, Nat.le_trans h.dep hk⟩
theorem shK_int (i : Int) : ShK 0 (.int i) := ⟨rfl, by simp [PyData.depth]⟩
theorem shK_bool (i : Bool) : ShK 0 (.bool i) := ⟨rfl, by simp [PyData.depth]⟩
theorem shK_none : ShK 0 .none := ⟨rfl, by simp [PyData.depth]⟩
theorem shK_all {k : Nat} : ∀ {ds : List PyData}, (∀ d ∈ ds, ShK k d) → PyData.canLayAll0 ds = true ∧ PyData.depthAll ds ≤ k
  | [], _ => ⟨rfl, by simp [PyData.depthAll]⟩
  | d :: r, h => by
    have h1 := h d List.mem_cons_self
    have h2 := shK_all fun e he => h e (List.mem_cons_of_mem _ he)
    have := h1.dep
    exact ⟨by simp [PyData.canLayAll0, h1.lay, h2.1], by simp only [PyData.depthAll]; omega⟩
theorem shK_list {k : Nat} {ds : List PyData} (h : ∀ d ∈ ds, ShK k d) : ShK (k + 1) (.list ds) := by
  have := shK_all h
  exact ⟨by simpa [PyData.canLay0] using this.1, by simp only [PyData.depth]; omega⟩
theorem shK_tuple {k : Nat} {ds : List PyData} (h : ∀ d ∈ ds, ShK k d) : ShK (k + 1) (.tuple ds) := by
  have := shK_all h
  exact ⟨by simpa [PyData.canLay0] using this.1, by simp only [PyData.depth]; omega⟩
theorem ShK.shaped {k : Nat} {d : PyData} (h : ShK k d) (hk : k ≤ 64) : SeqAt.shaped d = true := by
  unfold SeqAt.shaped
  rw [h.lay, decide_eq_true (Nat.le_trans h.dep hk)]
  rfl
@[simp] theorem isND_none : isND .none .none = .ok (.bool true) := rfl
@[simp] theorem isND_int (i : Int) : isND (.int i) .none = .ok (.bool false) := rfl
@[simp] theorem isND_bool (i : Bool) : isND (.bool i) .none = .ok (.bool false) := rfl
@[simp] theorem isND_str (i : Str) : isND (.str i) .none = .ok (.bool false) := rfl
@[simp] theorem isND_list (i : List PyData) : isND (.list i) .none = .ok (.bool false) := rfl
@[simp] theorem isND_tuple (i : List PyData) : isND (.tuple i) .none = .ok (.bool false) := rfl
@[simp] theorem notND_none : notND .none .none = .ok (.bool false) := rfl
@[simp] theorem notND_int (i : Int) : notND (.int i) .none = .ok (.bool true) := rfl
@[simp] theorem notND_tuple (i : List PyData) : notND (.tuple i) .none = .ok (.bool true) := rfl
@[simp] theorem notND_list (i : List PyData) : notND (.list i) .none = .ok (.bool true) := rfl
@[simp] theorem ixD_list (ds : List PyData) (i : Int) : ixD (.list ds) (.int i) = match atI ds i with | some d => .ok d | none => .no := rfl
@[simp] theorem ixD_tuple (ds : List PyData) (i : Int) : ixD (.tuple ds) (.int i) = match atI ds i with | some d => .ok d | none => .no := rfl
@[simp] theorem ixD_ro (ds : List PyData) (i : Int) : ixD (roD ds) (.int i) = match atI ds i with | some d => .ok d | none => .no := rfl
@[simp] theorem slD_list (ds : List PyData) (a b : Option Int) : slD (.list ds) a b = .ok (.list (cutD ds a b)) := rfl
@[simp] theorem slF_list (ds : List PyData) (a b : Option Int) : slF (.list ds) a b = .ok (cutD ds a b) := rfl
@[simp] theorem intD_int (i : Int) : intD [.int i] = .ok (.int i) := rfl
@[simp] theorem intD_bool (i : Bool) : intD [.bool i] = .ok (.int (if i then 1 else 0)) := rfl
@[simp] theorem lenD_list (ds : List PyData) : lenD [.list ds] = .ok (.int ds.length) := rfl
@[simp] theorem lenD_tuple (ds : List PyData) : lenD [.tuple ds] = .ok (.int ds.length) := rfl
@[simp] theorem lenD_ro (ds : List PyData) : lenD [roD ds] = .ok (.int ds.length) := rfl
@[simp] theorem absD_int (i : Int) : absD [.int i] = .ok (.int (if i < 0 then -i else i)) := rfl
@[simp] theorem maxD_two (i j : Int) : maxD [.int i, .int j] = .ok (.int (if j > i then j else i)) := rfl
@[simp] theorem minD_two (i j : Int) : minD [.int i, .int j] = .ok (.int (if j < i then j else i)) := rfl
theorem sumD_ints (ns : List Int) : sumD [.list (ns.map .int)] = .ok (.int ns.sum) := by
  show (match intsOf (ns.map .int) with | some ns => Out.ok (PyData.int ns.sum) | _ => .no) = _
  rw [intsOf_map]
@[simp] theorem gcdD_two (i j : Int) : gcdD [.int i, .int j] = .ok (.int ((Nat.gcd i.natAbs j.natAbs : Nat) : Int)) := rfl
@[simp] theorem listF_list (ds : List PyData) : listF [.list ds] = .ok ds := rfl
@[simp] theorem listF_tuple (ds : List PyData) : listF [.tuple ds] = .ok ds := rfl
@[simp] theorem tupleD_list (ds : List PyData) : tupleD [.list ds] = .ok (.tuple ds) := rfl
@[simp] theorem tupleD_tuple (ds : List PyData) : tupleD [.tuple ds] = .ok (.tuple ds) := rfl
theorem anyD_bools (ns : List Bool) : anyD [.list (ns.map .bool)] = .ok (.bool (ns.any fun z => z)) := by
  show (match boolsOf (ns.map .bool) with | some ns => Out.ok (PyData.bool (ns.any fun z => z)) | _ => .no) = _
  rw [boolsOf_map]
theorem allD_bools (ns : List Bool) : allD [.list (ns.map .bool)] = .ok (.bool (ns.all fun z => z)) := by
  show (match boolsOf (ns.map .bool) with | some ns => Out.ok (PyData.bool (ns.all fun z => z)) | _ => .no) = _
  rw [boolsOf_map]
theorem rng1_int (j : Int) : rng1 [.int j] = if rngOk1 j then .ok (rangeL 0 j.toNat) else .no := rfl
theorem rng2_int (i j : Int) : rng2 [.int i, .int j] = if rngOk i j then .ok (rangeL i (j - i).toNat) else .no := rfl
@[simp] theorem enumO_list (ds : List PyData) : enumO [.list ds] = .ok (enumL ds) := rfl
@[simp] theorem zipO_list (ds es : List PyData) : zipO [.list ds, .list es] = .ok (zipL ds es) := rfl
theorem sizes {n : Nat} (h : n ≤ 16777216) : n ≤ sizeLine := by rw [sizeLine_eq]; exact h
theorem two62 : (2 ^ 62 : Int) = 4611686018427387904 := by decide
theorem rngOk_1 {j : Int} (h1 : -4611686018427387904 ≤ j) (h2 : j < 4611686018427387904) : rngOk1 j := by
  unfold rngOk1
  rw [two62]
  exact ⟨h1, h2⟩
theorem rngOk_2 {i j : Int} (h1 : -4611686018427387904 ≤ i) (h2 : i < 4611686018427387904) (h3 : -4611686018427387904 ≤ j) (h4 : j < 4611686018427387904) : rngOk i j := by
  unfold rngOk
  rw [two62]
  exact ⟨h1, h2, h3, h4⟩
theorem rng1_nat {n : Nat} (h : n ≤ 1000000000) : rng1 [.int (n : Int)] = .ok (rangeL 0 n) := by
  rw [rng1_int, if_pos (rngOk_1 (by omega) (by omega)), Int.toNat_natCast]
@[simp] theorem rng1_lit (n : Nat) (h : n ≤ 1000000000) : rng1 [.int (no_index (OfNat.ofNat n) : Int)] = .ok (rangeL 0 n) := rng1_nat h
theorem rng2_nat {a n : Nat} (h : n ≤ 1000000000) (h2 : a ≤ 1000000000) : rng2 [.int (a : Int), .int (n : Int)] = .ok (rangeL a (n - a)) := by
  rw [rng2_int, if_pos (rngOk_2 (by omega) (by omega) (by omega) (by omega))]
  congr 2
  omega
theorem repOk_s {n : Nat} {j : Int} (h1 : -1000000000 ≤ j) (h2 : j ≤ 1000000000) (h3 : n * j.toNat ≤ 16777216) : repOk n j := by
  have h : (2 ^ 63 : Int) = 9223372036854775808 := by decide
  unfold repOk
  rw [h]
  exact ⟨by omega, by omega, sizes h3⟩
/-! statements -/
@[simp] theorem seqS_eq : seqS m1' m2' ρ = match m1' ρ with | .nx ρ' => m2' ρ' | f => f := rfl
@[simp] theorem thenF_ok {α : Type} (a : α) (k : α → Fl) : thenF (.ok a) ρ k = k a := rfl
@[simp] theorem ifS_eq : ifS mt m1' m2' ρ = thenF (mt ρ) ρ fun t => if t then m1' ρ else m2' ρ := rfl
@[simp] theorem setS_eq : setS i ma ρ = thenF (ma ρ) ρ fun d => .nx (ρ.set i (.sh d)) := rfl
@[simp] theorem setFS_eq : setFS i ml ρ = thenF (ml ρ) ρ fun ds => .nx (ρ.set i (.own (.lst ds))) := rfl
@[simp] theorem setLS_eq : setLS i ml ρ = thenF (ml ρ) ρ fun ds => .nx (ρ.set i (.sh (.list ds))) := rfl
@[simp] theorem retS_eq : retS ma ρ = thenF (ma ρ) ρ .rt := rfl
@[simp] theorem retFS_eq : retFS ml ρ = thenF (ml ρ) ρ .rtF := rfl
@[simp] theorem retN_eq : retN ρ = .rt .none := rfl
@[simp] theorem frzS_eq (is : List Nat) : frzS is m1' ρ = m1' (frz is ρ) := rfl
@[simp] theorem forS_eq (b : MS) : forS mi g b ρ = thenF (mi ρ) ρ fun ds => forD g b ds ρ := rfl
@[simp] theorem unpS_eq : unpS ma g ρ = thenF (ma ρ) ρ fun d => match g d ρ with | some ρ' => .nx ρ' | none => .no := rfl
@[simp] theorem parS_eq (j : Nat) : parS i j ml ρ = thenF (ml ρ) ρ fun ds => match ds with | [d, e] => .nx ((ρ.set i (.sh d)).set j (.sh e)) | _ => .no := rfl
@[simp] theorem gN_eq : gN i d ρ = some (ρ.set i (.sh d)) := rfl
@[simp] theorem gT_tuple (ds : List PyData) : gT gs (.tuple ds) ρ = gs ds ρ := rfl
@[simp] theorem gNilD_nil : gNilD [] ρ = some ρ := rfl
@[simp] theorem gConsD_cons (ds : List PyData) : gConsD g gs (d :: ds) ρ = (g d ρ).bind (gs ds) := rfl
@[simp] theorem forD_nil (b : MS) : forD g b [] ρ = .nx ρ := rfl
@[simp] theorem forD_cons (b : MS) (ds : List PyData) : forD g b (d :: ds) ρ = match g d ρ with
    | none => .no
    | some ρ1 => match b ρ1 with
      | .nx ρ' => forD g b ds ρ'
      | .ct ρ' => forD g b ds ρ'
      | .bk ρ' => .nx ρ'
      | f => f := rfl
theorem forD_nx {b : MS} {ds : List PyData} {ρ1 ρ2 : Ro} (h1 : g d ρ = some ρ1) (h2 : b ρ1 = .nx ρ2) : forD g b (d :: ds) ρ = forD g b ds ρ2 := by
  rw [forD_cons, h1]
  dsimp only
  rw [h2]
theorem forD_ct {b : MS} {ds : List PyData} {ρ1 ρ2 : Ro} (h1 : g d ρ = some ρ1) (h2 : b ρ1 = .ct ρ2) : forD g b (d :: ds) ρ = forD g b ds ρ2 := by
  rw [forD_cons, h1]
  dsimp only
  rw [h2]
theorem forD_bk {b : MS} {ds : List PyData} {ρ1 ρ2 : Ro} (h1 : g d ρ = some ρ1) (h2 : b ρ1 = .bk ρ2) : forD g b (d :: ds) ρ = .nx ρ2 := by
  rw [forD_cons, h1]
  dsimp only
  rw [h2]
theorem forD_rt {b : MS} {ds : List PyData} {ρ1 : Ro} {x : PyData} (h1 : g d ρ = some ρ1) (h2 : b ρ1 = .rt x) : forD g b (d :: ds) ρ = .rt x := by
  rw [forD_cons, h1]
  dsimp only
  rw [h2]
theorem seqS_nx {ρ1 : Ro} (h1 : m1' ρ = .nx ρ1) : seqS m1' m2' ρ = m2' ρ1 := by
  rw [seqS_eq, h1]
theorem seqS_rt {x : PyData} (h1 : m1' ρ = .rt x) : seqS m1' m2' ρ = .rt x := by
  rw [seqS_eq, h1]
theorem seqS_rtF {x : List PyData} (h1 : m1' ρ = .rtF x) : seqS m1' m2' ρ = .rtF x := by
  rw [seqS_eq, h1]
theorem ifS_t {f : Fl} (h : mt ρ = .ok true) (h2 : m1' ρ = f) : ifS mt m1' m2' ρ = f := by
  rw [ifS_eq, h, ← h2]
  rfl
theorem ifS_f {f : Fl} (h : mt ρ = .ok false) (h2 : m2' ρ = f) : ifS mt m1' m2' ρ = f := by
  rw [ifS_eq, h, ← h2]
  rfl
theorem setS_go {d : PyData} (h : ma ρ = .ok d) : setS i ma ρ = .nx (ρ.set i (.sh d)) := by
  rw [setS_eq, h]
  rfl
theorem setFS_go {d : List PyData} (h : ml ρ = .ok d) : setFS i ml ρ = .nx (ρ.set i (.own (.lst d))) := by
  rw [setFS_eq, h]
  rfl
theorem setLS_go {d : List PyData} (h : ml ρ = .ok d) : setLS i ml ρ = .nx (ρ.set i (.sh (.list d))) := by
  rw [setLS_eq, h]
  rfl
theorem retS_go {d : PyData} (h : ma ρ = .ok d) : retS ma ρ = .rt d := by
  rw [retS_eq, h]
  rfl
theorem runD_rt {np n : Nat} {m : MS} {vs : List PyData} {x : PyData} (h : m (start0 n vs) = .rt x) (hl : vs.length = np) : runD np n m vs = .ok x := by
  unfold runD
  rw [if_pos hl, h]
theorem runF_rtF {np n : Nat} {m : MS} {vs : List PyData} {x : List PyData} (h : m (start0 n vs) = .rtF x) (hl : vs.length = np) : runF np n m vs = .ok x := by
  unfold runF
  rw [if_pos hl, h]
theorem retO_go {x : List PyData} (h : ρ[i]? = some (.own (.lst x))) : retO i ρ = .rtF x := by
  unfold retO
  rw [h]
theorem forS_go {b : MS} {ds : List PyData} {f : Fl} (h1 : mi ρ = .ok ds) (h2 : forD g b ds ρ = f) : forS mi g b ρ = f := by
  rw [forS_eq, h1]
  exact h2
theorem lcM_map {f : PyData → Out (Option PyData)} {h : PyData → Option PyData} : ∀ {ds : List PyData}, (∀ d ∈ ds, f d = .ok (h d)) → lcM f ds = .ok (ds.filterMap h)
  | [], _ => rfl
  | d :: r, H => by
    show (noEx (f d) >>= fun o => lcM f r >>= fun t => .ok (oCons o t)) = _
    rw [H d List.mem_cons_self, lcM_map fun d hd => H d (List.mem_cons_of_mem _ hd), List.filterMap_cons]
    cases h d <;> rfl
/-- a comprehension whose every turn is told -/
theorem lcF_map {me : MD} {vs : List Nat} {ds : List PyData} (h : PyData → Option PyData) (hi : mi ρ = .ok ds) (hz : ds.length ≤ sizeLine) (H : ∀ d ∈ ds, stpF g mt me (wipeR ρ vs) d = .ok (h d)) : lcF mi g mt me vs ρ = .ok (ds.filterMap h) := by
  show (mi ρ >>= fun ds => if ds.length ≤ sizeLine then lcM (stpF g mt me (wipeR ρ vs)) ds else .no) = _
  rw [hi]
  show (if ds.length ≤ sizeLine then lcM (stpF g mt me (wipeR ρ vs)) ds else .no) = _
  rw [if_pos hz, lcM_map H]
theorem lc_sel {α : Type} {me : MD} {vs : List Nat} {l : List α} {u v : α → PyData} {p : α → Bool} (hi : mi ρ = .ok (l.map u)) (hz : l.length ≤ 16777216) (H : ∀ x ∈ l, stpF g mt me (wipeR ρ vs) (u x) = .ok (if p x then some (v x) else none)) : lcF mi g mt me vs ρ = .ok ((l.filter p).map v) := by
  have key : ∀ l : List α, (∀ x ∈ l, stpF g mt me (wipeR ρ vs) (u x) = .ok (if p x then some (v x) else none)) → lcM (stpF g mt me (wipeR ρ vs)) (l.map u) = .ok ((l.filter p).map v) := fun l => by
    induction l with
    | nil => exact fun _ => rfl
    | cons x r ih =>
      intro H
      rw [List.map_cons]
      show (noEx (stpF g mt me (wipeR ρ vs) (u x)) >>= fun o => lcM (stpF g mt me (wipeR ρ vs)) (r.map u) >>= fun t => .ok (oCons o t)) = _
      rw [H x List.mem_cons_self, ih fun y hy => H y (List.mem_cons_of_mem _ hy)]
      cases h : p x
      · rw [List.filter_cons_of_neg (by simp [h])]; rfl
      · rw [List.filter_cons_of_pos h]; rfl
  show (mi ρ >>= fun ds => if ds.length ≤ sizeLine then lcM (stpF g mt me (wipeR ρ vs)) ds else .no) = _
  rw [hi]
  show (if (l.map u).length ≤ sizeLine then lcM (stpF g mt me (wipeR ρ vs)) (l.map u) else .no) = _
  rw [if_pos (by rw [List.length_map]; exact sizes hz), key l H]
theorem lcM_sel_all {α : Type} {f : PyData → Out (Option PyData)} {l : List α} {u v : α → PyData} (H : ∀ x ∈ l, f (u x) = .ok (some (v x))) : lcM f (l.map u) = .ok (l.map v) := by
  induction l with
  | nil => rfl
  | cons x r ih =>
    rw [List.map_cons]
    show (noEx (f (u x)) >>= fun o => lcM f (r.map u) >>= fun t => .ok (oCons o t)) = _
    rw [H x List.mem_cons_self, ih fun y hy => H y (List.mem_cons_of_mem _ hy)]
    rfl
theorem lc_all {α : Type} {me : MD} {vs : List Nat} {l : List α} {u v : α → PyData} (hi : mi ρ = .ok (l.map u)) (hz : l.length ≤ 16777216) (H : ∀ x ∈ l, stpF g mt me (wipeR ρ vs) (u x) = .ok (some (v x))) : lcF mi g mt me vs ρ = .ok (l.map v) := by
  have := lc_sel (v := v) (p := fun _ => true) hi hz H
  rwa [List.filter_eq_self.mpr fun _ _ => rfl] at this
theorem zip_map {α : Type} (l : List α) (u v : α → PyData) : zipL (l.map u) (l.map v) = l.map fun x => .tuple [u x, v x] := by
  unfold zipL
  induction l with
  | nil => rfl
  | cons x r ih => simpa using ih
theorem enum_range (n : Nat) (u : Nat → PyData) : enumL ((List.range n).map u) = (List.range n).map fun k => .tuple [.int (k : Nat), u k] := by
  unfold enumL
  apply List.ext_getElem
  · simp
  · intro i h1 h2
    simp
/-! isinstance -/
@[simp] theorem isi_list_none  : isiD "list" .none = .ok (.bool false) := by
  have h : kitB "NoneType" "list" = some false := by decide +kernel
  show (match kitB "NoneType" "list" with | some b => Out.ok (PyData.bool b) | none => .no) = _
  rw [h]
@[simp] theorem isi_list_bool (b : Bool) : isiD "list" (.bool b) = .ok (.bool false) := by
  have h : kitB "bool" "list" = some false := by decide +kernel
  show (match kitB "bool" "list" with | some b => Out.ok (PyData.bool b) | none => .no) = _
  rw [h]
@[simp] theorem isi_list_int (i : Int) : isiD "list" (.int i) = .ok (.bool false) := by
  have h : kitB "int" "list" = some false := by decide +kernel
  show (match kitB "int" "list" with | some b => Out.ok (PyData.bool b) | none => .no) = _
  rw [h]
@[simp] theorem isi_list_str (z : Str) : isiD "list" (.str z) = .ok (.bool false) := by
  have h : kitB "str" "list" = some false := by decide +kernel
  show (match kitB "str" "list" with | some b => Out.ok (PyData.bool b) | none => .no) = _
  rw [h]
@[simp] theorem isi_list_list (ds : List PyData) : isiD "list" (.list ds) = .ok (.bool true) := by
  have h : kitB "list" "list" = some true := by decide +kernel
  show (match kitB "list" "list" with | some b => Out.ok (PyData.bool b) | none => .no) = _
  rw [h]
@[simp] theorem isi_list_tuple (ds : List PyData) : isiD "list" (.tuple ds) = .ok (.bool false) := by
  have h : kitB "tuple" "list" = some false := by decide +kernel
  show (match kitB "tuple" "list" with | some b => Out.ok (PyData.bool b) | none => .no) = _
  rw [h]
@[simp] theorem isi_tuple_none  : isiD "tuple" .none = .ok (.bool false) := by
  have h : kitB "NoneType" "tuple" = some false := by decide +kernel
  show (match kitB "NoneType" "tuple" with | some b => Out.ok (PyData.bool b) | none => .no) = _
  rw [h]
@[simp] theorem isi_tuple_bool (b : Bool) : isiD "tuple" (.bool b) = .ok (.bool false) := by
  have h : kitB "bool" "tuple" = some false := by decide +kernel
  show (match kitB "bool" "tuple" with | some b => Out.ok (PyData.bool b) | none => .no) = _
  rw [h]
@[simp] theorem isi_tuple_int (i : Int) : isiD "tuple" (.int i) = .ok (.bool false) := by
  have h : kitB "int" "tuple" = some false := by decide +kernel
  show (match kitB "int" "tuple" with | some b => Out.ok (PyData.bool b) | none => .no) = _
  rw [h]
@[simp] theorem isi_tuple_str (z : Str) : isiD "tuple" (.str z) = .ok (.bool false) := by
  have h : kitB "str" "tuple" = some false := by decide +kernel
  show (match kitB "str" "tuple" with | some b => Out.ok (PyData.bool b) | none => .no) = _
  rw [h]
@[simp] theorem isi_tuple_list (ds : List PyData) : isiD "tuple" (.list ds) = .ok (.bool false) := by
  have h : kitB "list" "tuple" = some false := by decide +kernel
  show (match kitB "list" "tuple" with | some b => Out.ok (PyData.bool b) | none => .no) = _
  rw [h]
@[simp] theorem isi_tuple_tuple (ds : List PyData) : isiD "tuple" (.tuple ds) = .ok (.bool true) := by
  have h : kitB "tuple" "tuple" = some true := by decide +kernel
  show (match kitB "tuple" "tuple" with | some b => Out.ok (PyData.bool b) | none => .no) = _
  rw [h]
@[simp] theorem isi_int_none  : isiD "int" .none = .ok (.bool false) := by
  have h : kitB "NoneType" "int" = some false := by decide +kernel
  show (match kitB "NoneType" "int" with | some b => Out.ok (PyData.bool b) | none => .no) = _
  rw [h]
@[simp] theorem isi_int_bool (b : Bool) : isiD "int" (.bool b) = .ok (.bool true) := by
  have h : kitB "bool" "int" = some true := by decide +kernel
  show (match kitB "bool" "int" with | some b => Out.ok (PyData.bool b) | none => .no) = _
  rw [h]
@[simp] theorem isi_int_int (i : Int) : isiD "int" (.int i) = .ok (.bool true) := by
  have h : kitB "int" "int" = some true := by decide +kernel
  show (match kitB "int" "int" with | some b => Out.ok (PyData.bool b) | none => .no) = _
  rw [h]
@[simp] theorem isi_int_str (z : Str) : isiD "int" (.str z) = .ok (.bool false) := by
  have h : kitB "str" "int" = some false := by decide +kernel
  show (match kitB "str" "int" with | some b => Out.ok (PyData.bool b) | none => .no) = _
  rw [h]
@[simp] theorem isi_int_list (ds : List PyData) : isiD "int" (.list ds) = .ok (.bool false) := by
  have h : kitB "list" "int" = some false := by decide +kernel
  show (match kitB "list" "int" with | some b => Out.ok (PyData.bool b) | none => .no) = _
  rw [h]
@[simp] theorem isi_int_tuple (ds : List PyData) : isiD "int" (.tuple ds) = .ok (.bool false) := by
  have h : kitB "tuple" "int" = some false := by decide +kernel
  show (match kitB "tuple" "int" with | some b => Out.ok (PyData.bool b) | none => .no) = _
  rw [h]
@[simp] theorem isi_bool_none  : isiD "bool" .none = .ok (.bool false) := by
  have h : kitB "NoneType" "bool" = some false := by decide +kernel
  show (match kitB "NoneType" "bool" with | some b => Out.ok (PyData.bool b) | none => .no) = _
  rw [h]
@[simp] theorem isi_bool_bool (b : Bool) : isiD "bool" (.bool b) = .ok (.bool true) := by
  have h : kitB "bool" "bool" = some true := by decide +kernel
  show (match kitB "bool" "bool" with | some b => Out.ok (PyData.bool b) | none => .no) = _
  rw [h]
@[simp] theorem isi_bool_int (i : Int) : isiD "bool" (.int i) = .ok (.bool false) := by
  have h : kitB "int" "bool" = some false := by decide +kernel
  show (match kitB "int" "bool" with | some b => Out.ok (PyData.bool b) | none => .no) = _
  rw [h]
@[simp] theorem isi_bool_str (z : Str) : isiD "bool" (.str z) = .ok (.bool false) := by
  have h : kitB "str" "bool" = some false := by decide +kernel
  show (match kitB "str" "bool" with | some b => Out.ok (PyData.bool b) | none => .no) = _
  rw [h]
@[simp] theorem isi_bool_list (ds : List PyData) : isiD "bool" (.list ds) = .ok (.bool false) := by
  have h : kitB "list" "bool" = some false := by decide +kernel
  show (match kitB "list" "bool" with | some b => Out.ok (PyData.bool b) | none => .no) = _
  rw [h]
@[simp] theorem isi_bool_tuple (ds : List PyData) : isiD "bool" (.tuple ds) = .ok (.bool false) := by
  have h : kitB "tuple" "bool" = some false := by decide +kernel
  show (match kitB "tuple" "bool" with | some b => Out.ok (PyData.bool b) | none => .no) = _
  rw [h]
@[simp] theorem isi_str_none  : isiD "str" .none = .ok (.bool false) := by
  have h : kitB "NoneType" "str" = some false := by decide +kernel
  show (match kitB "NoneType" "str" with | some b => Out.ok (PyData.bool b) | none => .no) = _
  rw [h]
@[simp] theorem isi_str_bool (b : Bool) : isiD "str" (.bool b) = .ok (.bool false) := by
  have h : kitB "bool" "str" = some false := by decide +kernel
  show (match kitB "bool" "str" with | some b => Out.ok (PyData.bool b) | none => .no) = _
  rw [h]
@[simp] theorem isi_str_int (i : Int) : isiD "str" (.int i) = .ok (.bool false) := by
  have h : kitB "int" "str" = some false := by decide +kernel
  show (match kitB "int" "str" with | some b => Out.ok (PyData.bool b) | none => .no) = _
  rw [h]
@[simp] theorem isi_str_str (z : Str) : isiD "str" (.str z) = .ok (.bool true) := by
  have h : kitB "str" "str" = some true := by decide +kernel
  show (match kitB "str" "str" with | some b => Out.ok (PyData.bool b) | none => .no) = _
  rw [h]
@[simp] theorem isi_str_list (ds : List PyData) : isiD "str" (.list ds) = .ok (.bool false) := by
  have h : kitB "list" "str" = some false := by decide +kernel
  show (match kitB "list" "str" with | some b => Out.ok (PyData.bool b) | none => .no) = _
  rw [h]
@[simp] theorem isi_str_tuple (ds : List PyData) : isiD "str" (.tuple ds) = .ok (.bool false) := by
  have h : kitB "tuple" "str" = some false := by decide +kernel
  show (match kitB "tuple" "str" with | some b => Out.ok (PyData.bool b) | none => .no) = _
  rw [h]
/-! items -/
theorem atI_nn {α : Type} (xs : List α) (i : Int) (h : 0 ≤ i) : atI xs i = xs[i.toNat]? := by
  unfold atI ixN
  rw [if_pos h]
  by_cases hi : i < xs.length
  · rw [if_pos hi]; rfl
  · rw [if_neg hi]
    show none = _
    rw [List.getElem?_eq_none (by omega)]
@[simp] theorem atI_cast {α : Type} (xs : List α) (i : Nat) : atI xs (i : Int) = xs[i]? := by
  rw [atI_nn xs _ (by omega), Int.toNat_natCast]
@[simp] theorem atI_lit {α : Type} (xs : List α) (i : Nat) : atI xs (no_index (OfNat.ofNat i) : Int) = xs[i]? := atI_cast xs i
@[simp] theorem atI_zero {α : Type} (xs : List α) : atI xs 0 = xs[0]? := atI_cast xs 0
@[simp] theorem atI_one {α : Type} (xs : List α) : atI xs 1 = xs[1]? := atI_cast xs 1
theorem ixN_nn (n : Nat) (i : Int) (h : 0 ≤ i) (h2 : i < n) : ixN n i = some i.toNat := by
  unfold ixN
  rw [if_pos h, if_pos h2]
@[simp] theorem get_map_int (ns : List Int) (i : Nat) : (ns.map PyData.int)[i]? = (ns[i]?).map .int := by rw [List.getElem?_map]
theorem rd_sh {i : Nat} {ρ : Ro} {d : PyData} (h : ρ[i]? = some (.sh d)) : rd i ρ = .ok d := by unfold rd; rw [h]
theorem sizes' {n : Nat} (h : n < 16777216) : n < sizeLine := by rw [sizeLine_eq]; exact h
/-- small factors -/
theorem mulOk_l {i j : Int} (h1 : -(2 ^ 64) < i) (h2 : i < 2 ^ 64) : mulOk i j := .inl (.inl ⟨h1, h2⟩)
theorem mulOk_r {i j : Int} (h1 : -(2 ^ 64) < j) (h2 : j < 2 ^ 64) : mulOk i j := .inl (.inr ⟨h1, h2⟩)
theorem divOk_s {j : Int} (h1 : 0 < j) (h2 : j < 18446744073709551616) : divOk j := ⟨h1, by
  have h3 : j.natAbs < 2 ^ 64 := by
    have : (2 ^ 64 : Nat) = 18446744073709551616 := by decide
    omega
  have := PySem.Flt.log2_lt_of (k := 64) (by decide) h3
  omega⟩
theorem two64 : (2 ^ 64 : Int) = 18446744073709551616 := by decide
theorem mulOk_ll {i j : Int} (h1 : -18446744073709551616 < i) (h2 : i < 18446744073709551616) : mulOk i j := mulOk_l (by rw [two64]; exact h1) (by rw [two64]; exact h2)
theorem mulOk_rr {i j : Int} (h1 : -18446744073709551616 < j) (h2 : j < 18446744073709551616) : mulOk i j := mulOk_r (by rw [two64]; exact h1) (by rw [two64]; exact h2)
end
end
end DL
/-! DL12: sorted, min and max of lists of any data. -/
namespace DL
noncomputable section
open PySem PySem.Spec PyProof.Rows L2
/-! ### sorted -/
/-- lists that sorted takes -/
structure SortOk (ds : List PyData) : Prop where
  al : PySem.W.AllAlike ds
  kind : PySem.W.Sortable ds
  shape : ∀ d ∈ ds, ShK 20 d
  size : ds.length ≤ sizeLine
instance (ds : List PyData) : Decidable (SortOk ds) := Classical.propDecidable _
def sortL (ds : List PyData) : List PyData := ds.mergeSort (PySem.W.dataLe false fun d => d)
def rSortD (K : PySem.W.Frag) : List V → Hp → VK → Prop := fun vs H Q => ∃ (a : Addr) (xs : List V) (ds : List PyData), vs = [.ref a] ∧ SqL K H a xs ∧ DpAll K H xs ds ∧ SortOk ds ∧
  ∀ (ys : List V) (p : Addr), PySem.W.EachIs (fun v d => (v, d) ∈ xs.zip ds) ys (sortL ds) → H p = none → Q (.ref p) (upd H p (.lst ys))
theorem vals_each {S : List (V × PyData)} : ∀ {xs : List V} {us : List Value} {ds : List PyData}, Vals xs us → xs.length = ds.length → (∀ q ∈ xs.zip ds, q ∈ S) → PySem.W.EachIs (fun u d => ∃ v, RelV v u ∧ (v, d) ∈ S) us ds
  | _, _, [], .nil, _, _ => .nil
  | _, _, [], .cons _ _, h, _ => by simp at h
  | _, _, _ :: _, .nil, h, _ => by simp at h
  | _, _, d :: ds, .cons r1 r2, h, hS => .cons ⟨_, r1, hS _ (by simp)⟩ (vals_each r2 (by simpa using h) fun q hq => hS q (by rw [List.zip_cons_cons]; exact List.mem_cons_of_mem _ hq))
theorem each_vals {S : List (V × PyData)} : ∀ {us : List Value} {ds : List PyData}, PySem.W.EachIs (fun u d => ∃ v, RelV v u ∧ (v, d) ∈ S) us ds → ∃ ys, Vals ys us ∧ PySem.W.EachIs (fun v d => (v, d) ∈ S) ys ds
  | _, _, .nil => ⟨[], .nil, .nil⟩
  | _, _, .cons ⟨v, r, m⟩ t => by
    obtain ⟨ys, h1, h2⟩ := each_vals t
    exact ⟨v :: ys, .cons r h1, .cons m h2⟩
theorem dpL_len {K : PySem.W.Frag} {H : Hp} : ∀ {xs : List V} {ds : List PyData}, DpAll K H xs ds → xs.length = ds.length
  | _, _, .nil => rfl
  | _, _, .cons _ t => by rw [List.length_cons, List.length_cons, dpL_len t]
theorem sortL_len (ds : List PyData) : (sortL ds).length = ds.length := List.length_mergeSort ds
section
variable {X : Cx}
theorem cr_sortD (hu : X.A.units + 64 < cLine) : CallR X (.builtin "sorted") (rSortD X.K) := by
  intro pins s σ H vs us Q I r h
  obtain ⟨a, xs, ds, rfl, hs, hd, hok, q⟩ := h
  obtain ⟨its, rv, hl, _⟩ := I.list hs
  rw [Vals.ref1 r]
  obtain ⟨as, hr⟩ := Dp.readsAll I ds xs its hd rv
  have em : ds.map (fun d => d) = ds := List.map_id' ds
  have er := PySem.W.readsAll_each (h := s.heap) (fun d : PyData => d) (vs := its) (bs := ds) (as := as) (by rw [em]; exact hr)
  have ez := vals_each (S := xs.zip ds) rv (dpL_len hd) fun q hq => hq
  refine PySem.W.sorted_data (enc := fun d => d) hl.isList ez er (by rw [em]; exact hok.al) (by rw [em]; exact hok.kind) hok.size (fun b hb => by have := (hok.shape b hb).dep; show _ + 2 + b.depth < _; omega) fun out h1 h2 => ?_
  obtain ⟨ys, hy, hm⟩ := each_vals h2
  obtain ⟨ep, he'⟩ := PyProof.Rows.sortedAll_at s.heap its out.toArray
  have hlen : ys.length ≤ sizeLine := by rw [hm.length]; exact Nat.le_trans (Nat.le_of_eq (sortL_len ds)) hok.size
  exact ⟨.ref _, upd H (s.heap.objs.size + 1) (.lst ys), I.laid (t' := s.toks) (fun _ _ => PyProof.Rows.sortedAll_old) (Nat.le_succ _) ⟨hlen, out, ep, hy, he'⟩, rfl, q ys _ hm (I.hok.fresh (Nat.le_succ _))⟩
def sortedF : List PyData → Out (List PyData)
  | [.list ds] => if SortOk ds then .ok (sortL ds) else .no
  | _ => .no
theorem dpAll_pick {K : PySem.W.Frag} {G : Hp} {xs : List V} {ds : List PyData} (h : DqAll K G xs ds) : ∀ {ys : List V} {es : List PyData}, PySem.W.EachIs (fun v d => (v, d) ∈ xs.zip ds) ys es → DqAll K G ys es
  | _, _, .nil => .nil
  | _, _, .cons m t => by
    refine .cons ?_ (dpAll_pick h t)
    obtain ⟨i, hi, e⟩ := List.getElem_of_mem m
    have hl : i < xs.length ∧ i < ds.length := by rw [List.length_zip] at hi; omega
    rw [List.getElem_zip] at e
    injection e with e1 e2
    subst e1 e2
    obtain ⟨v, hv, dv⟩ := dpAll_get' h (List.getElem?_eq_getElem hl.2)
    rw [List.getElem?_eq_getElem hl.1] at hv
    cases hv
    exact dv
theorem dpL_mono {K : PySem.W.Frag} {G H : Hp} (s : Same G H) {xs : List V} {ds : List PyData} (c : ∀ d ∈ ds, ShK 20 d) (h : DqAll K G xs ds) : DpAll K H xs ds := dqAll_dp (shK_all c).1 (dpAll_mono s h)
theorem call_sortedF : CallF X (rSortD X.K) sortedF := by
  intro mg W σ G H Q vs ds s hv h
  unfold sortedF at h
  split at h
  · obtain ⟨v, rfl, hd⟩ := dq1 hv
    obtain ⟨a1, v1, rfl, r1, d1⟩ := dp_list hd
    split at h
    · rename_i hok
      exact ⟨a1, v1, _, rfl, .inl (rd_mono s r1), dpL_mono s hok.shape d1, hok, fun ys p hm hp => post_newF s h (dpAll_pick d1 hm) hp⟩
    · exact h.elim
  · exact h.elim
/-! ### min and max -/
structure BestOk (ds : List PyData) : Prop where
  al : PySem.W.AlikeAll ds
  shape : ∀ d ∈ ds, ShK 20 d
instance (ds : List PyData) : Decidable (BestOk ds) := Classical.propDecidable _
def rMinA (K : PySem.W.Frag) : List V → Hp → VK → Prop := fun vs H Q => ∃ (a : Addr) (xs : List V) (d : PyData) (ds : List PyData), vs = [.ref a] ∧ SqL K H a xs ∧ DpAll K H xs (d :: ds) ∧ BestOk (d :: ds) ∧ ∀ v, (v, PySem.W.minD d ds) ∈ xs.zip (d :: ds) → Q v H
def rMaxA (K : PySem.W.Frag) : List V → Hp → VK → Prop := fun vs H Q => ∃ (a : Addr) (xs : List V) (d : PyData) (ds : List PyData), vs = [.ref a] ∧ SqL K H a xs ∧ DpAll K H xs (d :: ds) ∧ BestOk (d :: ds) ∧ ∀ v, (v, PySem.W.maxD d ds) ∈ xs.zip (d :: ds) → Q v H
theorem vals_at : ∀ {xs : List V} {us : List Value} {i : Nat} {u : Value}, Vals xs us → us[i]? = some u → ∃ v, xs[i]? = some v ∧ RelV v u
  | _, _, _, _, .nil, e => by simp at e
  | _, _, 0, _, .cons r _, e => by simp at e; subst e; exact ⟨_, rfl, r⟩
  | _, _, i + 1, _, .cons _ t, e => by simpa using vals_at t (by simpa using e)
theorem dpL_get {K : PySem.W.Frag} {H : Hp} : ∀ {vs : List V} {ds : List PyData} {i : Nat} {v : V}, DpAll K H vs ds → vs[i]? = some v → ∃ d, ds[i]? = some d ∧ Dp K H v d
  | _, _, _, _, .nil, e => by simp at e
  | _, _, 0, _, .cons h _, e => by simp at e; subst e; exact ⟨_, rfl, h⟩
  | _, _, i + 1, _, .cons _ h, e => by simpa using dpL_get h (by simpa using e)
theorem zip_mem {α β : Type} {xs : List α} {ys : List β} {i : Nat} {x : α} {y : β} (h1 : xs[i]? = some x) (h2 : ys[i]? = some y) : (x, y) ∈ xs.zip ys := by
  refine List.mem_of_getElem? (i := i) ?_
  rw [List.getElem?_zip_eq_some]
  exact ⟨h1, h2⟩
theorem depth_le {k : Nat} {ds : List PyData} (h : ∀ d ∈ ds, ShK k d) : PyData.depthAll ds ≤ k := (shK_all h).2
theorem cr_minA (hc : X.calm = true) (hu : X.A.units + 64 < cLine) : CallR X (.builtin "min") (rMinA X.K) := by
  intro pins s σ H vs us Q I r h
  obtain ⟨a, xs, d, ds, rfl, hs, hd, hok, q⟩ := h
  obtain ⟨its, rv, hl, _⟩ := I.list hs
  rw [Vals.ref1 r]
  obtain ⟨as, hr⟩ := Dp.readsAll I (d :: ds) xs its hd rv
  refine PySem.W.min_list_data (I.ok.hd hc) hl.isList (x := d) (xs := ds) (as := as) (by simpa using hr) hok.al (by have := depth_le hok.shape; omega) fun i v h' tk bs hv hb hk => ?_
  have hv' : its[i]? = some v := by simpa using hv
  obtain ⟨v1, e1, rel⟩ := vals_at rv hv'
  obtain ⟨d1, e2, dp⟩ := dpL_get hd e1
  obtain ⟨as1, r1⟩ := Dp.reads I d1 v1 v dp rel
  have e3 : d1 = PySem.W.minD d ds := PySem.SeqAt.Reads.unique _ _ _ _ _ ((hok.shape d1 (List.mem_of_getElem? e2)).lay) (PyProof.Rows.Reads.keeps hk r1) hb
  subst e3
  exact ⟨v1, H, I.kept hk, rel, q v1 (zip_mem e1 e2)⟩
theorem cr_maxA (hc : X.calm = true) (hu : X.A.units + 64 < cLine) : CallR X (.builtin "max") (rMaxA X.K) := by
  intro pins s σ H vs us Q I r h
  obtain ⟨a, xs, d, ds, rfl, hs, hd, hok, q⟩ := h
  obtain ⟨its, rv, hl, _⟩ := I.list hs
  rw [Vals.ref1 r]
  obtain ⟨as, hr⟩ := Dp.readsAll I (d :: ds) xs its hd rv
  refine PySem.W.max_list_data (I.ok.hd hc) hl.isList (x := d) (xs := ds) (as := as) (by simpa using hr) hok.al (by have := depth_le hok.shape; omega) fun i v h' tk bs hv hb hk => ?_
  have hv' : its[i]? = some v := by simpa using hv
  obtain ⟨v1, e1, rel⟩ := vals_at rv hv'
  obtain ⟨d1, e2, dp⟩ := dpL_get hd e1
  obtain ⟨as1, r1⟩ := Dp.reads I d1 v1 v dp rel
  have e3 : d1 = PySem.W.maxD d ds := PySem.SeqAt.Reads.unique _ _ _ _ _ ((hok.shape d1 (List.mem_of_getElem? e2)).lay) (PyProof.Rows.Reads.keeps hk r1) hb
  subst e3
  exact ⟨v1, H, I.kept hk, rel, q v1 (zip_mem e1 e2)⟩
/-- min of two numbers, or of a list of alike data -/
def minG : List PyData → Out PyData
  | [.int i, .int j] => .ok (.int (if j < i then j else i))
  | [.list (d :: ds)] => if BestOk (d :: ds) then .ok (PySem.W.minD d ds) else .no
  | _ => .no
def maxG : List PyData → Out PyData
  | [.int i, .int j] => .ok (.int (if j > i then j else i))
  | [.list (d :: ds)] => if BestOk (d :: ds) then .ok (PySem.W.maxD d ds) else .no
  | _ => .no
theorem dq_zip {K : PySem.W.Frag} {G : Hp} {xs : List V} {ds : List PyData} (h : DqAll K G xs ds) {v : V} {d : PyData} (m : (v, d) ∈ xs.zip ds) : Dq K G v d := by
  have := dpAll_pick (ys := [v]) (es := [d]) h (.cons m .nil)
  cases this with | cons a _ => exact a
theorem call_minG : CallD X (fun xs H Q => (∃ i j, xs = [.int i, .int j] ∧ Q (.int (if j < i then j else i)) H) ∨ rMinA X.K xs H Q) minG := by
  intro mg W σ G H Q vs ds s hv h
  unfold minG at h
  split at h
  · obtain ⟨v, w, rfl, hd, hd2⟩ := dq2 hv
    obtain rfl := dp_int hd
    obtain rfl := dp_int hd2
    exact .inl ⟨_, _, rfl, h.now s _ (.int _)⟩
  · obtain ⟨v, rfl, hd⟩ := dq1 hv
    obtain ⟨a1, v1, rfl, r1, d1⟩ := dp_list hd
    split at h
    · rename_i hok
      exact .inr ⟨a1, v1, _, _, rfl, .inl (rd_mono s r1), dpL_mono s hok.shape d1, hok, fun v m => h.now s _ (dq_zip d1 m)⟩
    · exact h.elim
  · exact h.elim
theorem call_maxG : CallD X (fun xs H Q => (∃ i j, xs = [.int i, .int j] ∧ Q (.int (if j > i then j else i)) H) ∨ rMaxA X.K xs H Q) maxG := by
  intro mg W σ G H Q vs ds s hv h
  unfold maxG at h
  split at h
  · obtain ⟨v, w, rfl, hd, hd2⟩ := dq2 hv
    obtain rfl := dp_int hd
    obtain rfl := dp_int hd2
    exact .inl ⟨_, _, rfl, h.now s _ (.int _)⟩
  · obtain ⟨v, rfl, hd⟩ := dq1 hv
    obtain ⟨a1, v1, rfl, r1, d1⟩ := dp_list hd
    split at h
    · rename_i hok
      exact .inr ⟨a1, v1, _, _, rfl, .inl (rd_mono s r1), dpL_mono s hok.shape d1, hok, fun v m => h.now s _ (dq_zip d1 m)⟩
    · exact h.elim
  · exact h.elim
theorem rminG {k : Nat} (hr : Room k X.A) (hc : X.calm = true := by rfl) : CallR X (.builtin "min") (fun xs H Q => (∃ i j, xs = [.int i, .int j] ∧ Q (.int (if j < i then j else i)) H) ∨ rMinA X.K xs H Q) := (call_min2 hc).or (cr_minA hc hr.units)
theorem rmaxG {k : Nat} (hr : Room k X.A) (hc : X.calm = true := by rfl) : CallR X (.builtin "max") (fun xs H Q => (∃ i j, xs = [.int i, .int j] ∧ Q (.int (if j > i then j else i)) H) ∨ rMaxA X.K xs H Q) := (call_max2 hc).or (cr_maxA hc hr.units)
theorem rsortD {k : Nat} (hr : Room k X.A) : CallR X (.builtin "sorted") (rSortD X.K) := cr_sortD hr.units
@[simp] theorem minG_two (i j : Int) : minG [.int i, .int j] = .ok (.int (if j < i then j else i)) := rfl
@[simp] theorem maxG_two (i j : Int) : maxG [.int i, .int j] = .ok (.int (if j > i then j else i)) := rfl
@[simp] theorem minG_list (d : PyData) (ds : List PyData) : minG [.list (d :: ds)] = if BestOk (d :: ds) then .ok (PySem.W.minD d ds) else .no := rfl
@[simp] theorem maxG_list (d : PyData) (ds : List PyData) : maxG [.list (d :: ds)] = if BestOk (d :: ds) then .ok (PySem.W.maxD d ds) else .no := rfl
@[simp] theorem sortedF_list (ds : List PyData) : sortedF [.list ds] = if SortOk ds then .ok (sortL ds) else .no := rfl
end
end
end DL
/-! DL13: points (pairs of whole numbers) as data. -/
namespace DL
noncomputable section
open PySem PySem.Spec PyProof.Rows L2
abbrev Pt := Int × Int
def pd (p : Pt) : PyData := .tuple [.int p.1, .int p.2]
def pl (l : List Pt) : List PyData := l.map pd
theorem pl_nil : pl [] = [] := rfl
theorem pl_cons (p : Pt) (l : List Pt) : pl (p :: l) = pd p :: pl l := rfl
theorem pl_len (l : List Pt) : (pl l).length = l.length := List.length_map ..
theorem pl_app (l m : List Pt) : pl l ++ pl m = pl (l ++ m) := (List.map_append ..).symm
theorem pl_snoc (l : List Pt) (p : Pt) : pl l ++ [pd p] = pl (l ++ [p]) := pl_app l [p]
theorem pl_rev (l : List Pt) : (pl l).reverse = pl l.reverse := (List.map_reverse ..).symm
theorem pl_at (l : List Pt) (i : Nat) : (pl l)[i]? = (l[i]?).map pd := List.getElem?_map ..
theorem eqv_pd (a b : Pt) : PyData.eqv (pd a) (pd b) = decide (a = b) := by
  obtain ⟨a1, a2⟩ := a
  obtain ⟨b1, b2⟩ := b
  simp [pd, PyData.eqv, PyData.eqvAll]
  by_cases h1 : a1 = b1 <;> by_cases h2 : a2 = b2 <;> simp [h1, h2]
theorem eqv_pl : ∀ a b : List Pt, PyData.eqvAll (pl a) (pl b) = decide (a = b)
  | [], [] => by simp [pl, PyData.eqvAll]
  | [], _ :: _ => by simp [pl, PyData.eqvAll]
  | _ :: _, [] => by simp [pl, PyData.eqvAll]
  | x :: a, y :: b => by
    rw [pl_cons, pl_cons, PyData.eqvAll, eqv_pd, eqv_pl a b]
    by_cases h1 : x = y <;> by_cases h2 : a = b <;> simp [h1, h2]
theorem shK_pd (p : Pt) : ShK 1 (pd p) := shK_tuple fun e he => by
  rcases List.mem_cons.mp he with rfl | he
  · exact shK_int _
  · rcases List.mem_cons.mp he with rfl | he
    · exact shK_int _
    · simp at he
theorem mem_pl {d : PyData} {l : List Pt} (h : d ∈ pl l) : ∃ p ∈ l, d = pd p := by
  obtain ⟨p, hp, rfl⟩ := List.mem_map.mp h
  exact ⟨p, hp, rfl⟩
theorem shK_pl (l : List Pt) : ShK 2 (.list (pl l)) := shK_list fun d hd => by
  obtain ⟨p, _, rfl⟩ := mem_pl hd
  exact shK_pd p
@[simp] theorem shaped_pd (p : Pt) : SeqAt.shaped (pd p) = true := (shK_pd p).shaped (by decide)
@[simp] theorem shaped_pl (l : List Pt) : SeqAt.shaped (.list (pl l)) = true := (shK_pl l).shaped (by decide)
@[simp] theorem eqD_pl (a b : List Pt) : eqD (.list (pl a)) (.list (pl b)) = .ok (.bool (decide (a = b))) := by
  unfold eqD
  rw [shaped_pl, shaped_pl]
  simp [PyData.eqv, eqv_pl]
@[simp] theorem neD_pl (a b : List Pt) : neD (.list (pl a)) (.list (pl b)) = .ok (.bool (!decide (a = b))) := by
  unfold neD
  rw [shaped_pl, shaped_pl]
  simp [PyData.eqv, eqv_pl]
@[simp] theorem eqD_pd (a b : Pt) : eqD (pd a) (pd b) = .ok (.bool (decide (a = b))) := by
  unfold eqD
  rw [shaped_pd, shaped_pd, eqv_pd]
  rfl
theorem any_pl (p : Pt) (l : List Pt) : ((pl l).any fun z => PyData.eqv z (pd p)) = decide (p ∈ l) := by
  induction l with
  | nil => simp [pl]
  | cons q l ih =>
    rw [pl_cons, List.any_cons, ih, eqv_pd]
    by_cases h : q = p
    · simp [h]
    · have : ¬ p = q := fun e => h e.symm
      simp [h, this]
@[simp] theorem in_pl (p : Pt) (l : List Pt) : inD false (pd p) (.list (pl l)) = .ok (.bool (decide (p ∈ l))) := by
  unfold inD
  simp [any_pl]
@[simp] theorem notin_pl (p : Pt) (l : List Pt) : inD true (pd p) (.list (pl l)) = .ok (.bool (!decide (p ∈ l))) := by
  unfold inD
  simp [any_pl]
@[simp] theorem ix_pd0 (p : Pt) : ixD (pd p) (.int 0) = .ok (.int p.1) := rfl
@[simp] theorem ix_pd1 (p : Pt) : ixD (pd p) (.int 1) = .ok (.int p.2) := rfl
/-! the order -/
def le2 (a b : Pt) : Bool := decide (a.1 < b.1 ∨ (a.1 = b.1 ∧ a.2 ≤ b.2))
theorem le2_trans (a b c : Pt) (h1 : le2 a b = true) (h2 : le2 b c = true) : le2 a c = true := by
  simp only [le2, decide_eq_true_eq] at h1 h2 ⊢
  omega
theorem le2_total (a b : Pt) : (le2 a b || le2 b a) = true := by
  simp only [le2, Bool.or_eq_true, decide_eq_true_eq]
  omega
theorem le2_anti {a b : Pt} (h1 : le2 a b = true) (h2 : le2 b a = true) : a = b := by
  simp only [le2, decide_eq_true_eq] at h1 h2
  exact Prod.ext (by omega) (by omega)
def srt (l : List Pt) : List Pt := l.mergeSort le2
theorem srt_perm (l : List Pt) : (srt l).Perm l := List.mergeSort_perm _ _
theorem srt_eq {a b : List Pt} : srt a = srt b ↔ a.Perm b := by
  constructor
  · intro h
    exact ((srt_perm a).symm.trans (h ▸ List.Perm.refl _)).trans (srt_perm b)
  · intro h
    refine List.Perm.eq_of_pairwise (le := fun a b => le2 a b = true) (fun x y _ _ h1 h2 => le2_anti h1 h2) ?_ ?_ (((srt_perm a).trans h).trans (srt_perm b).symm)
    · exact List.pairwise_mergeSort le2_trans le2_total a
    · exact List.pairwise_mergeSort le2_trans le2_total b
theorem dataLe_pd (a b : Pt) : PySem.W.dataLe false (fun d : PyData => d) (pd a) (pd b) = le2 a b := by
  have := congrFun (congrFun (PySem.W.dataLe_ii (β := Pt) (fun p => p.1) (fun p => p.2)) a) b
  exact this
theorem sortL_pl (l : List Pt) : sortL (pl l) = pl (srt l) := (List.map_mergeSort fun a _ b _ => (dataLe_pd a b).symm).symm
theorem sortOk_pl {l : List Pt} (h : l.length ≤ 16777216) : SortOk (pl l) where
  al := PySem.W.AllAlike.of fun a b => by simp [pd, PySem.W.alike, PySem.W.alikeAll]
  kind := PySem.W.Sortable.tuples fun a => ⟨_, _, rfl⟩
  shape := fun d hd => by
    obtain ⟨p, _, rfl⟩ := mem_pl hd
    exact (shK_pd p).mono (by decide)
  size := by rw [pl_len]; exact sizes h
theorem sortedF_pl {l : List Pt} (h : l.length ≤ 16777216) : sortedF [.list (pl l)] = .ok (pl (srt l)) := by
  rw [sortedF_list, if_pos (sortOk_pl h), sortL_pl]
theorem bestOk_pl (p : Pt) (l : List Pt) : BestOk (pd p :: pl l) where
  al := by
    rw [← pl_cons]
    refine ⟨fun x hx y hy => ?_, fun x hx => ?_⟩
    · obtain ⟨a, _, rfl⟩ := mem_pl hx
      obtain ⟨b, _, rfl⟩ := mem_pl hy
      simp [pd, PySem.W.alike, PySem.W.alikeAll]
    · obtain ⟨a, _, rfl⟩ := mem_pl hx
      simp [pd]
  shape := fun d hd => by
    rw [← pl_cons] at hd
    obtain ⟨p, _, rfl⟩ := mem_pl hd
    exact (shK_pd p).mono (by decide)
theorem dataLt_pd (a b : Pt) : PySem.W.dataLt (pd a) (pd b) = !le2 b a := by
  have := dataLe_pd b a
  have h : (!PySem.W.dataLt (pd a) (pd b)) = le2 b a := this
  rw [← h, Bool.not_not]
/-- the least -/
def mn (p : Pt) : List Pt → Pt
  | [] => p
  | q :: l => mn (if le2 p q then p else q) l
theorem minD_pl (p : Pt) (l : List Pt) : PySem.W.minD (pd p) (pl l) = pd (mn p l) := by
  induction l generalizing p with
  | nil => rfl
  | cons q l ih =>
    rw [pl_cons]
    show PySem.W.minD (if PySem.W.dataLt (pd q) (pd p) then pd q else pd p) (pl l) = _
    rw [dataLt_pd]
    have e : (if (!le2 p q) = true then pd q else pd p) = pd (if le2 p q then p else q) := by
      cases le2 p q <;> rfl
    rw [e, ih]
    rfl
theorem mn_mem (l : List Pt) : ∀ p, mn p l ∈ p :: l := by
  induction l with
  | nil => exact fun p => List.mem_cons_self
  | cons q l ih =>
    intro p
    have := ih (if le2 p q then p else q)
    show mn (if le2 p q then p else q) l ∈ _
    rcases List.mem_cons.mp this with h | h
    · rw [h]
      split
      · exact List.mem_cons_self
      · exact List.mem_cons_of_mem _ List.mem_cons_self
    · exact List.mem_cons_of_mem _ (List.mem_cons_of_mem _ h)
theorem le2_refl (p : Pt) : le2 p p = true := by simp [le2]
theorem mn_le (l : List Pt) : ∀ p, ∀ q ∈ p :: l, le2 (mn p l) q = true := by
  induction l with
  | nil => intro p q hq; rcases List.mem_singleton.mp hq with rfl; exact le2_refl _
  | cons r l ih =>
    intro p q hq
    show le2 (mn (if le2 p r then p else r) l) q = true
    have h0 := ih (if le2 p r then p else r) _ List.mem_cons_self
    rcases List.mem_cons.mp hq with rfl | hq
    · refine le2_trans _ _ _ h0 ?_
      split
      · exact le2_refl _
      · rename_i h
        have := le2_total q r
        simpa [h] using this
    · rcases List.mem_cons.mp hq with rfl | hq
      · refine le2_trans _ _ _ h0 ?_
        split
        · rename_i h; exact h
        · exact le2_refl _
      · exact ih _ q (List.mem_cons_of_mem _ hq)
theorem mn_one {p : Pt} {l : List Pt} {m : Pt} (h1 : m ∈ p :: l) (h2 : ∀ q ∈ p :: l, le2 m q = true) : mn p l = m := le2_anti (mn_le l p m h1) (h2 _ (mn_mem l p))
theorem minG_pl (p : Pt) (l : List Pt) : minG [.list (pl (p :: l))] = .ok (pd (mn p l)) := by
  rw [pl_cons, minG_list, if_pos (bestOk_pl p l), minD_pl]
theorem cut_take (ds : List PyData) (k : Nat) : cutD ds (some 0) (some (k : Int)) = ds.take k := by
  have h0 : HT.sIx ds.length 0 (some 0) = 0 := by rw [show (0 : Int) = ((0 : Nat) : Int) from rfl, HT.sIx_nat]; omega
  unfold cutD
  rw [h0, HT.sIx_nat, List.drop_zero, Nat.sub_zero]
  by_cases h : k ≤ ds.length
  · rw [Nat.min_eq_left h]
  · rw [Nat.min_eq_right (by omega), List.take_of_length_le (Nat.le_refl _), List.take_of_length_le (by omega)]
theorem cut_drop (ds : List PyData) (k : Nat) : cutD ds (some (k : Int)) none = ds.drop k := by
  unfold cutD
  rw [HT.sIx_nat, HT.sIx_none]
  by_cases h : k ≤ ds.length
  · rw [Nat.min_eq_left h, List.take_of_length_le (by simp)]
  · rw [Nat.min_eq_right (by omega), List.drop_eq_nil_of_le (Nat.le_refl _), List.drop_eq_nil_of_le (by omega), List.take_nil]
theorem pl_take (l : List Pt) (k : Nat) : (pl l).take k = pl (l.take k) := (List.map_take ..).symm
theorem pl_drop (l : List Pt) (k : Nat) : (pl l).drop k = pl (l.drop k) := (List.map_drop ..).symm
theorem inD_list (neg : Bool) (d : PyData) (ds : List PyData) : inD neg d (.list ds) = if SeqAt.shaped d && SeqAt.shaped (.list ds) then .ok (.bool (if neg then !ds.any (fun z => PyData.eqv z d) else ds.any fun z => PyData.eqv z d)) else .no := rfl
theorem in_yes {d : PyData} {ds : List PyData} (h : d ∈ ds) (s1 : SeqAt.shaped d = true) (s2 : SeqAt.shaped (.list ds) = true) : inD false d (.list ds) = .ok (.bool true) := by
  rw [inD_list, s1, s2]
  have : (ds.any fun z => PyData.eqv z d) = true := List.any_eq_true.mpr ⟨d, h, SeqAt.eqv_refl _ (SeqAt.canLay_of_shaped s1)⟩
  simp [this]
end
end DL
/-! DL14: xs[i] += e. -/
namespace DL
noncomputable section
open PySem PySem.Spec PyProof.Rows L2
section
variable {X : Cx} {W : WX} {a b : Expr} {st : Stmt} {ma mb : MD} {pos p pos' p2 : Pos} {x : Str}
theorem get_list : PGet X (rIxL X.K) := by
  intro pins s σ H x y v u Q I rx ry h
  obtain ⟨p, xs, i, z, rfl, rfl, hq, he, q⟩ := h
  cases rx
  obtain ⟨t, rfl⟩ := ry
  obtain ⟨its, r, pl, hz⟩ := I.list hq
  obtain ⟨j, h1, h2, h3, h4, h5⟩ := atI_get he
  obtain ⟨w, ew, rw'⟩ := r.get h2
  have hl := r.length
  have hn := line63
  have fin : EP X pins σ Q w s := ⟨z, H, I, rw', q⟩
  by_cases h0 : 0 ≤ i
  · have hj : i.toNat = j := by
      rw [seqIndex_of h0 h5] at h1
      exact Option.some.inj h1
    exact wpAny_getItem_list pl.isList h0 (by omega) (by rw [hj]; simpa using ew) fin
  · have hj : (i + (its.toArray.size : Int)).toNat = j := by
      rw [seqIndex_neg (by omega) h4] at h1
      rw [List.size_toArray, ← hl]
      exact Option.some.inj h1
    exact wpAny_getItem_list_neg pl.isList (by omega) (by rw [List.size_toArray] <;> omega) (by omega) (by rw [hj]; simpa using ew) fin
/-- xs[i] += e, xs a list of ours -/
def augIS (f : PyData → PyData → Out PyData) (i : Nat) (mi mv : MD) : MS := fun ρ => match ρ[i]? with
  | some (.own (.lst ds)) => thenF (mi ρ >>= fun j => match j with
    | .int j => match atI ds j, ixN ds.length j with
      | some old, some n => mv ρ >>= fun v => f old v >>= fun z => .ok (n, z)
      | _, _ => .no
    | _ => .no) ρ fun nz => .nx (ρ.set i (.own (.lst (ds.set nz.1 nz.2))))
  | _ => .no
theorem ds_augI {op : Operator} {f : Int → Int → Int} {fd : PyData → PyData → Out PyData} (hfd : ∀ d e z, fd d e = .ok z → ∃ i j, d = .int i ∧ e = .int j ∧ z = .int (f i j)) (hfe : ∀ d e c, fd d e ≠ .ex c) (hop : PIp X op (ipI f)) {sp : Pos} (i : Nat) (hi : DE X W b mb) (ha : DE X W a ma) (hN : X.N[i]? = some x := by rfl) (hv : Vis X.env.scope x := by first | exact Or.inl rfl | exact Or.inr (Or.inl rfl) | exact Or.inr (Or.inr rfl)) (hd : (x == ("__debug__" : Str)) = false := by decide) (hcd : (x == ("__classdict__" : Str)) = false := by decide)
    (hs : ∀ ov iv new, augStore b ov iv new = (do holding [new, ov, iv] (setItem ov iv new); release [new, ov, iv] []; pure .next) := by intros; rfl) :
    DS X W (.AugAssign (.Subscript (.Name x p) b sp) op a pos) (augIS fd i mb ma) := by
  refine ps_imp (ps_augS (pe_var hN hv hd hcd) hi get_list ha hop set_list hs) fun D σ H ⟨H0, G0, G, ρ, r, h⟩ => ?_
  unfold augIS at h
  split at h
  · rename_i ds q
    obtain ⟨a1, u, es, hp, ho, hg, h0⟩ := r.getOwn q
    obtain ⟨vs, rfl, hvs⟩ := ho.isLst
    have h2 := thenF_post (R := fun nz G' H' => PostF X.K X.mg W D H0 G0 G' (.nx (ρ.set i (.own (.lst (ds.set nz.1 nz.2)))))) r h fun z G1 H1 _ x1 h1 => h1
    refine ⟨.ref a1, es, H0, G0, G, ρ, r, (PostO.bind h2).mono fun j G1 H1 _ x1 h3 w hw => ?_⟩
    cases j with
    | int j =>
      obtain rfl := dp_int hw
      cases qa : atI ds j with
      | none =>
        have h4 : PostO X.mg W σ G1 H1 _ (match atI ds j, ixN ds.length j with
          | some old, some n => ma ρ >>= fun v => fd old v >>= fun z => .ok (n, z)
          | _, _ => .no) := h3
        rw [qa] at h4
        exact h4.elim
      | some old =>
        cases qn : ixN ds.length j with
        | none =>
          have h4 : PostO X.mg W σ G1 H1 _ (match atI ds j, ixN ds.length j with
            | some old, some n => ma ρ >>= fun v => fd old v >>= fun z => .ok (n, z)
            | _, _ => .no) := h3
          rw [qa, qn] at h4
          exact h4.elim
        | some n =>
          have h4 : PostO X.mg W σ G1 H1 (fun (nz : Nat × PyData) G' H' => PostF X.K X.mg W D H0 G0 G' (.nx (ρ.set i (.own (.lst (ds.set nz.1 nz.2)))))) (match atI ds j, ixN ds.length j with
            | some old, some n => ma ρ >>= fun v => fd old v >>= fun z => .ok (n, z)
            | _, _ => .no) := h3
          rw [qa, qn] at h4
          obtain ⟨vo, hvo, dvo⟩ := atI_dq (dpAll_mono x1.g hvs) qa
          refine ⟨a1, vs, j, vo, rfl, rfl, SqL.of (x1.h _ _ hp), hvo, H0, G0, G1, ρ, r.step x1, (PostO.bind h4).mono fun e G2 H2 _ x2 h5 v hv2 => ?_⟩
          cases q2 : fd old e with
          | no => rw [q2] at h5; exact h5.elim
          | ex c => exact absurd q2 (hfe old e c)
          | ok z =>
            rw [q2] at h5
            obtain ⟨m, k, rfl, rfl, rfl⟩ := hfd old e z q2
            obtain rfl := dp_int dvo
            obtain rfl := dp_int hv2
            have x3 := x1.trans x2
            refine ⟨m, k, rfl, rfl, a1, vs, j, n, rfl, rfl, x3.h _ _ hp, by rw [dpAll_len hvs]; exact qn, ?_⟩
            have h6 := h5 G2 H2 (.refl x2.gh)
            exact h6 σ G2 _ (.refl _) ((r.step x3).write (b' := .lst (ds.set n (.int (f m k)))) q es (x3.h _ _ hp) (x3.fr a1 hg (by rw [hp]; simp)) h0 (show DqAll _ _ _ _ from dpAll_set n (dpAll_mono x3.g hvs) (.int _)))
    | _ => exact h3.elim
  · exact h.elim
theorem iadd_of (d e z : PyData) (h : iaddD d e = .ok z) : ∃ i j, d = .int i ∧ e = .int j ∧ z = .int (i + j) := by
  cases d <;> cases e <;> first | (cases h; exact ⟨_, _, rfl, rfl, rfl⟩) | cases h
theorem isub_of (d e z : PyData) (h : isubD d e = .ok z) : ∃ i j, d = .int i ∧ e = .int j ∧ z = .int (i - j) := by
  cases d <;> cases e <;> first | (cases h; exact ⟨_, _, rfl, rfl, rfl⟩) | cases h
theorem iadd_ex (d e : PyData) (c : Str) : iaddD d e ≠ .ex c := fun h => by cases d <;> cases e <;> cases h
theorem isub_ex (d e : PyData) (c : Str) : isubD d e ≠ .ex c := fun h => by cases d <;> cases e <;> cases h
theorem augIS_go {f : PyData → PyData → Out PyData} {i n : Nat} {mi mv : MD} {ρ : Ro} {ds : List PyData} {old v z : PyData} (h1 : ρ[i]? = some (.own (.lst ds))) (h2 : mi ρ = .ok (.int (n : Nat))) (h3 : ds[n]? = some old) (h4 : mv ρ = .ok v) (h5 : f old v = .ok z) : augIS f i mi mv ρ = .nx (ρ.set i (.own (.lst (ds.set n z)))) := by
  have hn : n < ds.length := by
    rcases Nat.lt_or_ge n ds.length with h | h
    · exact h
    · rw [List.getElem?_eq_none h] at h3; cases h3
  have e1 : atI ds (n : Int) = some old := by rw [atI_cast, h3]
  have e2 : ixN ds.length (n : Int) = some n := ixN_nn _ _ (by omega) (by omega)
  unfold augIS
  rw [h1]
  simp [h2, e1, e2, h4, h5]
end
end
end DL
/-! DL15: defs that hand back a pair whose first part is a new list; the list behind it changed by told[0].append. -/
namespace DL
noncomputable section
open PySem PySem.Spec PyProof.Rows L2
abbrev FP := List PyData → Out (List PyData × PyData)
def rP (K : PySem.W.Frag) (H : Hp) (Q : VK) : (List PyData × PyData) → Hp → Hp → Prop := fun x G' H' => ∀ t p vs v, G' t = some (.tup [.ref p, v]) → H p = none → G' p = none → H' p = some (.lst vs) → DqAll K G' vs x.1 → Dq K G' v x.2 → Q (.ref t) H'
def spP (K : PySem.W.Frag) (mg : Str → Option Value) (F : FP) : Sp := fun vs H Q E => ∃ G ds, Same G H ∧ DqAll K G vs ds ∧ PostO mg (wE E) [] G H (rP K H Q) (F ds)
def PostP (K : PySem.W.Frag) (D : Ends) (H0 G0 G : Hp) : Out (List PyData × PyData) → Prop
  | .ok x => ∀ t p vs v G' H', Same G G' → Ext G0 H0 G' H' → G' t = some (.tup [.ref p, v]) → H0 p = none → G' p = none → H' p = some (.lst vs) → DqAll K G' vs x.1 → Dq K G' v x.2 → D.rt (.ref t) H'
  | _ => False
def tP (K : PySem.W.Frag) (m : Ro → Out (List PyData × PyData)) : TS := fun D σ H => ∃ H0 G0 G ρ, Rel K H0 G0 G ρ σ H ∧ PostP K D H0 G0 G (m ρ)
def DSP (X : Cx) (_W : WX) (sts : List Stmt) (m : Ro → Out (List PyData × PyData)) : Prop := PSs X sts (tP X.K m)
theorem PostP.mono {K : PySem.W.Frag} {D : Ends} {H0 G0 G G' : Hp} {o : Out (List PyData × PyData)} (s : Same G G') (h : PostP K D H0 G0 G o) : PostP K D H0 G0 G' o := by
  cases o with
  | ok x => exact fun t p vs v G2 H2 e => h t p vs v G2 H2 (s.trans e)
  | no => exact h
  | ex c => exact h
def seqP (ms : MS) (mr : Ro → Out (List PyData × PyData)) : Ro → Out (List PyData × PyData) := fun ρ => match ms ρ with
  | .nx ρ' => mr ρ'
  | _ => .no
def retP (i : Nat) (me : MD) : Ro → Out (List PyData × PyData) := fun ρ => match ρ[i]? with
  | some (.own (.lst ds)) => me ρ >>= fun d => .ok (ds, d)
  | _ => .no
section
variable {X : Cx} {W : WX} {e : Expr} {es : List Expr} {st : Stmt} {rest : List Stmt} {ms : MS} {me : MD} {mr : Ro → Out (List PyData × PyData)} {ml : ML} {x f : Str} {p pos p2 p3 p4 : Pos} {k : Nat}
theorem dsp_cons (h1 : DS X W st ms) (h2 : DSP X W rest mr) : DSP X W (st :: rest) (seqP ms mr) := pss_imp (pss_cons h1 h2) fun D σ H ⟨H0, G0, G, ρ, r, h⟩ => by
  unfold seqP at h
  refine ⟨H0, G0, G, ρ, r, ?_⟩
  cases q : ms ρ with
  | nx ρ' =>
    rw [q] at h
    exact fun σ' G' H' s r' => ⟨H0, G0, G', ρ', r', PostP.mono s h⟩
  | _ => rw [q] at h; exact h.elim
theorem dsp_ret {x1} (i : Nat) (he : DE X W e me) (hN : X.N[i]? = some x := by rfl) (hv : Vis X.env.scope x := by first | exact Or.inl rfl | exact Or.inr (Or.inl rfl) | exact Or.inr (Or.inr rfl)) (hd : (x == ("__debug__" : Str)) = false := by decide) (hcd : (x == ("__classdict__" : Str)) = false := by decide)
    (hs : starEach [.Name x p, e] X.env = (false, eval (.Name x p) X.env) :: starEach [e] X.env := by rfl) (hs2 : starEach [e] X.env = (false, eval e X.env) :: starEach [] X.env := by rfl) : DSP X W [.Return (some (.Tuple [.Name x p, e] x1 p2)) pos] (retP i me) :=
  pss_imp (pss_one (ps_ret (pe_tup (pa_cons (pe_var hN hv hd hcd) (pa_cons he pa_nil hs2) hs)))) fun D σ H ⟨H0, G0, G, ρ, r, h⟩ => by
    unfold retP at h
    split at h
    · rename_i ds q
      obtain ⟨a1, u, es, hp, ho, hg, h0⟩ := r.getOwn q
      obtain ⟨vs, rfl, hvs⟩ := ho.isLst
      cases qe : me ρ with
      | no => rw [qe] at h; exact h.elim
      | ex c => rw [qe] at h; exact h.elim
      | ok d =>
        rw [qe] at h
        refine ⟨.ref a1, es, H0, G0, G, ρ, r, ?_⟩
        rw [qe]
        intro G1 H1 x1 v hv
        refine ⟨by show 2 ≤ sizeLine; rw [sizeLine_eq]; decide, fun t ht => ?_⟩
        have ht1 := x1.gh.free ht
        have pne : a1 ≠ t := by
          rintro rfl
          rw [x1.h _ _ hp] at ht
          cases ht
        have x2 : Ext G1 H1 (upd G1 t (.tup [.ref a1, v])) (upd H1 t (.tup [.ref a1, v])) := Ext.new x1.gh ht
        refine h t a1 vs v _ _ (x1.g.trans x2.g) (r.ext.trans (x1.trans x2)) upd_same h0 ?_ ?_ (dpAll_mono (x1.g.trans x2.g) hvs) (dp_mono x2.g hv)
        · rw [upd_ne pne]; exact x1.fr a1 hg (by rw [hp]; simp)
        · rw [upd_ne pne]; exact x1.h _ _ hp
    · exact h.elim
end
def runP (np n : Nat) (m : Ro → Out (List PyData × PyData)) (ds : List PyData) : Out (List PyData × PyData) := if ds.length = np then (match m (start0 n ds) with
  | .ok x => .ok x
  | _ => .no) else .no
section
variable {P : Program} {w : World} {K : PySem.W.Frag} {mg : Str → Option Value} {base : Heap}
theorem fun_P {x qual : Str} {st : Stmt} {f : Addr} {fd : FuncData} {N ps : List Str} {k : Nat} {m : Ro → Out (List PyData × PyData)} (Fu : Fun K x qual st f fd) (S : FnScope N ps (defScope st))
    (hb : ∀ (cdv : Value) (A : Around) (outer : List Env) (s : Shared) (H : Hp) (E : XK), Room k (A.deeper (envOfC qual (defScope st) s.heap.objs.size f cdv)) → DSP (cxOf (L2.CX P w) P w K mg base N qual (defScope st) f cdv A outer s H E) (wE E) (defBody st) m) :
    FnOk P w K mg base (L2.CX P w) (k + 1) f fd ps (spP K mg (runP ps.length N.length m)) := by
  refine Fu.okX S (fun vs H Q E h => ?_) fun cdv A outer s H vs Q E hr h => ⟨_, hb cdv A outer s H E hr, ?_⟩
  · obtain ⟨G, ds, s, hd, h⟩ := h
    unfold runP at h
    split at h
    · rename_i hc
      rw [dpAll_len hd]; exact hc
    · exact h.elim
  · obtain ⟨G, ds, sg, hd, h⟩ := h
    refine ⟨H, G, G, _, start_rel (ps := ps) sg hd, ?_⟩
    unfold runP at h
    split at h
    · rename_i hc
      cases q : m (start0 N.length ds) with
      | no => rw [q] at h; exact h.elim
      | ex c => rw [q] at h; exact h.elim
      | ok z => rw [q] at h; exact fun t p vs' v G' H' _ x ht hn hg hp hv he => h G' H' x t p vs' v ht hn hg hp hv he
    · exact h.elim
/-- the pair as data -/
def asPair (F : FP) : FD := fun ds => F ds >>= fun z => .ok (.tuple [.list z.1, z.2])
theorem Cal.pair {x : Str} {ps : List Str} {k : Nat} {F : FP} (C : Cal P w K mg base k x ps (spP K mg F)) : Cal P w K mg base k x ps (spD K mg (asPair F)) := by
  obtain ⟨f, fd, a, b, c, d⟩ := C.ex
  refine ⟨f, fd, a, b, c, d.imp fun vs H Q E ⟨G, ds, s, hd, q⟩ => ⟨G, ds, s, hd, ?_⟩⟩
  unfold asPair at q
  cases e : F ds with
  | no => rw [e] at q; exact q.elim
  | ex c => rw [e] at q; exact q
  | ok z =>
    rw [e] at q
    intro G' H' x t p vs v ht hn hg hp hv he
    have sg : Same G' (upd G' p (.lst vs)) := same_upd hg
    have tne : t ≠ p := by rintro rfl; rw [ht] at hg; cases hg
    refine q (upd G' p (.lst vs)) H' (x.freeze hn hp hg) (.ref t) (.tup (.inl (.inl (show (upd G' p (HO.lst vs)) t = _ from (upd_ne tne).trans ht))) (.cons (.lst (Rd.of upd_same) (dpAll_mono sg hv)) (.cons (dp_mono sg he) .nil)))
end
/-! ### told = f(..); if ..: return ..; told[0].append(n) -/
def onlyRt : Fl → Fl
  | .rt d => .rt d
  | _ => .no
def toldS (i : Nat) (mf : Ro → Out (List PyData × PyData)) (mt : MB) (mr : MS) : MS := fun ρ => if i < ρ.length then (match mf ρ with
  | .ok x => match mt (ρ.set i (.sh (.tuple [.list x.1, x.2]))) with
    | .ok true => onlyRt (mr (ρ.set i (.sh (.tuple [.list x.1, x.2]))))
    | .ok false => if x.1.length < sizeLine then .nx (ρ.set i .un) else .no
    | _ => .no
  | _ => .no) else .no
theorem Rel.other {K : PySem.W.Frag} {H0 G0 G H : Hp} {ρ : Ro} {σ : L2.St} {p : Addr} {u : HO} (r : Rel K H0 G0 G ρ σ H) (hg : G p = none) (h0 : H0 p = none) (hd : ∀ (j : Nat) (c : Ob), ρ[j]? = some (Sl.own c) → σ[j]? ≠ some (some (V.ref p))) : Rel K H0 G0 G ρ σ (upd H p u) := by
  refine ⟨⟨r.ext.g, fun a o q => ?_, fun a o q => ?_, r.ext.fr⟩, r.len, fun j s q => ?_, r.di⟩
  · rw [upd_ne (ne_of_none q h0)]; exact r.ext.h a o q
  · rw [upd_ne (ne_of_none q hg)]; exact r.ext.gh a o q
  · obtain ⟨o, a, z⟩ := r.sl j s q
    refine ⟨o, a, ?_⟩
    cases s with
    | un => trivial
    | sh d => exact z
    | own c =>
      obtain ⟨p', w, rfl, hp', ho', hg', h0'⟩ := z
      refine ⟨p', w, rfl, ?_, ho', hg', h0'⟩
      have : p' ≠ p := by
        rintro rfl
        exact hd j c q a
      rw [upd_ne this]; exact hp'
section
variable {X : Cx} {W : WX} {e : Expr} {es : List Expr} {body : List Stmt} {mt : MB} {mr : MS} {ml : ML} {x f : Str} {p pos p2 p3 p4 p5 p6 p7 p8 p9 : Pos} {k : Nat} {ps : List Str} {F : FP} {c : Expr}
theorem dss_told {ap cp : Pos} {n : Int} (i : Nat) (C : Cal X.prog X.w X.K X.mg X.base k f ps (spP X.K X.mg F)) (hr : Room k X.A) (tk : Takes X W) (ha : DA X W (e :: es) ml) (ht : DT X W c mt) (hb : DSs X W body mr)
    (hND : X.N.Nodup) (hN : X.N[i]? = some x := by rfl) (hx : Loc X.env.scope x := by first | exact Or.inl rfl | exact Or.inr rfl) (hf : X.fn x = true ∨ X.env.scope.names.lookup x = some .local := by first | exact .inl rfl | exact .inr rfl)
    (hv : Vis X.env.scope x := by first | exact Or.inl rfl | exact Or.inr (Or.inl rfl) | exact Or.inr (Or.inr rfl)) (hd : (x == ("__debug__" : Str)) = false := by decide) (hcd : (x == ("__classdict__" : Str)) = false := by decide)
    (hg : Gl X f := by rfl) (hdb : (f == ("__debug__" : Str)) = false := by decide)
    (he : starEach (e :: es) X.env = (false, eval e X.env) :: starEach es X.env := by rfl) (hpl : (backTo p3 (starEach es X.env)).any (·.1) = false := by rfl)
    (hs : swapsWith (.Call (.Name f p2) (e :: es) [] p3) (some (.Name x p)) pos.line X.env = pure false := by rfl)
    (hbase : attributeBase (.Subscript (.Name x p4) (.Constant (.int 0) 0 p5) p6) "append" X.env (eval (.Subscript (.Name x p4) (.Constant (.int 0) 0 p5) p6) X.env) = eval (.Subscript (.Name x p4) (.Constant (.int 0) 0 p5) p6) X.env := by rfl)
    (hfew : ((backTo cp (starEach [.Constant (.int n) 0 p7] X.env)).all (fun x => !x.1) && (backToKw cp (keywordEach [] X.env)).all (fun x => x.1.isSome)
      && decide (([.Constant (.int n) 0 p7] : List Expr).length + ([] : List Keyword).length + (if ([] : List Keyword).isEmpty then 0 else 1) < 30)) = true := by rfl)
    (hline : (ap.endLine == cp.line) = true := by rfl) (hs1 : starEach [.Constant (.int n) 0 p7] X.env = (false, eval (.Constant (.int n) 0 p7) X.env) :: starEach [] X.env := by rfl) (hplain : (backTo cp (starEach [] X.env)).any (·.1) = false := by rfl)
    (hsw : swapsWith (.Call (.Attribute (.Subscript (.Name x p4) (.Constant (.int 0) 0 p5) p6) "append" ap) [.Constant (.int n) 0 p7] [] cp) none p9.line X.env = pure false := by rfl) :
    DSs X W [.Assign [.Name x p] (.Call (.Name f p2) (e :: es) [] p3) pos, .If c body [] p8, .Expr (.Call (.Attribute (.Subscript (.Name x p4) (.Constant (.int 0) 0 p5) p6) "append" ap) [.Constant (.int n) 0 p7] [] cp) p9]
      (toldS i (fun ρ => ml ρ >>= F) mt mr) := by
  obtain ⟨fa, fd, hm, hk, hbi, hF⟩ := C.ex
  have s1 := ps_set hND hN hx (pe_callS hF hr hg hm hk hbi (fun σ => passAt tk σ) ha hdb he hpl) hs hf
  have s2 := ps_if (pos := p8) ht hb (pss_nil (X := X))
  have s3 := ps_expr (pe_bm PySem.F.plainAttrs_list PySem.F.slot_list_append PySem.F.type_list_append mt_append (pe_ix ix_tup (pe_var hN hv hd hcd) pe_int (fun _ _ => rfl)) (pa_cons pe_int pa_nil hs1) hbase hfew hline hs1 hplain) hsw
  refine pss_imp (pss_cons s1 (pss_cons s2 (pss_one s3))) fun D σ H ⟨H0, G0, G, ρ, r, h⟩ => ?_
  unfold toldS at h
  split at h
  case isFalse => exact h.elim
  rename_i hil0
  dsimp only at h
  cases q : ml ρ with
  | no => rw [q] at h; exact h.elim
  | ex c => rw [q] at h; exact h.elim
  | ok ds =>
    rw [q] at h
    have h : PostF X.K X.mg W D H0 G0 G (match F ds with
      | .ok x => match mt (ρ.set i (.sh (.tuple [.list x.1, x.2]))) with
        | .ok true => onlyRt (mr (ρ.set i (.sh (.tuple [.list x.1, x.2]))))
        | .ok false => if x.1.length < sizeLine then .nx (ρ.set i .un) else .no
        | _ => .no
      | _ => .no) := h
    cases qF : F ds with
    | no => rw [qF] at h; exact h.elim
    | ex c => rw [qF] at h; exact h.elim
    | ok z =>
      rw [qF] at h
      have h : PostF X.K X.mg W D H0 G0 G (match mt (ρ.set i (.sh (.tuple [.list z.1, z.2]))) with
        | .ok true => onlyRt (mr (ρ.set i (.sh (.tuple [.list z.1, z.2]))))
        | .ok false => if z.1.length < sizeLine then .nx (ρ.set i .un) else .no
        | _ => .no) := h
      refine ⟨H0, G0, G, ρ, r, ?_⟩
      rw [q]
      intro G1 H1 x1 vs hvs
      refine ⟨G1, ds, x1.gh, hvs, ?_⟩
      rw [qF]
      intro G2 H2 x2 t pp ls v ht hn hgp hp hls hve
      have x12 := x1.trans x2
      have hHp : H pp = none := x1.h.free hn
      have h0p : H0 pp = none := r.ext.h.free hHp
      have r2 := r.step x12
      have r3 : Rel X.K H0 G0 (upd G2 pp (.lst ls)) ρ σ H2 := r.step (x12.freeze hHp hp hgp)
      have sg : Same G2 (upd G2 pp (.lst ls)) := same_upd hgp
      have tne : t ≠ pp := by rintro rfl; rw [ht] at hgp; cases hgp
      have r4 := r3.set (i := i) (v := .ref t) (d := .tuple [.list z.1, z.2]) (.tup (.inl (.inl (show (upd G2 pp (HO.lst ls)) t = _ from (upd_ne tne).trans ht))) (.cons (.lst (Rd.of upd_same) (dpAll_mono sg hls)) (.cons (dp_mono sg hve) .nil)))
      have r5 := r2.drop (i := i) (o := some (.ref t))
      have hil : i < σ.length := by rw [← r.len]; exact hil0
      refine ⟨H0, G0, _, _, r4, ?_⟩
      cases qt : mt (ρ.set i (.sh (.tuple [.list z.1, z.2]))) with
      | no => rw [qt] at h; exact h.elim
      | ex c => rw [qt] at h; exact h.elim
      | ok b =>
        rw [qt] at h
        intro G3 H3 x3
        cases b with
        | true =>
          have h : PostF X.K X.mg W D H0 G0 G (onlyRt (mr (ρ.set i (.sh (.tuple [.list z.1, z.2]))))) := h
          refine ⟨H0, G0, G3, _, r4.step x3, ?_⟩
          cases qm : mr (ρ.set i (.sh (.tuple [.list z.1, z.2]))) with
          | rt d =>
            rw [qm] at h
            exact fun v G' H' s' x' hv' => h v G' H' ((x12.g.trans (sg.trans x3.g)).trans s') x' hv'
          | _ => rw [qm] at h; exact h.elim
        | false =>
          have h : PostF X.K X.mg W D H0 G0 G (if z.1.length < sizeLine then .nx (ρ.set i .un) else .no) := h
          split at h
          · rename_i hz
            have x5 : Ext G2 H2 G2 H3 := ⟨.refl _, x3.h, (sg.trans x3.g).trans x3.gh, fun _ e _ => e⟩
            have r6 := r5.step x5
            have hp3 := x3.h _ _ hp
            have eσ : (σ.set i (some (.ref t)))[i]? = some (some (V.ref t)) := List.getElem?_set_self hil
            have tH : H3 t = some (.tup [.ref pp, v]) := x5.gh _ _ ht
            have z2 : ls.length < sizeLine := by rw [dpAll_len hls]; exact hz
            refine ⟨.ref t, eσ, t, [.ref pp, v], 0, .ref pp, rfl, rfl, .inl (.inl tH), rfl, .inl ⟨rfl, ls, SqL.of hp3⟩, pp, ls, .int n, rfl, rfl, hp3, z2, ?_⟩
            have r7 : Rel X.K H0 G0 G2 (ρ.set i .un) (σ.set i (some (.ref t))) (upd H3 pp (.lst (ls ++ [.int n]))) := r6.other hgp h0p fun j c e1 e2 => by
              have hji : i ≠ j := by
                rintro rfl
                rw [List.getElem?_set_self hil0] at e1
                cases e1
              rw [List.getElem?_set_ne hji] at e1 e2
              obtain ⟨p', u, es', hp', _⟩ := r.getOwn e1
              rw [e2] at es'
              cases es'
              rw [hHp] at hp'
              cases hp'
            exact h _ G2 _ x12.g r7
          · exact h.elim
end
end
end DL
/-! DL16: fractions as data; copies of lists of ours. -/
namespace DL
noncomputable section
open PySem PySem.Spec PyProof.Rows L2
def fq (r : Rat) : PyData := .tuple [.int r.num, .int (r.den : Int)]
theorem shK_fq (r : Rat) : ShK 1 (fq r) := shK_pd (r.num, (r.den : Int))
@[simp] theorem shaped_fq (r : Rat) : SeqAt.shaped (fq r) = true := (shK_fq r).shaped (by decide)
@[simp] theorem ix_fq0 (r : Rat) : ixD (fq r) (.int 0) = .ok (.int r.num) := rfl
@[simp] theorem ix_fq1 (r : Rat) : ixD (fq r) (.int 1) = .ok (.int (r.den : Int)) := rfl
theorem fq_inj {r s : Rat} : ((r.num, (r.den : Int)) : Pt) = (s.num, (s.den : Int)) ↔ r = s := by
  constructor
  · intro h
    have h1 := congrArg Prod.fst h
    have h2 := congrArg Prod.snd h
    exact Rat.ext h1 (by exact Int.ofNat_inj.mp h2)
  · rintro rfl
    rfl
@[simp] theorem eqD_fq (r s : Rat) : eqD (fq r) (fq s) = .ok (.bool (decide (r = s))) := by
  have h := eqD_pd (r.num, (r.den : Int)) (s.num, (s.den : Int))
  have e : decide (((r.num, (r.den : Int)) : Pt) = (s.num, (s.den : Int))) = decide (r = s) := decide_eq_decide.mpr fq_inj
  rw [e] at h
  exact h
@[simp] theorem neD_fq (r s : Rat) : neD (fq r) (fq s) = .ok (.bool (!decide (r = s))) := by
  have e : PyData.eqv (fq r) (fq s) = decide (r = s) := (eqv_pd (r.num, (r.den : Int)) (s.num, (s.den : Int))).trans (decide_eq_decide.mpr fq_inj)
  unfold neD
  rw [shaped_fq, shaped_fq, e]
  rfl
theorem divInt_le {a b c d : Int} (hb : 0 < b) (hd : 0 < d) : Rat.divInt a b ≤ Rat.divInt c d ↔ a * d ≤ c * b := by
  rw [Rat.le_iff_sub_nonneg, Rat.divInt_sub_divInt _ _ (by omega) (by omega), Rat.divInt_nonneg_iff_of_pos_right (Int.mul_pos hd hb)]
  omega
theorem divInt_lt {a b c d : Int} (hb : 0 < b) (hd : 0 < d) : Rat.divInt a b < Rat.divInt c d ↔ a * d < c * b := by
  rw [← Rat.not_le, divInt_le hd hb]
  omega
theorem slD_tuple (ds : List PyData) (lo hi : Option Int) : slD (.tuple ds) lo hi = if HT.sIx ds.length 0 lo = 0 ∧ HT.sIx ds.length ds.length hi = ds.length then .ok (.tuple ds) else .ok (.tuple (cutD ds lo hi)) := rfl
theorem addD_tuple (i j : List PyData) : addD (.tuple i) (.tuple j) = if i.length + j.length ≤ sizeLine ∧ i ≠ [] ∧ j ≠ [] then .ok (.tuple (i ++ j)) else .no := rfl
theorem runP_ok {np n : Nat} {m : Ro → Out (List PyData × PyData)} {vs : List PyData} {x : List PyData × PyData} (h : m (start0 n vs) = .ok x) (hl : vs.length = np) : runP np n m vs = .ok x := by
  unfold runP
  rw [if_pos hl, h]
theorem divOk_p {j : Int} {k : Nat} (h1 : 0 < j) (h2 : j.natAbs < 2 ^ k) (hk : k ≤ 9000) : divOk j := ⟨h1, by
  rcases Nat.eq_zero_or_pos k with h0 | h0
  · subst h0
    simp at h2
    omega
  · have := PySem.Flt.log2_lt_of h0 h2
    omega⟩
theorem mulOk_p {i j : Int} {k : Nat} (hk : k ≤ 4000) (h1 : i.natAbs < 2 ^ k) (h2 : j.natAbs < 2 ^ k) : mulOk i j := by
  rcases Nat.eq_zero_or_pos k with h0 | h0
  · subst h0
    have : i = 0 := by simp at h1; omega
    subst this
    exact mulOk_ll (by decide) (by decide)
  · refine .inr ?_
    have a1 := PySem.Flt.log2_lt_of h0 h1
    have a2 := PySem.Flt.log2_lt_of h0 h2
    unfold CMulW
    first | exact ⟨by omega, by omega⟩ | omega
section
variable {X : Cx} {W : WX} {p pos : Pos} {x : Str}
/-- list(x), x a list of ours: a copy -/
def ownF (i : Nat) : ML := fun ρ => match ρ[i]? with
  | some (.own (.lst ds)) => .ok ds
  | _ => .no
theorem df_ownF (i : Nat) (hm : X.mg "list" = none) (hN : X.N[i]? = some x := by rfl) (hv : Vis X.env.scope x := by first | exact Or.inl rfl | exact Or.inr (Or.inl rfl) | exact Or.inr (Or.inr rfl)) (hd : (x == ("__debug__" : Str)) = false := by decide)
    (hcd : (x == ("__classdict__" : Str)) = false := by decide) (hg : Gl X "list" := by rfl) (he : starEach [.Name x p] X.env = (false, eval (.Name x p) X.env) :: starEach [] X.env := by rfl) (hpl : (backTo pos (starEach [] X.env)).any (·.1) = false := by rfl) {p2 : Pos} : DF X W (.Call (.Name "list" p2) [.Name x p] [] pos) (ownF i) := by
  refine pe_imp (pe_callTy call_list_of hg hm bt_list (pa_cons (pe_var hN hv hd hcd) pa_nil he) (by decide) (by decide) he hpl) fun σ H Q ⟨H0, G0, G, ρ, r, h⟩ => ?_
  unfold ownF at h
  split at h
  · rename_i ds q
    obtain ⟨a1, u, es, hp, ho, hg, h0⟩ := r.getOwn q
    obtain ⟨vs, rfl, hvs⟩ := ho.isLst
    exact ⟨.ref a1, es, a1, vs, rfl, .inl (SqL.of hp), fun l hl => post_newF r.gh h hvs hl⟩
  · exact h.elim
theorem ownF_go {i : Nat} {ρ : Ro} {ds : List PyData} (h : ρ[i]? = some (.own (.lst ds))) : ownF i ρ = .ok ds := by
  unfold ownF
  rw [h]
theorem ownIx_go {i n : Nat} {ρ : Ro} {ds : List PyData} {m : MD} {d : PyData} (h : ρ[i]? = some (.own (.lst ds))) (h2 : m ρ = .ok (.int (n : Nat))) (h3 : ds[n]? = some d) : ownIx i m ρ = .ok d := by
  have e1 : atI ds (n : Int) = some d := by rw [atI_cast, h3]
  unfold ownIx
  rw [h]
  simp [h2, ixL, e1]
theorem setIS_go {i n : Nat} {ρ : Ro} {ds : List PyData} {mi mv : MD} {v : PyData} (h : ρ[i]? = some (.own (.lst ds))) (h1 : mv ρ = .ok v) (h2 : mi ρ = .ok (.int (n : Nat))) (h3 : n < ds.length) : setIS i mi mv ρ = .nx (ρ.set i (.own (.lst (ds.set n v)))) := by
  have e2 : ixN ds.length (n : Int) = some n := ixN_nn _ _ (by omega) (by omega)
  unfold setIS
  rw [h]
  simp [h1, h2, e2]
theorem appS_go {i : Nat} {ρ : Ro} {ds : List PyData} {m : MD} {d : PyData} (h : ρ[i]? = some (.own (.lst ds))) (h1 : m ρ = .ok d) (h2 : ds.length ≤ 16000000) : appS i m ρ = .nx (ρ.set i (.own (.lst (ds ++ [d])))) := by
  have hz : ds.length < sizeLine := sizes' (by omega)
  unfold appS
  rw [h]
  simp [h1, hz]
end
end
end DL
/-! DL17: lists of whole numbers as data. -/
namespace DL
noncomputable section
open PySem PySem.Spec PyProof.Rows L2
def nl (l : List Nat) : List PyData := l.map fun (k : Nat) => PyData.int (k : Int)
def il (l : List Int) : List PyData := l.map PyData.int
theorem il_set (l : List Int) (k : Nat) (v : Int) : (il l).set k (.int v) = il (l.set k v) := by unfold il; rw [List.map_set]
theorem il_snoc (l : List Int) (v : Int) : il l ++ [.int v] = il (l ++ [v]) := by unfold il; rw [List.map_append]; rfl
theorem il_app (l m : List Int) : il l ++ il m = il (l ++ m) := by unfold il; rw [List.map_append]
theorem il_rev (l : List Int) : (il l).reverse = il l.reverse := (List.map_reverse ..).symm
theorem il_len (l : List Int) : (il l).length = l.length := by unfold il; rw [List.length_map]
theorem il_sum (l : List Int) : sumD [.list (il l)] = .ok (.int l.sum) := sumD_ints l
theorem il_at (l : List Int) (k : Nat) : (il l)[k]? = (l[k]?).map .int := by unfold il; rw [List.getElem?_map]
theorem il_nil : il [] = [] := rfl
theorem il_cons (i : Int) (l : List Int) : il (i :: l) = .int i :: il l := rfl
theorem il_take (l : List Int) (k : Nat) : (il l).take k = il (l.take k) := (List.map_take ..).symm
theorem il_drop (l : List Int) (k : Nat) : (il l).drop k = il (l.drop k) := (List.map_drop ..).symm
theorem nl_cons (k : Nat) (l : List Nat) : nl (k :: l) = .int (k : Int) :: nl l := rfl
theorem nl_range (n : Nat) : rangeL 0 n = nl (List.range n) := by
  unfold rangeL nl
  exact List.map_congr_left fun i _ => by rw [Int.zero_add]
theorem nl_range2 (a n : Nat) : rangeL a n = nl (List.range' a n) := by
  unfold rangeL nl
  rw [List.range'_eq_map_range, List.map_map]
  exact List.map_congr_left fun i _ => by
    show PyData.int ((a : Int) + (i : Nat)) = PyData.int (((a + i : Nat)) : Int)
    rw [Int.natCast_add]
theorem shK_il (l : List Int) : ShK 1 (.list (il l)) := shK_list fun d hd => by
  obtain ⟨i, _, rfl⟩ := List.mem_map.mp hd
  exact shK_int i
@[simp] theorem shaped_il (l : List Int) : SeqAt.shaped (.list (il l)) = true := (shK_il l).shaped (by decide)
theorem eqvAll_il : ∀ a b : List Int, PyData.eqvAll (il a) (il b) = decide (a = b)
  | [], [] => by simp [il, PyData.eqvAll]
  | [], _ :: _ => by simp [il, PyData.eqvAll]
  | _ :: _, [] => by simp [il, PyData.eqvAll]
  | x :: a, y :: b => by
    rw [il_cons, il_cons, PyData.eqvAll, eqvAll_il a b]
    simp only [PyData.eqv]
    by_cases h1 : x = y <;> by_cases h2 : a = b <;> simp [h1, h2]
@[simp] theorem eqD_il (a b : List Int) : eqD (.list (il a)) (.list (il b)) = .ok (.bool (decide (a = b))) := by
  unfold eqD
  rw [shaped_il, shaped_il]
  simp [PyData.eqv, eqvAll_il]
@[simp] theorem neD_il (a b : List Int) : neD (.list (il a)) (.list (il b)) = .ok (.bool (!decide (a = b))) := by
  unfold neD
  rw [shaped_il, shaped_il]
  simp [PyData.eqv, eqvAll_il]
/-- a list by a function of the places -/
def fl (n : Nat) (c : Nat → Int) : List Int := (List.range n).map c
theorem fl_len (n : Nat) (c : Nat → Int) : (fl n c).length = n := by simp [fl]
theorem fl_at {n : Nat} {c : Nat → Int} {k : Nat} (h : k < n) : (fl n c)[k]? = some (c k) := by simp [fl, h]
theorem fl_set {n : Nat} {c : Nat → Int} {k : Nat} (v : Int) : (fl n c).set k v = fl n fun j => if j = k then v else c j := by
  unfold fl
  apply List.ext_getElem
  · simp
  · intro i h1 h2
    rw [List.getElem_set]
    simp only [List.getElem_map, List.getElem_range]
    by_cases h : i = k
    · rw [if_pos h.symm, if_pos h]
    · rw [if_neg (fun e => h e.symm), if_neg h]
theorem fl_of {l : List Int} : l = fl l.length fun k => l.getD k 0 := by
  unfold fl
  apply List.ext_getElem
  · simp
  · intro i h1 h2
    simp [h1]
theorem fl_congr {n : Nat} {c d : Nat → Int} (h : ∀ k, k < n → c k = d k) : fl n c = fl n d := List.map_congr_left fun k hk => h k (List.mem_range.mp hk)
def sm (n : Nat) (c : Nat → Int) : Int := (fl n c).sum
theorem sm_succ (n : Nat) (c : Nat → Int) : sm (n + 1) c = sm n c + c n := by
  unfold sm fl
  rw [List.range_succ, List.map_append, List.sum_append]
  simp
theorem sm_zero (c : Nat → Int) : sm 0 c = 0 := rfl
theorem sm_le {c d : Nat → Int} : ∀ (n : Nat), (∀ j, j < n → c j ≤ d j) → sm n c ≤ sm n d
  | 0, _ => Int.le_refl _
  | n + 1, h => by
    rw [sm_succ, sm_succ]
    have := sm_le n fun j hj => h j (by omega)
    have := h n (by omega)
    omega
theorem sm_lt {c d : Nat → Int} : ∀ (n : Nat), (∀ j, j < n → c j ≤ d j) → (∃ j, j < n ∧ c j < d j) → sm n c < sm n d
  | 0, _, ⟨j, hj, _⟩ => by omega
  | n + 1, h, ⟨j, hj, hc⟩ => by
    rw [sm_succ, sm_succ]
    have h1 := sm_le n fun j hj => h j (by omega)
    have h2 := h n (by omega)
    by_cases e : j = n
    · subst e; omega
    · have := sm_lt n (fun j hj => h j (by omega)) ⟨j, by omega, hc⟩
      omega
theorem sm_upd {c : Nat → Int} {b : Nat} : ∀ (n : Nat), sm n (fun j => if j = b then c j + 1 else c j) = sm n c + if b < n then 1 else 0
  | 0 => by simp [sm_zero]
  | n + 1 => by
    rw [sm_succ, sm_succ, sm_upd n]
    by_cases h : n = b
    · rw [if_pos h, if_neg (by omega), if_pos (by omega)]; omega
    · rw [if_neg h]
      by_cases h2 : b < n
      · rw [if_pos h2, if_pos (by omega)]; omega
      · rw [if_neg h2, if_neg (by omega)]; omega
end
end DL
/-! DL18: the law's own frame, where no repr is under way: repr of data. -/
namespace DL
noncomputable section
open PySem PySem.Spec PyProof.Rows L2
/-- a promise kept where no repr is under way -/
structure GOk (P : Program) (w : World) (K : PySem.W.Frag) (mg : Str → Option Value) (base : Heap) (C : CXT) (k : Nat) (f : Addr) (fd : FuncData) (ps : List Str) (sp : Sp) : Prop where
  len : ∀ vs H Q E, sp vs H Q E → vs.length = ps.length
  run : ∀ (A : Around) (up : List Env) (s : Shared) (H : Hp) (ar : Args) (us : List Value) (vs : List V) (Q : VK) (E : XK), A.guards = some [] → Room k A → Env0 P w K mg base A up s H → BindsTo s fd ar (ps.zip us) → Vals vs us → sp vs H Q E →
    codeAny (model P w) A (.call (.ref f) ar) (CR C up P w H s Q E) s
theorem GOk.imp {P : Program} {w : World} {K : PySem.W.Frag} {mg : Str → Option Value} {base : Heap} {C : CXT} {k : Nat} {f : Addr} {fd : FuncData} {ps : List Str} {sp sp' : Sp} (g : GOk P w K mg base C k f fd ps sp) (h : ∀ vs H Q E, sp' vs H Q E → sp vs H Q E) : GOk P w K mg base C k f fd ps sp' :=
  ⟨fun vs H Q E q => g.len vs H Q E (h _ _ _ _ q), fun A up s H ar us vs Q E a b c d e q => g.run A up s H ar us vs Q E a b c d e (h _ _ _ _ q)⟩
section
variable {P : Program} {w : World} {K : PySem.W.Frag} {mg : Str → Option Value} {base : Heap}
theorem gok_of {x qual : Str} {st : Stmt} {f : Addr} {fd : FuncData} {N ps : List Str} {k : Nat} {sp : Sp} (Fu : Fun K x qual st f fd) (S : FnScope N ps (defScope st)) (len : ∀ vs H Q E, sp vs H Q E → vs.length = ps.length)
    (body : ∀ (cdv : Value) (A : Around) (up : List Env) (s : Shared) (H : Hp) (vs : List V) (Q : VK) (E : XK), (A.deeper (envOfC qual (defScope st) s.heap.objs.size f cdv)).guards = some [] → Room k (A.deeper (envOfC qual (defScope st) s.heap.objs.size f cdv)) → sp vs H Q E →
      ∃ t, PSs (cxOf (L2.CX P w) P w K mg base N qual (defScope st) f cdv A up s H E) (defBody st) t ∧ t { nx := fun _ H' => Q .non H', rt := Q } (L2.start N vs) H) : GOk P w K mg base (L2.CX P w) (k + 1) f fd ps sp := by
  obtain ⟨oc, od, kV, doc, pm, an, cdv, ct, osl, rfl, lk, hcode⟩ := Fu.ex
  refine ⟨len, fun A up s H ar us vs Q E hgu room env0 bind rel spq => ?_⟩
  have nv := len vs H Q E spq
  have stays : ∀ {b : Addr} {o : Obj}, base.get? b = some o → s.heap.get? b = some o := fun e => (env0.bs _ _ e).1
  have inH : K.In s.heap := env0.mod.kin.keeps fun _ _ e => stays e
  have noLim : s.heap.NoLimit := env0.mod.nolimit.keeps fun _ _ e => stays e
  have kinds : ∀ y ∈ ps.zip us, (defScope st).names.lookup y.1 = some .local ∨ ((defScope st).names.lookup y.1 = some .cell ∧ ((cellsFrom (s.heap.objs.size + 1) (defScope st).names []).lookup y.1).isSome = true) := by
    rintro ⟨nm, vv⟩ hy
    exact (S.par nm (List.of_mem_zip hy).1).imp (fun q => q) fun q => ⟨q, PySem.W.cellsFrom_some _ _ _ (.inl q)⟩
  refine codeAny_call_function room.depth (inH _ _ lk) rfl S.co S.gen rfl (PySem.W.codeRec_of inH hcode) (bind _ _ _ _ ?_)
  refine wpAny_newFunctionEnv_cells S.kind kinds fun en hen sN inC => ?_
  cases hen
  refine ⟨noLim.keeps inC.toInCall.keep, codeAny_func ?_⟩
  obtain ⟨t, pt, tq⟩ := body cdv A up s H vs Q E hgu (room.deeper _) spq
  have inv := inv_start (CX := L2.CX P w) (E := E) S room.hd env0 nv rel inC
  refine wpAny_mono (pt.run [] sN (L2.start N vs) H _ inv tq) (fun fl sE q => ?_) fun e sE q => q
  cases fl with
  | ret u =>
    obtain ⟨z, σ', H', J, rz, qz⟩ := q
    exact ⟨z, H', J.os, J.bare, J.base, J.hok, rz, qz⟩
  | next =>
    obtain ⟨σ', H', J, qz⟩ := q
    exact ⟨.non, H', J.os, J.bare, J.base, J.hok, rfl, qz⟩
  | brk =>
    obtain ⟨_, _, _, z⟩ := q
    exact False.elim z
  | cont =>
    obtain ⟨_, _, _, z⟩ := q
    exact False.elim z
theorem fun_DG {x qual : Str} {st : Stmt} {f : Addr} {fd : FuncData} {N ps : List Str} {k : Nat} {m : MS} (Fu : Fun K x qual st f fd) (S : FnScope N ps (defScope st))
    (hb : ∀ (cdv : Value) (A : Around) (outer : List Env) (s : Shared) (H : Hp) (E : XK), (A.deeper (envOfC qual (defScope st) s.heap.objs.size f cdv)).guards = some [] → Room k (A.deeper (envOfC qual (defScope st) s.heap.objs.size f cdv)) → DSs (cxOf (L2.CX P w) P w K mg base N qual (defScope st) f cdv A outer s H E) (wE E) (defBody st) m) :
    GOk P w K mg base (L2.CX P w) (k + 1) f fd ps (spD K mg (runD ps.length N.length m)) := by
  refine gok_of Fu S (fun vs H Q E h => ?_) fun cdv A outer s H vs Q E hg hr h => ⟨_, hb cdv A outer s H E hg hr, ?_⟩
  · obtain ⟨G, ds, s, hd, h⟩ := h
    unfold runD at h
    split at h
    · rename_i hc
      rw [dpAll_len hd]; exact hc
    · exact h.elim
  · obtain ⟨G, ds, sg, hd, h⟩ := h
    refine ⟨H, G, G, _, start_rel (ps := ps) sg hd, ?_⟩
    unfold runD at h
    split at h
    · rename_i hc
      cases q : m (start0 N.length ds) with
      | no => rw [q] at h; exact h.elim
      | nx ρ => rw [q] at h; exact fun σ' G' H' _ r' => h G' H' r'.ext _ .non
      | bk ρ => rw [q] at h; exact h.elim
      | ct ρ => rw [q] at h; exact h.elim
      | rt d => rw [q] at h; exact fun v G' H' _ x hv => h G' H' x v hv
      | rtF es => rw [q] at h; exact fun p vs' G' H' _ x hn hg hp hv => h _ H' (x.freeze hn hp hg) _ (.lst (Rd.of upd_same) (dpAll_mono (same_upd hg) hv))
      | ex c ρ => rw [q] at h; exact fun C σ' G' H' e _ r' => h C G' H' e r'.ext
    · exact h.elim
end
/-! ### the law's end, from a promise kept where no repr is under way -/
section
variable {P : Program} {w : World} {K : PySem.W.Frag} {mg mb : Str → Option Value} {C : CXT} {k : Nat} {fa a : Addr} {fd : FuncData} {x : Str} {sp : Sp} {s0 : Shared} {items : List Value} {ns : List Int}
/-- the call, over one reading of the script -/
theorem gcall_one {H : Hp} (inK : K.In s0.heap) (gl : s0.heap.Ns mainGlobals mg) (bn : s0.heap.Ns builtinsNs mb) (bb : ∀ x : Str, x ≠ "__name__" → mb x = bootBuiltins x) (nl : s0.heap.NoLimit) (gn : s0.gens = #[])
    (at_ : s0.heap.get? a = some { cls := .type "list", data := .seq items.toArray }) (room : Room k callerA)
    (F : ∀ base : Heap, K.In base → base.Ns mainGlobals mg → GOk P w K mg base C k fa fd [x] sp) (bind : ∀ (s : Shared) (u : Value), BindsTo s fd ⟨[u], []⟩ [(x, u)])
    (want : sp [.ref a] H (fun v _ => v = .bl true) fun _ _ _ => False) (none_out : ∀ e s', C [] H s0 (fun _ _ _ => False) e s' → False)
    (only : Only H) (hok : HOk P w H s0.heap) (alone : ∀ b, H b ≠ none → b = a) (mine : H a ≠ none → K.lookup a = none) :
    codeAny (model P w) callerA (.call (.ref fa) ⟨[.ref a], []⟩) (fun r s' => r = .ok (.ret (.bool true)) ∧ OldK s0.heap s'.heap ∧ s'.os = s0.os ∧ AllBare s'.gens) s0 := by
  have out : ∀ {b : Addr} {o : Obj}, s0.heap.get? b = some o → b ≠ a → (hidT s0.heap H).get? b = some o := fun {b o} e ne => hidT_get e (by
    cases q : H b with
    | none => rfl
    | some u => exact absurd (alone b (by rw [q]; exact Option.some_ne_none u)) ne)
  have dicts : ∀ {b : Addr} {f : Str → Option Value}, s0.heap.Ns b f → (hidT s0.heap H).Ns b f := fun {b f} ⟨o, es, ep, e, d, r⟩ => ⟨o, es, ep, out e (by
    rintro rfl
    rw [at_] at e
    cases e
    exact absurd (show Data.seq items.toArray _ = Data.dict es ep from d) (by intro z; cases z)), d, r⟩
  have base_in : K.In (hidT s0.heap H) := fun b o e => by
    cases q : H b with
    | none => exact hidT_get (inK b o e) q
    | some u =>
      obtain rfl := alone b (by rw [q]; exact Option.some_ne_none u)
      rw [mine (by rw [q]; exact Option.some_ne_none u)] at e
      cases e
  have modu : Mod K mg (hidT s0.heap H) := ⟨base_in, dicts gl, ⟨mb, dicts bn, bb⟩, nl.elim fun mc z => ⟨mc, dicts z.1, z.2⟩⟩
  have env0 : Env0 P w K mg (hidT s0.heap H) callerA [] s0 H := ⟨rfl, modu, fun _ _ e => of_hidT e, Nat.le_of_eq (hidT_size _ _), trivial, fun b hb => (List.not_mem_nil (show b ∈ ([] : List Addr) from hb)).elim, hok, .of_eq gn⟩
  refine codeAny_mono ((F _ base_in (dicts gl)).run callerA [] s0 H ⟨[.ref a], []⟩ [.ref a] [.ref a] _ _ rfl room env0 (bind s0 (.ref a)) (.cons rfl .nil) want) fun r sE out => ?_
  match r, out with
  | .error e, z => exact (none_out e sE z).elim
  | .ok .next, z => exact False.elim z
  | .ok .brk, z => exact False.elim z
  | .ok .cont, z => exact False.elim z
  | .ok (.ret u), ⟨v, H', eos, bare, un, hok', rel, q⟩ =>
    obtain rfl : v = .bl true := q
    obtain rfl : u = Value.bool true := rel
    refine ⟨rfl, OldK.of_keep fun b o e => ?_, eos, bare⟩
    cases q : H b with
    | none => exact un.keep b o e q (fun z => (List.not_mem_nil (show b ∈ ([] : List Addr) from z)).elim) (by simp)
    | some u =>
      rcases only b with z | ⟨ob, xs, z⟩
      · rw [q] at z; cases z
      · have e1 := (hok b _ z).1
        rw [e] at e1
        cases e1
        exact (hok' b _ (un.frzs b _ _ z)).1
theorem gcall (inK : K.In s0.heap) (gl : s0.heap.Ns mainGlobals mg) (bn : s0.heap.Ns builtinsNs mb) (bb : ∀ x : Str, x ≠ "__name__" → mb x = bootBuiltins x) (nl : s0.heap.NoLimit) (gn : s0.gens = #[])
    (at_ : s0.heap.get? a = some { cls := .type "list", data := .seq items.toArray }) (isI : IntsAre items ns) (short : ns.length ≤ sizeLine) (room : Room k callerA)
    (F : ∀ base : Heap, K.In base → base.Ns mainGlobals mg → GOk P w K mg base C k fa fd [x] sp) (bind : ∀ (s : Shared) (u : Value), BindsTo s fd ⟨[u], []⟩ [(x, u)])
    (want : ∀ H : Hp, Only H → SqL K H a (ns.map V.int) → sp [.ref a] H (fun v _ => v = .bl true) fun _ _ _ => False) (none_out : ∀ H e s', C [] H s0 (fun _ _ _ => False) e s' → False) :
    codeAny (model P w) callerA (.call (.ref fa) ⟨[.ref a], []⟩) (fun r s' => r = .ok (.ret (.bool true)) ∧ OldK s0.heap s'.heap ∧ s'.os = s0.os ∧ AllBare s'.gens) s0 := by
  have rv := L2.vals_ints isI
  have lenI := isI.length
  by_cases hk : K.lookup a = none
  · let H : Hp := fun b => if b = a then some (.frz { cls := .type "list", data := .seq items.toArray } (.lst (ns.map V.int))) else none
    have ha : H a = some (.frz { cls := .type "list", data := .seq items.toArray } (.lst (ns.map V.int))) := if_pos rfl
    have hb : ∀ b, b ≠ a → H b = none := fun b ne => if_neg ne
    have only : Only H := fun b => by
      by_cases e : b = a
      · subst e; exact .inr ⟨_, _, ha⟩
      · exact .inl (hb b e)
    refine gcall_one (H := H) inK gl bn bb nl gn at_ room F bind (want H only (.inl (.inr ⟨_, ha⟩))) (none_out H) only (fun b u z => ?_) (fun b z => Classical.byContradiction fun ne => z (hb b ne)) fun _ => hk
    by_cases e : b = a
    · subst e
      rw [ha] at z
      cases z
      exact ⟨at_, by rw [List.length_map]; exact short, items, _, rv, at_⟩
    · rw [hb b e] at z; cases z
  · obtain ⟨o, ho⟩ := Option.ne_none_iff_exists'.mp hk
    have e := inK a o ho
    rw [at_] at e
    cases e
    have only : Only (fun _ => none : Hp) := fun _ => .inl rfl
    refine gcall_one (H := fun _ => none) inK gl bn bb nl gn at_ room F bind (want _ only (.inr ⟨_, items.toArray, _, ho, rfl, rfl, rfl, ?_, ?_⟩)) (none_out _) only (fun b u z => by cases z) (fun b z => absurd rfl z) fun z => absurd rfl z
    · rw [List.size_toArray, lenI]; exact short
    · simpa using rv
end
theorem walk_ofG {l : PySem.W.OpenLaw} {n k : Nat} {q : Program} {loose : List Str} {XP : (Str → Option Value) → Heap → Prop} {YP : World → Heap → Prop} {d : DefRec} {K : Params → PySem.W.Frag} {C : World → CXT} {sp : World → Sp} {x : Str}
    (hn : l.most = some n) (hz : n ≤ sizeLine) (hdf : d.params.defaults = []) (hr : Room k callerA) (hY : ∀ (w : World) (h : Heap), YP w h → (K w.params).In h)
    (F : ∀ (w : World) (mg : Str → Option Value) (fa : Addr) (h : Heap), (K w.params).In h → h.Ns mainGlobals mg → mg d.name = some (.ref fa) → ∃ fd : FuncData, (∀ (s : Shared) (u : Value), BindsTo s fd ⟨[u], []⟩ [(x, u)]) ∧
        ∀ base : Heap, (K w.params).In base → base.Ns mainGlobals mg → GOk l.prog w (K w.params) mg base (C w) k fa fd [x] (sp w))
    (want : ∀ (w : World) (H : Hp) (a : Addr) (ns : List Int), ns.length ≤ n → Only H → SqL (K w.params) H a (ns.map V.int) → sp w [.ref a] H (fun v _ => v = .bl true) fun _ _ _ => False)
    (none_out : ∀ (w : World) (H : Hp) (s : Shared) (e : Value) (s' : Shared), C w [] H s (fun _ _ _ => False) e s' → False) :
    PySem.W.WalkO q loose XP YP l.row.toRowW d [] (fun f vs => PySem.call f vs) := by
  refine Att.attach_call hn hdf fun w sA sB mg mb fa o pm cd doc a vs ns G Y _ _ _ hmg hobj hints hlen hg => ?_
  obtain ⟨fd, hb, hF⟩ := F w mg fa _ (hY w _ Y) G.T.g hmg
  exact gcall (hY w _ Y) G.T.g G.T.b G.T.builtins G.T.nolimit hg hobj hints (Nat.le_trans hlen hz) hr hF hb (fun H a1 a2 => want w H a ns hlen a1 a2) fun H e s' => none_out w H sB e s'
end
end DL
/-! DL19: repr of data. -/
namespace DL
noncomputable section
open PySem PySem.Spec PyProof.Rows L2
structure ReprOk (d : PyData) : Prop where
  sh : d.showable = true
  nd : d.hasDict = false
  sz : d.shown.length ≤ sizeLine
  dep : ShK 20 d
  box : (∃ xs, d = .list xs) ∨ ∃ xs, d = .tuple xs
instance (d : PyData) : Decidable (ReprOk d) := Classical.propDecidable _
def rReprA (K : PySem.W.Frag) : List V → Hp → VK → Prop := fun vs H Q => ∃ (a : Addr) (d : PyData), vs = [.ref a] ∧ Dp K H (.ref a) d ∧ ReprOk d ∧ Q (.str d.shown) H
section
variable {X : Cx}
theorem cr_reprA (hg : X.A.guards = some []) (hu : X.A.units + 64 < cLine) : CallR X (.builtin "repr") (rReprA X.K) := by
  intro pins s σ H vs us Q I r h
  obtain ⟨a, d, rfl, hd, ok, q⟩ := h
  obtain ⟨as, rd⟩ := Dp.reads I d (.ref a) (.ref a) hd rfl
  rw [Vals.ref1 r]
  exact repr_of_reads' rd ok.sh (fun e => by rw [ok.nd] at e; cases e) hg (by have := ok.dep.dep; omega) (fun _ _ e => e) (fun h' u tk hk => ⟨.str d.shown, H, I.kept hk, ⟨_, rfl⟩, q⟩) ok.sz
def reprD : List PyData → Out PyData
  | [d] => if ReprOk d then .ok (.str d.shown) else .no
  | _ => .no
theorem call_reprD : CallD X (rReprA X.K) reprD := by
  intro mg W σ G H Q vs ds s hv h
  unfold reprD at h
  split at h
  · obtain ⟨v, rfl, hd⟩ := dq1 hv
    split at h
    · rename_i ok
      have hdp := dq_dp ok.dep.lay (dp_mono s hd)
      rcases ok.box with ⟨xs, rfl⟩ | ⟨xs, rfl⟩
      · cases hd with
        | lst h1 h2 => exact ⟨_, _, rfl, hdp, ok, h.now s _ (.str _)⟩
      · cases hd with
        | tup h1 h2 => exact ⟨_, _, rfl, hdp, ok, h.now s _ (.str _)⟩
    · exact h.elim
  · exact h.elim
theorem rrepr {k : Nat} (hg : X.A.guards = some []) (hr : Room k X.A) : CallR X (.builtin "repr") (rReprA X.K) := cr_reprA hg hr.units
end
theorem bt_repr : bootBuiltins "repr" = some (.builtin "repr") := by decide +kernel
end
end DL
/-! DL20: xs.index(x). -/
namespace DL
noncomputable section
open PySem PySem.Spec PyProof.Rows L2
def indexL (ds : List PyData) (e : PyData) : Out PyData := if SeqAt.shaped (.list ds) && SeqAt.shaped e then (match ds.findIdx? (fun z => PyData.eqv z e) with
  | some j => .ok (.int (j : Nat))
  | none => .no) else .no
def idxM (ma mb : MD) : MD := fun ρ => ma ρ >>= fun d => match d with
  | .list ds => mb ρ >>= indexL ds
  | _ => .no
section
variable {X : Cx} {W : WX} {o e : Expr} {mo me : MD} {p pos : Pos} {k : Nat}
theorem de_index {ap cp : Pos} (hr : Room k X.A) (ho : DE X W o mo) (he : DE X W e me)
    (hbase : attributeBase o "index" X.env (eval o X.env) = eval o X.env := by rfl)
    (hfew : ((backTo cp (starEach [e] X.env)).all (fun x => !x.1) && (backToKw cp (keywordEach [] X.env)).all (fun x => x.1.isSome)
      && decide (([e] : List Expr).length + ([] : List Keyword).length + (if ([] : List Keyword).isEmpty then 0 else 1) < 30)) = true := by rfl)
    (hline : (ap.endLine == cp.line) = true := by rfl) (hs : starEach [e] X.env = (false, eval e X.env) :: starEach [] X.env := by rfl) (hplain : (backTo cp (starEach [] X.env)).any (·.1) = false := by rfl) :
    DE X W (.Call (.Attribute o "index" ap) [e] [] cp) (idxM mo me) := by
  refine pe_imp (pe_bm PySem.F.plainAttrs_list PySem.F.slot_list_index PySem.F.type_list_index (mt_indexD (hu65 hr)) ho (pa_cons he pa_nil hs) hbase hfew hline hs hplain) fun σ H Q ⟨H0, G0, G, ρ, r, h⟩ => ?_
  refine ⟨H0, G0, G, ρ, r, (PostO.bind h).mono fun d G1 H1 _ x1 h1 v hv => ?_⟩
  cases d with
  | list ds =>
    obtain ⟨a1, v1, rfl, r1, d1⟩ := dp_list hv
    refine ⟨.inl ⟨rfl, v1, .inl (rd_mono x1.gh r1)⟩, H0, G0, G1, ρ, r.step x1, (PostO.bind h1).mono fun y G2 H2 _ x2 h2 w hw => ?_⟩
    unfold indexL at h2
    split at h2
    · rename_i hsh
      rw [Bool.and_eq_true] at hsh
      split at h2
      · rename_i j hj
        obtain ⟨hjl, hj1, hj2⟩ := List.findIdx?_eq_some_iff_getElem.mp hj
        have hl : Dp X.K H2 (.ref a1) (.list ds) := dq_dp (SeqAt.canLay_of_shaped hsh.1) (dp_mono (x2.g.trans x2.gh) (.lst r1 d1))
        have hy : Dp X.K H2 w y := dq_dp (SeqAt.canLay_of_shaped hsh.2) (dp_mono x2.gh hw)
        refine ⟨a1, w, y, ds, j, ds[j], rfl, rfl, hl, hy, hsh.1, hsh.2, List.getElem?_eq_getElem hjl, hj1, fun m z hm hz => ?_, h2.now x2.gh _ (.int _)⟩
        have hml : m < ds.length := by omega
        rw [List.getElem?_eq_getElem hml] at hz
        cases hz
        have := hj2 m hm
        simpa using this
      · exact h2.elim
    · exact h2.elim
  | _ => exact h1.elim
end
end
end DL
/-! DL21: dicts of ours: lookups and what stands behind them. -/
namespace DL
noncomputable section
open PySem PySem.Spec PyProof.Rows L2
def keyD : PyData → Option Key
  | .int i => some (.inl i)
  | .str x => some (.inr x)
  | _ => none
theorem keyD_v {K : PySem.W.Frag} {G : Hp} {v : V} {d : PyData} {k : Key} (h : keyD d = some k) (hd : Dq K G v d) : v = kV k := by
  cases d <;> first | (cases h; cases hd; rfl) | cases h
def getK (ks : Ks) (k : Key) : Option PyData := (ks.find? fun kv => decide (kv.1 = k)).map (·.2)
def setK (ks : Ks) (k : Key) (d : PyData) : Ks := if (ks.any fun kv => decide (kv.1 = k)) = true then ks.map (fun kv => if kv.1 = k then (kv.1, d) else kv) else ks ++ [(k, d)]
abbrev KD (K : PySem.W.Frag) (G : Hp) : Key × PyData → Key × V → Prop := fun p q => p.1 = q.1 ∧ Dq K G q.2 p.2
theorem kd_get {K : PySem.W.Frag} {G : Hp} {k : Key} : ∀ {ks : Ks} {kvs : List (Key × V)}, Paired (KD K G) ks kvs → (getK ks k = none ∧ valV kvs k = none) ∨ ∃ d v, getK ks k = some d ∧ valV kvs k = some v ∧ Dq K G v d
  | _, _, .nil => .inl ⟨rfl, rfl⟩
  | p :: ks, q :: kvs, .cons h t => by
    by_cases e : p.1 = k
    · refine .inr ⟨p.2, q.2, ?_, valV_pos (h.1.symm.trans e), h.2⟩
      simp [getK, List.find?_cons, e]
    · have e2 : ¬ q.1 = k := fun z => e (h.1.trans z)
      have e3 : getK (p :: ks) k = getK ks k := by simp [getK, List.find?_cons, e]
      rw [e3, valV_neg e2]
      exact kd_get t
theorem kd_any {K : PySem.W.Frag} {G : Hp} {k : Key} : ∀ {ks : Ks} {kvs : List (Key × V)}, Paired (KD K G) ks kvs → (ks.any fun kv => decide (kv.1 = k)) = kvs.any fun kv => decide (kv.1 = k)
  | _, _, .nil => rfl
  | p :: ks, q :: kvs, .cons h t => by rw [List.any_cons, List.any_cons, kd_any t, h.1]
theorem kd_map {K : PySem.W.Frag} {G : Hp} {k : Key} {v : V} {d : PyData} (hv : Dq K G v d) : ∀ {ks : Ks} {kvs : List (Key × V)}, Paired (KD K G) ks kvs → Paired (KD K G) (ks.map fun kv => if kv.1 = k then (kv.1, d) else kv) (kvs.map fun kv => if kv.1 = k then (kv.1, v) else kv)
  | _, _, .nil => .nil
  | p :: ks, q :: kvs, .cons h t => by
    rw [List.map_cons, List.map_cons]
    refine .cons ?_ (kd_map hv t)
    by_cases e : p.1 = k
    · rw [if_pos e, if_pos (h.1.symm.trans e)]
      exact ⟨h.1, hv⟩
    · rw [if_neg e, if_neg fun z => e (h.1.trans z)]
      exact h
theorem kd_app {K : PySem.W.Frag} {G : Hp} : ∀ {ks ms : Ks} {kvs mvs : List (Key × V)}, Paired (KD K G) ks kvs → Paired (KD K G) ms mvs → Paired (KD K G) (ks ++ ms) (kvs ++ mvs)
  | _, _, _, _, .nil, h => h
  | _, _, _, _, .cons a t, h => .cons a (kd_app t h)
theorem kd_put {K : PySem.W.Frag} {G : Hp} {k : Key} {v : V} {d : PyData} {ks : Ks} {kvs : List (Key × V)} (h : Paired (KD K G) ks kvs) (hv : Dq K G v d) : Paired (KD K G) (setK ks k d) (putK kvs k v) := by
  unfold setK putK
  rw [kd_any (k := k) h]
  split
  · exact kd_map hv h
  · exact kd_app h (.cons ⟨rfl, hv⟩ .nil)
section
variable {X : Cx} {W : WX} {e f : Expr} {me mf : MD} {p pos : Pos} {x : Str} {k : Nat}
/-- x.get(e, f), x a dict of ours -/
def ownGet (i : Nat) (me mf : MD) : MD := fun ρ => match ρ[i]? with
  | some (.own (.dic ks)) => me ρ >>= fun y => match keyD y with
    | some k => mf ρ >>= fun z => .ok ((getK ks k).getD z)
    | none => .no
  | _ => .no
theorem de_ownGet {ap cp : Pos} (i : Nat) (hr : Room k X.A) (he : DE X W e me) (hf : DE X W f mf) (m : M2 X (.Name x p) "get" ap e f cp) (hN : X.N[i]? = some x := by rfl) (hv : Vis X.env.scope x := by first | exact Or.inl rfl | exact Or.inr (Or.inl rfl) | exact Or.inr (Or.inr rfl)) (hd : (x == ("__debug__" : Str)) = false := by decide)
    (hcd : (x == ("__classdict__" : Str)) = false := by decide) : DE X W (.Call (.Attribute (.Name x p) "get" ap) [e, f] [] cp) (ownGet i me mf) := by
  refine pe_imp (pe_dget2 (by have := hr.un; omega) (pe_var hN hv hd hcd) he hf m) fun σ H Q ⟨H0, G0, G, ρ, r, h⟩ => ?_
  unfold ownGet at h
  split at h
  · rename_i ks q
    obtain ⟨a1, u, es, hp, ho, hg, h0⟩ := r.getOwn q
    obtain ⟨kvs, rfl, hpd⟩ := ho.isDic
    refine ⟨.ref a1, es, a1, rfl, .inl ⟨kvs, .inl hp⟩, H0, G0, G, ρ, r, (PostO.bind h).mono fun kd G1 H1 _ x1 h1 y hy => ?_⟩
    split at h1
    · rename_i key hkey
      obtain rfl := keyD_v hkey hy
      refine ⟨H0, G0, G1, ρ, r.step x1, (PostO.bind h1).mono fun z G2 H2 _ x2 h2 w hw => ?_⟩
      refine ⟨valV kvs key, .inl ⟨kvs, key, .inl (x2.h _ _ (x1.h _ _ hp)), rfl, rfl⟩, ?_⟩
      rcases kd_get (k := key) hpd with ⟨g1, g2⟩ | ⟨d, v, g1, g2, dv⟩
      · rw [g1] at h2
        rw [g2]
        exact h2.now x2.gh _ hw
      · rw [g1] at h2
        rw [g2]
        exact h2.now x2.gh _ (dp_mono (x1.g.trans x2.g) dv)
    · exact h1.elim
  · exact h.elim
end
section
variable {X : Cx} {W : WX} {e a : Expr} {me ma : MD} {p pos sp : Pos} {x : Str} {k : Nat}
/-- x[e], x a dict of ours -/
def ownDIx (i : Nat) (me : MD) : MD := fun ρ => match ρ[i]? with
  | some (.own (.dic ks)) => me ρ >>= fun y => match keyD y with
    | some k => match getK ks k with
      | some d => .ok d
      | none => .no
    | none => .no
  | _ => .no
theorem de_ownDIx (i : Nat) (hr : Room k X.A) (he : DE X W e me) (hs : NoSl e := by exact fun _ _ => rfl) (hN : X.N[i]? = some x := by rfl) (hv : Vis X.env.scope x := by first | exact Or.inl rfl | exact Or.inr (Or.inl rfl) | exact Or.inr (Or.inr rfl)) (hd : (x == ("__debug__" : Str)) = false := by decide)
    (hcd : (x == ("__classdict__" : Str)) = false := by decide) : DE X W (.Subscript (.Name x p) e pos) (ownDIx i me) := by
  refine pe_imp (pe_dget (by have := hr.un; omega) (pe_var hN hv hd hcd) he hs) fun σ H Q ⟨H0, G0, G, ρ, r, h⟩ => ?_
  unfold ownDIx at h
  split at h
  · rename_i ks q
    obtain ⟨a1, u, es, hp, ho, hg, h0⟩ := r.getOwn q
    obtain ⟨kvs, rfl, hpd⟩ := ho.isDic
    refine ⟨.ref a1, es, H0, G0, G, ρ, r, (PostO.bind h).mono fun kd G1 H1 _ x1 h1 y hy => ?_⟩
    split at h1
    · rename_i key hkey
      obtain rfl := keyD_v hkey hy
      rcases kd_get (k := key) hpd with ⟨g1, g2⟩ | ⟨d, v, g1, g2, dv⟩
      · rw [g1] at h1
        exact h1.elim
      · rw [g1] at h1
        exact ⟨a1, v, rfl, .inl ⟨kvs, key, .inl (x1.h _ _ hp), rfl, g2.symm⟩, h1.now x1.gh _ (dp_mono x1.g dv)⟩
    · exact h1.elim
  · exact h.elim
/-- x[e] = a, x a dict of ours -/
def setDS (i : Nat) (me ma : MD) : MS := fun ρ => match ρ[i]? with
  | some (.own (.dic ks)) => thenF (ma ρ >>= fun v => me ρ >>= fun y => .ok (v, y)) ρ fun vy => match keyD vy.2 with
    | some k => if ks.length < sizeLine then .nx (ρ.set i (.own (.dic (setK ks k vy.1)))) else .no
    | none => .no
  | _ => .no
theorem kd_len {K : PySem.W.Frag} {G : Hp} : ∀ {ks : Ks} {kvs : List (Key × V)}, Paired (KD K G) ks kvs → ks.length = kvs.length
  | _, _, .nil => rfl
  | _, _, .cons _ t => by rw [List.length_cons, List.length_cons, kd_len t]
theorem kd_mono {K : PySem.W.Frag} {G G' : Hp} (s : Same G G') {ks : Ks} {kvs : List (Key × V)} (h : Paired (KD K G) ks kvs) : Paired (KD K G') ks kvs := Paired.mapP h fun _ _ z => ⟨z.1, dp_mono s z.2⟩
theorem ds_setD (i : Nat) (hr : Room k X.A) (he : DE X W e me) (ha : DE X W a ma) (hN : X.N[i]? = some x := by rfl) (hv : Vis X.env.scope x := by first | exact Or.inl rfl | exact Or.inr (Or.inl rfl) | exact Or.inr (Or.inr rfl)) (hd : (x == ("__debug__" : Str)) = false := by decide) (hcd : (x == ("__classdict__" : Str)) = false := by decide)
    (hs : swapsWith a (some (.Subscript (.Name x p) e sp)) pos.line X.env = pure false := by rfl) : DS X W (.Assign [.Subscript (.Name x p) e sp] a pos) (setDS i me ma) := by
  refine ps_imp (ps_dput (by have := hr.un; omega) (pe_var hN hv hd hcd) he ha hs) fun D σ H ⟨H0, G0, G, ρ, r, h⟩ => ?_
  unfold setDS at h
  split at h
  · rename_i ks q
    obtain ⟨a1, u, es, hp, ho, hg, h0⟩ := r.getOwn q
    obtain ⟨kvs, rfl, hpd⟩ := ho.isDic
    have h2 := thenF_post (R := fun vy G' H' => PostF X.K X.mg W D H0 G0 G' (match keyD vy.2 with
      | some k => if ks.length < sizeLine then .nx (ρ.set i (.own (.dic (setK ks k vy.1)))) else .no
      | none => .no)) r h fun z G1 H1 _ x1 h1 => h1
    refine ⟨H0, G0, G, ρ, r, (PostO.bind h2).mono fun d G1 H1 _ x1 h3 v hv => ?_⟩
    refine ⟨.ref a1, es, H0, G0, G1, ρ, r.step x1, (PostO.bind h3).mono fun y G2 H2 _ x2 h4 w hw => ?_⟩
    have h5 := h4 G2 H2 (.refl x2.gh)
    dsimp only at h5
    split at h5
    · rename_i key hkey
      obtain rfl := keyD_v hkey hw
      split at h5
      · rename_i hz
        have x3 := x1.trans x2
        refine ⟨a1, _, rfl, .inl ⟨kvs, key, x3.h _ _ hp, rfl, by rw [← kd_len hpd]; exact hz, rfl⟩, ?_⟩
        exact h5 σ G2 _ (.refl _) ((r.step x3).write (b' := .dic (setK ks key d)) q es (x3.h _ _ hp) (x3.fr a1 hg (by rw [hp]; simp)) h0 (show Paired _ _ _ from kd_put (kd_mono x3.g hpd) (dp_mono x2.g hv)))
      · exact h5.elim
    · exact h5.elim
  · exact h.elim
end
section
variable {X : Cx} {W : WX} {e a : Expr} {me ma : MD} {p pos sp : Pos} {x : Str} {k : Nat}
/-- e not in x, x a dict of ours -/
def ownNotIn (i : Nat) (me : MD) : MD := fun ρ => match ρ[i]? with
  | some (.own (.dic ks)) => me ρ >>= fun y => match keyD y with
    | some k => .ok (.bool (!(getK ks k).isSome))
    | none => .no
  | _ => .no
theorem de_ownNotIn (i : Nat) (hr : Room k X.A) (he : DE X W e me) (hN : X.N[i]? = some x := by rfl) (hv : Vis X.env.scope x := by first | exact Or.inl rfl | exact Or.inr (Or.inl rfl) | exact Or.inr (Or.inr rfl)) (hd : (x == ("__debug__" : Str)) = false := by decide)
    (hcd : (x == ("__classdict__" : Str)) = false := by decide) (hm : behindInMarks .NotIn (.Name x p) = false := by first | exact nomark _ | rfl) : DE X W (.Compare e [.NotIn] [.Name x p] pos) (ownNotIn i me) := by
  refine pe_imp (pe_cmp (pc_dnotin (by have := hr.un; omega) he (pe_var hN hv hd hcd)) hm) fun σ H Q ⟨H0, G0, G, ρ, r, h⟩ => ?_
  unfold ownNotIn at h
  split at h
  · rename_i ks q
    obtain ⟨a1, u, es, hp, ho, hg, h0⟩ := r.getOwn q
    obtain ⟨kvs, rfl, hpd⟩ := ho.isDic
    refine ⟨H0, G0, G, ρ, r, (PostO.bind h).mono fun kd G1 H1 _ x1 h1 y hy => ?_⟩
    split at h1
    · rename_i key hkey
      obtain rfl := keyD_v hkey hy
      refine ⟨.ref a1, es, a1, valV kvs key, rfl, .inl ⟨kvs, key, .inl (x1.h _ _ hp), rfl, rfl⟩, ?_⟩
      rcases kd_get (k := key) hpd with ⟨g1, g2⟩ | ⟨d, v, g1, g2, dv⟩
      · rw [g1] at h1
        rw [g2]
        exact h1.now x1.gh _ (.bl _)
      · rw [g1] at h1
        rw [g2]
        exact h1.now x1.gh _ (.bl _)
    · exact h1.elim
  · exact h.elim
end
end
end DL
/-! DL23: loops by what holds before each turn. -/
namespace DL
noncomputable section
open PySem PySem.Spec PyProof.Rows L2
theorem forD_inv {α : Type} {u : α → PyData} {g : MG} {b : MS} (I : Nat → Ro → Prop) {m : Nat} : ∀ (l : List α) (n : Nat) (ρ : Ro), n + l.length ≤ m → I n ρ → (∀ x ∈ l, ∀ n ρ, n < m → I n ρ → ∃ ρ1 ρ2, g (u x) ρ = some ρ1 ∧ b ρ1 = .nx ρ2 ∧ I (n + 1) ρ2) → ∃ ρ', forD g b (l.map u) ρ = .nx ρ' ∧ I (n + l.length) ρ'
  | [], n, ρ, _, h, _ => ⟨ρ, rfl, h⟩
  | x :: l, n, ρ, hm, h, H => by
    rw [List.length_cons] at hm
    obtain ⟨ρ1, ρ2, h1, h2, h3⟩ := H x List.mem_cons_self n ρ (by omega) h
    obtain ⟨ρ', h4, h5⟩ := forD_inv I l (n + 1) ρ2 (by omega) h3 fun y hy => H y (List.mem_cons_of_mem _ hy)
    refine ⟨ρ', ?_, ?_⟩
    · rw [List.map_cons]
      exact (forD_nx h1 h2).trans h4
    · rw [List.length_cons, show n + (l.length + 1) = n + 1 + l.length by omega]
      exact h5
/-- the same, told with the items gone through -/
theorem forD_pre {α : Type} {u : α → PyData} {g : MG} {b : MS} (I : List α → Ro → Prop) : ∀ (l pre : List α) (ρ : Ro), I pre ρ → (∀ pre x ρ, x ∈ l → I pre ρ → ∃ ρ1 ρ2, g (u x) ρ = some ρ1 ∧ b ρ1 = .nx ρ2 ∧ I (pre ++ [x]) ρ2) → ∃ ρ', forD g b (l.map u) ρ = .nx ρ' ∧ I (pre ++ l) ρ'
  | [], pre, ρ, h, _ => ⟨ρ, rfl, by rw [List.append_nil]; exact h⟩
  | x :: l, pre, ρ, h, H => by
    obtain ⟨ρ1, ρ2, h1, h2, h3⟩ := H pre x ρ List.mem_cons_self h
    obtain ⟨ρ', h4, h5⟩ := forD_pre I l (pre ++ [x]) ρ2 h3 fun p y r hy => H p y r (List.mem_cons_of_mem _ hy)
    refine ⟨ρ', ?_, ?_⟩
    · rw [List.map_cons]
      exact (forD_nx h1 h2).trans h4
    · rw [List.append_assoc] at h5
      exact h5
/-- a loop that hands back at the first item with p, and otherwise goes on -/
theorem forD_find {α : Type} {u : α → PyData} {g : MG} {b : MS} {v : PyData} (p : α → Bool) (I : Ro → Prop) : ∀ (l : List α) (ρ : Ro), I ρ → (∀ x ∈ l, ∀ ρ, I ρ → ∃ ρ1, g (u x) ρ = some ρ1 ∧ ((p x = true ∧ b ρ1 = .rt v) ∨ (p x = false ∧ ∃ ρ2, b ρ1 = .nx ρ2 ∧ I ρ2))) → (l.any p = true ∧ forD g b (l.map u) ρ = .rt v) ∨ (l.any p = false ∧ ∃ ρ', forD g b (l.map u) ρ = .nx ρ' ∧ I ρ')
  | [], ρ, h, _ => .inr ⟨rfl, ρ, rfl, h⟩
  | x :: l, ρ, h, H => by
    obtain ⟨ρ1, h1, h2⟩ := H x List.mem_cons_self ρ h
    rw [List.map_cons, List.any_cons]
    rcases h2 with ⟨h2, h3⟩ | ⟨h2, ρ2, h3, h4⟩
    · exact .inl ⟨by rw [h2]; rfl, forD_rt h1 h3⟩
    · rw [h2, Bool.false_or]
      rcases forD_find p I l ρ2 h4 fun y hy => H y (List.mem_cons_of_mem _ hy) with ⟨h5, h6⟩ | ⟨h5, ρ', h6, h7⟩
      · exact .inl ⟨h5, (forD_nx h1 h3).trans h6⟩
      · exact .inr ⟨h5, ρ', (forD_nx h1 h3).trans h6, h7⟩
end
end DL
/-! DL24: list(range(n)); len(set(xs)) of tuples of ints; comprehensions with two fors. -/
namespace DL
noncomputable section
open PySem PySem.Spec PyProof.Rows L2
theorem bt_set : bootBuiltins "set" = some (.type "set") := by decide +kernel
section
variable {X : Cx} {W : WX} {a e : Expr} {es : List Expr} {ma mb me : MD} {ml mi mi1 : ML} {mt mt1 : MB} {pos p p2 q : Pos} {k : Nat}
/-! ### list(range(n)) -/
def rngV (n : Nat) : List PyData := rangeL 0 n
def lrF (ma : MD) : ML := fun ρ => ma ρ >>= fun d => match d with
  | .int i => if 0 ≤ i ∧ i ≤ 16777216 then .ok (rangeL 0 i.toNat) else .no
  | _ => .no
theorem dq_rgV {K : PySem.W.Frag} {G : Hp} (i : Int) : DqAll K G (rgV 0 i) (rangeL 0 i.toNat) := by
  unfold rgV rangeL
  rw [Int.sub_zero]
  generalize i.toNat = n
  induction n with
  | zero => exact .nil
  | succ n ih =>
    rw [List.range_succ, List.map_append, List.map_append]
    exact dpAll_append ih (.cons (.int _) .nil)
theorem df_listRg (hm : X.mg "list" = none) (hm2 : X.mg "range" = none) (ha : DE X W a ma) (hg : Gl X "list" := by rfl) (hg2 : Gl X "range" := by rfl) (na : starEach [a] X.env = (false, eval a X.env) :: starEach [] X.env := by rfl)
    (na2 : starEach [.Call (.Name "range" p2) [a] [] q] X.env = (false, eval (.Call (.Name "range" p2) [a] [] q) X.env) :: starEach [] X.env := by rfl) (hc : X.calm = true := by rfl) : DF X W (.Call (.Name "list" p) [.Call (.Name "range" p2) [a] [] q] [] pos) (lrF ma) := by
  refine pe_imp (pe_listRg hc hg hm (prg_1 hg2 hm2 ha na) na2) fun σ H Q ⟨H0, G0, G, ρ, r, h⟩ => ⟨H0, G0, G, ρ, r, (PostO.bind h).mono fun d G1 H1 _ x1 h1 v hv => ?_⟩
  cases d with
  | int i =>
    obtain rfl := dp_int hv
    have h2 : PostO X.mg W σ G1 H1 (rF X.K H Q) (if 0 ≤ i ∧ i ≤ 16777216 then .ok (rangeL 0 i.toNat) else .no) := h1
    split at h2
    · rename_i hc
      refine ⟨i, rfl, RgOk.of_le (Int.le_refl _) hc.2 (by decide) hc.1, fun q' hq => ?_⟩
      exact post_newF x1.gh (h2.mono fun _ _ _ _ _ q => rF_mono x1.h q) (dq_rgV i) hq
    · exact h2.elim
  | _ => exact False.elim h1
/-! ### len(set(xs)) -/
def tupOf : PyData → Option (List Int)
  | .tuple ds => intsOf ds
  | _ => none
def tupsOf : List PyData → Option (List (List Int))
  | [] => some []
  | d :: r => match tupOf d, tupsOf r with
    | some n, some m => some (n :: m)
    | _, _ => none
/-- each once -/
def dd : List (List Int) → List (List Int)
  | [] => []
  | x :: r => if x ∈ r then dd r else x :: dd r
theorem mem_dd {y : List Int} : ∀ {l : List (List Int)}, y ∈ dd l ↔ y ∈ l
  | [] => Iff.rfl
  | x :: r => by
    unfold dd
    split
    · rename_i h
      rw [mem_dd, List.mem_cons]
      constructor
      · exact .inr
      · rintro (rfl | h2)
        · exact h
        · exact h2
    · rw [List.mem_cons, List.mem_cons, mem_dd]
theorem nodup_dd : ∀ l : List (List Int), (dd l).Nodup
  | [] => List.nodup_nil
  | x :: r => by
    unfold dd
    split
    · exact nodup_dd r
    · rename_i h
      exact List.nodup_cons.mpr ⟨fun z => h (mem_dd.mp z), nodup_dd r⟩
theorem dd_le : ∀ l : List (List Int), (dd l).length ≤ l.length
  | [] => Nat.le_refl _
  | x :: r => by
    have := dd_le r
    unfold dd
    split
    · rw [List.length_cons]; omega
    · rw [List.length_cons, List.length_cons]; omega
theorem dd_iff : ∀ l : List (List Int), (dd l).length = l.length ↔ l.Nodup
  | [] => by simp [dd]
  | x :: r => by
    have h1 := dd_le r
    have ih := dd_iff r
    unfold dd
    rw [List.nodup_cons]
    split
    · rename_i h
      constructor
      · intro e
        rw [List.length_cons] at e
        omega
      · exact fun z => absurd h z.1
    · rename_i h
      rw [List.length_cons, List.length_cons]
      constructor
      · intro e
        exact ⟨h, ih.mp (by omega)⟩
      · intro z
        rw [ih.mpr z.2]
theorem dq_tups {K : PySem.W.Frag} {G : Hp} : ∀ {vs : List V} {ds : List PyData} {nss : List (List Int)}, DqAll K G vs ds → tupsOf ds = some nss → ∃ ks : List (Addr × List Int), vs = ks.map (fun p => V.ref p.1) ∧ (∀ p ∈ ks, SqT K G p.1 (p.2.map V.int)) ∧ ks.map (·.2) = nss
  | _, _, _, .nil, e => by cases e; exact ⟨[], rfl, fun _ h => by simp at h, rfl⟩
  | _, _, _, @DqAll.cons _ _ v vs d ds hd h, e => by
    unfold tupsOf at e
    split at e
    · rename_i n m e1 e2
      cases e
      obtain ⟨ks, rfl, h2, h3⟩ := dq_tups h e2
      cases d with
      | tuple es =>
        obtain ⟨a1, v1, rfl, r1, d1⟩ := dp_tuple hd
        have e1' : intsOf es = some n := e1
        rw [intsOf_eq e1'] at d1
        rw [vals_ints d1] at r1
        refine ⟨(a1, n) :: ks, rfl, fun p hp => ?_, by rw [List.map_cons, h3]⟩
        rcases List.mem_cons.mp hp with rfl | hp
        · exact r1
        · exact h2 p hp
      | _ => cases e1
    · cases e
theorem Inv.isT' {pins : List (Addr × Obj)} {σ : L2.St} {H : Hp} {s : Shared} {b : Addr} {k : List Int} (I : Inv X pins σ H s) (h : SqT X.K H b (k.map V.int)) : IsT X.prog X.w s.heap k b := L2.Inv.isT I h
def rLenSetT (K : PySem.W.Frag) (P : Program) (w : World) : List V → Hp → VK → Prop := fun vs H Q => ∃ (a : Addr) (L : List (Addr × List Int)), vs = [V.ref a] ∧ H a = some (SetTO P w a L) ∧ (∀ p ∈ L, SqT K H p.1 (p.2.map V.int)) ∧ ((L.map (·.2)).Nodup → Q (.int (L.length : Nat)) H)
theorem cr_lenSetT : CallR X (.builtin "len") (rLenSetT X.K X.prog X.w) := by
  intro pins s σ H vs us Q I r h
  obtain ⟨a, L, rfl, ha, hk, hq⟩ := h
  rw [Vals.ref1 r]
  have R0 : SetT0 X.prog X.w s.heap a L := (I.hok a _ ha).1
  obtain ⟨es, ep, t, R⟩ := R0.full fun p hp => L2.Inv.isT I (hk p hp)
  obtain ⟨o, ho, hex, hd⟩ := R.ob
  have hn : es.size = L.length := by
    rw [← Array.length_toList, R.rows]
    unfold rowsOf
    rw [List.length_map]
  have hfew := R.few
  refine call_len_set ho hex hd R.fits (by rw [hn]; omega) ⟨.int (L.length : Nat), H, I.tok _, ⟨_, by rw [hn]⟩, hq R.nd⟩
def lenSetD (ma : MD) : MD := fun ρ => ma ρ >>= fun d => match d with
  | .list ds => match tupsOf ds with
    | some nss => if nss.length < 64 then .ok (.int ((dd nss).length : Nat)) else .no
    | none => .no
  | _ => .no
theorem same_new {H : Hp} {a : Addr} {o : HO} (h : H a = none) : Same H (upd H a o) := same_upd h
theorem de_lenSet (hr : Room k X.A) (hm : X.mg "len" = none) (hm2 : X.mg "set" = none) (ha : DE X W a ma) (hg : Gl X "len" := by rfl) (hg2 : Gl X "set" := by rfl) (na : starEach [a] X.env = (false, eval a X.env) :: starEach [] X.env := by rfl) (hpl : (backTo q (starEach [] X.env)).any (·.1) = false := by rfl)
    (na2 : starEach [.Call (.Name "set" p2) [a] [] q] X.env = (false, eval (.Call (.Name "set" p2) [a] [] q) X.env) :: starEach [] X.env := by rfl) (hpl2 : (backTo pos (starEach [] X.env)).any (·.1) = false := by rfl) (hc : X.calm = true := by rfl) : DE X W (.Call (.Name "len" p) [.Call (.Name "set" p2) [a] [] q] [] pos) (lenSetD ma) := by
  refine pe_imp (pe_callB cr_lenSetT hg hm bt_len (pa_cons (pe_callTy (cr_setOfT hc (by have := hr.un; omega)) hg2 hm2 bt_set (pa_cons ha pa_nil na) (by decide) (by decide) na hpl) pa_nil na2) (by decide) (by decide) na2 hpl2) fun σ H Q ⟨H0, G0, G, ρ, r, h⟩ => ?_
  refine ⟨H0, G0, G, ρ, r, (PostO.bind h).mono fun d G1 H1 _ x1 h1 v hv => ?_⟩
  cases d with
  | list ds =>
    obtain ⟨a1, v1, rfl, r1, d1⟩ := dp_list hv
    cases qn : tupsOf ds with
    | none =>
      have h2 : PostO X.mg W σ G1 H1 (rD X.K Q) (match tupsOf ds with
        | some nss => if nss.length < 64 then .ok (.int ((dd nss).length : Nat)) else .no
        | none => .no) := h1
      rw [qn] at h2
      exact h2.elim
    | some nss =>
      have h2 : PostO X.mg W σ G1 H1 (rD X.K Q) (match tupsOf ds with
        | some nss => if nss.length < 64 then .ok (.int ((dd nss).length : Nat)) else .no
        | none => .no) := h1
      rw [qn] at h2
      have h3 : PostO X.mg W σ G1 H1 (rD X.K Q) (if nss.length < 64 then .ok (.int ((dd nss).length : Nat)) else .no) := h2
      split at h3
      · rename_i hlt
        obtain ⟨ks, rfl, k2, k3⟩ := dq_tups d1 qn
        have hkl : ks.length = nss.length := by rw [← k3, List.length_map]
        refine ⟨a1, ks, rfl, .inl (rd_mono x1.gh r1), fun p hp => Same.seqT x1.gh (k2 p hp), by rw [hkl]; exact hlt, fun a2 L hn hs hs2 => ?_⟩
        refine ⟨a2, L, rfl, upd_same, fun p hp => Same.seqT (x1.gh.trans (same_upd hn)) (k2 p (hs p hp)), fun hnd => ?_⟩
        have e : L.length = (dd nss).length := by
          have hp : (L.map (·.2)).Perm (dd nss) := (List.perm_ext_iff_of_nodup hnd (nodup_dd _)).mpr fun y => by
            rw [mem_dd, ← k3]
            constructor
            · intro hy
              obtain ⟨p, hp, rfl⟩ := List.mem_map.mp hy
              exact List.mem_map.mpr ⟨p, hs p hp, rfl⟩
            · intro hy
              obtain ⟨p, hp, rfl⟩ := List.mem_map.mp hy
              exact hs2 p hp
          have := hp.length_eq
          rwa [List.length_map] at this
        rw [e]
        exact h3 G1 _ (Ext.hid x1.gh hn) _ (.int _)
      · exact h3.elim
  | _ => exact False.elim h1
end
end
end DL
/-! DL25: comprehensions with two fors. -/
namespace DL
noncomputable section
open PySem PySem.Spec PyProof.Rows L2
def lc2M (f : PyData → Out (List PyData)) : List PyData → Out (List PyData)
  | [] => .ok []
  | d :: r => noEx (f d) >>= fun o => lc2M f r >>= fun t => .ok (o ++ t)
theorem lc2M_noex {f : PyData → Out (List PyData)} {c : Str} : ∀ {ds : List PyData}, lc2M f ds ≠ .ex c
  | [], h => by cases h
  | d :: r, h => by
    have h' : (noEx (f d) >>= fun o => lc2M f r >>= fun t => .ok (o ++ t)) = (.ex c : Out (List PyData)) := h
    cases q : f d with
    | ok o =>
      rw [q] at h'
      have h2 : (lc2M f r >>= fun t => .ok (o ++ t)) = (.ex c : Out (List PyData)) := h'
      cases q2 : lc2M f r with
      | ok t => rw [q2] at h2; cases h2
      | no => rw [q2] at h2; cases h2
      | ex c2 => rw [q2] at h2; cases h2; exact lc2M_noex q2
    | no => rw [q] at h'; cases h'
    | ex c2 => rw [q] at h'; cases h'
theorem lc2M_cons {f : PyData → Out (List PyData)} {d : PyData} {r t : List PyData} (h : lc2M f (d :: r) = .ok t) : ∃ o t', f d = .ok o ∧ lc2M f r = .ok t' ∧ t = o ++ t' := by
  have h' : (noEx (f d) >>= fun o => lc2M f r >>= fun t => .ok (o ++ t)) = .ok t := h
  cases q : f d with
  | ok o =>
    rw [q] at h'
    have h2 : (lc2M f r >>= fun t => .ok (o ++ t)) = .ok t := h'
    cases q2 : lc2M f r with
    | ok t' => rw [q2] at h2; cases h2; exact ⟨o, t', rfl, rfl, rfl⟩
    | no => rw [q2] at h2; cases h2
    | ex c2 => rw [q2] at h2; cases h2
  | no => rw [q] at h'; cases h'
  | ex c2 => rw [q] at h'; cases h'
/-- one turn of the outer for -/
def step2 (g : MG) (mt : MB) (mi1 : ML) (g1 : MG) (mt1 : MB) (me : MD) (vs1 : List Nat) (ρ : Ro) (d : PyData) : Out (List PyData) := match g d ρ with
  | some ρ1 => mt ρ1 >>= fun t => if t then mi1 ρ1 >>= fun ds => lcM (stpF g1 mt1 me (wipeR ρ1 vs1)) ds else .ok []
  | none => .no
def lc2F (mi : ML) (g : MG) (mt : MB) (mi1 : ML) (g1 : MG) (mt1 : MB) (me : MD) (vs vs1 : List Nat) : ML := fun ρ => mi ρ >>= fun ds => lc2M (step2 g mt mi1 g1 mt1 me vs1 (wipeR ρ vs)) ds >>= fun all => if all.length ≤ sizeLine then .ok all else .no
theorem step2_ok {g : MG} {mt : MB} {mi1 : ML} {g1 : MG} {mt1 : MB} {me : MD} {vs1 : List Nat} {ρ : Ro} {d : PyData} {o : List PyData} (h : step2 g mt mi1 g1 mt1 me vs1 ρ d = .ok o) :
    ∃ ρ1, g d ρ = some ρ1 ∧ ((mt ρ1 = .ok true ∧ ∃ ds1, mi1 ρ1 = .ok ds1 ∧ lcM (stpF g1 mt1 me (wipeR ρ1 vs1)) ds1 = .ok o) ∨ (mt ρ1 = .ok false ∧ o = [])) := by
  unfold step2 at h
  cases q : g d ρ with
  | none => rw [q] at h; cases h
  | some ρ1 =>
    rw [q] at h
    refine ⟨ρ1, rfl, ?_⟩
    have h1 : (mt ρ1 >>= fun t => if t then mi1 ρ1 >>= fun ds => lcM (stpF g1 mt1 me (wipeR ρ1 vs1)) ds else .ok []) = .ok o := h
    cases q1 : mt ρ1 with
    | no => rw [q1] at h1; cases h1
    | ex c => rw [q1] at h1; cases h1
    | ok t =>
      rw [q1] at h1
      cases t with
      | false => cases h1; exact .inr ⟨rfl, rfl⟩
      | true =>
        have h2 : (mi1 ρ1 >>= fun ds => lcM (stpF g1 mt1 me (wipeR ρ1 vs1)) ds) = .ok o := h1
        cases q2 : mi1 ρ1 with
        | no => rw [q2] at h2; cases h2
        | ex c => rw [q2] at h2; cases h2
        | ok ds1 => rw [q2] at h2; exact .inl ⟨rfl, ds1, rfl, h2⟩
/-- D is no object of the frame: it may be counted to what stood before -/
theorem Rel.hide {K : PySem.W.Frag} {H0 G0 G H : Hp} {ρ : Ro} {σ : L2.St} {D : Addr} {u : HO} (r : Rel K H0 G0 G ρ σ H) (hH : H D = some u) (hG : G D = none) (h0 : H0 D = none) (hn : ∀ (i : Nat) (b : Ob) (p : Addr), ρ[i]? = some (.own b) → σ[i]? = some (some (.ref p)) → p ≠ D) : Rel K (upd H0 D u) G0 G ρ σ H := by
  refine ⟨⟨r.ext.g, fun a o e => ?_, r.ext.gh, fun a e n => ?_⟩, r.len, fun i s e => ?_, r.di⟩
  · by_cases ha : a = D
    · subst ha; rw [upd_same] at e; rw [hH]; exact e
    · rw [upd_ne ha] at e; exact r.ext.h a o e
  · by_cases ha : a = D
    · subst ha; exact hG
    · rw [upd_ne ha] at n; exact r.ext.fr a e n
  · obtain ⟨o, a, b⟩ := r.sl i s e
    refine ⟨o, a, ?_⟩
    cases s with
    | un => trivial
    | sh d => exact b
    | own ob =>
      obtain ⟨p, w, rfl, hp, ho, hg, h0'⟩ := b
      exact ⟨p, w, rfl, hp, ho, hg, by rw [upd_ne (hn i ob p e a)]; exact h0'⟩
theorem Rel.shown {K : PySem.W.Frag} {H0 G0 G H : Hp} {ρ : Ro} {σ : L2.St} {D : Addr} {u : HO} (r : Rel K (upd H0 D u) G0 G ρ σ H) (h0 : H0 D = none) : Rel K H0 G0 G ρ σ H ∧ ∀ (i : Nat) (b : Ob) (p : Addr), ρ[i]? = some (.own b) → σ[i]? = some (some (.ref p)) → p ≠ D := by
  have key : ∀ (i : Nat) (b : Ob) (p : Addr), ρ[i]? = some (.own b) → σ[i]? = some (some (.ref p)) → p ≠ D := fun i b p e es z => by
    obtain ⟨p', w, es', _, _, _, h0'⟩ := r.getOwn e
    rw [es] at es'
    cases es'
    subst z
    rw [upd_same] at h0'
    cases h0'
  refine ⟨⟨⟨r.ext.g, fun a o e => r.ext.h a o (by rw [upd_ne (ne_of_none e h0)]; exact e), r.ext.gh, fun a e n => r.ext.fr a e (by
    by_cases ha : a = D
    · subst ha; rw [upd_same]; simp
    · rw [upd_ne ha]; exact n)⟩, r.len, fun i s e => ?_, r.di⟩, key⟩
  obtain ⟨o, a, b⟩ := r.sl i s e
  refine ⟨o, a, ?_⟩
  cases s with
  | un => trivial
  | sh d => exact b
  | own ob =>
    obtain ⟨p, w, rfl, hp, ho, hg, h0'⟩ := b
    exact ⟨p, w, rfl, hp, ho, hg, by rw [upd_ne (key i ob p e a)] at h0'; exact h0'⟩
section
variable {X : Cx} {W : WX} {elt tg iter tg1 iter1 : Expr} {ifs ifs1 : List Expr} {mi mi1 : ML} {g g1 : MG} {mt mt1 : MB} {me : MD} {ix ix1 : List Nat} {scope : Scope} {own : List (Str × Nat)} {pos : Pos}
theorem lc2_reading {vs vs1 : List Nat} (hix : ∀ j ∈ ix, j ∈ vs) (hix1 : ∀ j ∈ ix1, j ∈ vs1) {σ : L2.St} {H : Hp} {Q : VK} (h : tF X.K X.mg W (lc2F mi g mt mi1 g1 mt1 me vs vs1) σ H Q) :
    tLc2 (tI X.K X.mg W mi) (tG X.K g ix) (tT X.K X.mg W0 mt) (tI X.K X.mg W0 mi1) (tG X.K g1 ix1) (tT X.K X.mg W0 mt1) (tD X.K X.mg W0 me) vs vs1 σ H Q := by
  obtain ⟨H0, G0, G, ρ, r, h⟩ := h
  refine ⟨H0, G0, G, ρ, r, (PostO.bind h).mono fun ds G1 H1 _ x1 h1 J hJ D hD => ?_⟩
  obtain ⟨all, hall⟩ : ∃ all, lc2M (step2 g mt mi1 g1 mt1 me vs1 (wipeR ρ vs)) ds = .ok all := by
    cases q : lc2M (step2 g mt mi1 g1 mt1 me vs1 (wipeR ρ vs)) ds with
    | no => rw [q] at h1; exact h1.elim
    | ex c => exact absurd q lc2M_noex
    | ok all => exact ⟨all, rfl⟩
  rw [hall] at h1
  have h1' : PostO X.mg W σ G1 H1 (rF X.K H Q) (if all.length ≤ sizeLine then .ok all else .no) := h1
  have hz : all.length ≤ sizeLine := by
    by_cases hz : all.length ≤ sizeLine
    · exact hz
    · rw [if_neg hz] at h1'; exact h1'.elim
  rw [if_pos hz] at h1'
  have h2 : PostO X.mg W σ G1 H1 (rF X.K H Q) (.ok all) := h1'
  have r1 := r.step x1
  have g1D : G1 D = none := x1.gh.free hD
  refine ⟨fun i m H2 => ∃ G2 acc accd t, i ≤ ds.length ∧ m = ds.length - i ∧ Ext G1 H1 G2 H2 ∧ H2 D = some (.lst acc) ∧ G2 D = none ∧ DqAll X.K G2 acc accd ∧ lc2M (step2 g mt mi1 g1 mt1 me vs1 (wipeR ρ vs)) (ds.drop i) = .ok t ∧ all = accd ++ t,
    ⟨ds.length, G1, [], [], all, Nat.zero_le _, rfl, Ext.hid x1.gh hD, upd_same, g1D, .nil, hall, rfl⟩, ?_⟩
  rintro i m H2 ⟨G2, acc, accd, t, hi, rfl, x2, h2D, g2D, hacc, ht, hal⟩
  by_cases hlt : i < ds.length
  · refine .inr ⟨hJ.go i H2 (x2.g.trans x2.gh) hlt, fun H' => ∃ G2 acc accd t, i + 1 ≤ ds.length ∧ Ext G1 H1 G2 H' ∧ H' D = some (.lst acc) ∧ G2 D = none ∧ DqAll X.K G2 acc accd ∧ lc2M (step2 g mt mi1 g1 mt1 me vs1 (wipeR ρ vs)) (ds.drop (i + 1)) = .ok t ∧ all = accd ++ t,
      fun H' ⟨G3, a3, b3, t3, k1, k2, k3⟩ => ⟨ds.length - (i + 1), by omega, G3, a3, b3, t3, k1, rfl, k2, k3⟩, fun x H' y => ?_⟩
    obtain ⟨d, G3, hd, x3, dx⟩ := hJ.yld i H2 x H' G2 x2.g x2.gh y hlt
    have ed : ds.drop i = d :: ds.drop (i + 1) := by
      rw [List.getElem?_eq_getElem hlt] at hd
      cases hd
      exact List.drop_eq_getElem_cons hlt
    rw [ed] at ht
    obtain ⟨o, t', hf, ht', eo⟩ := lc2M_cons ht
    obtain ⟨ρ1, hg1, hcase⟩ := step2_ok hf
    have rr := ((r1.step x2).step x3)
    have g3D : G3 D = none := x3.fr D g2D (by rw [h2D]; simp)
    have h3D : H' D = some (.lst acc) := x3.h _ _ h2D
    have hD0 : H0 D = none := by
      cases q : H0 D with
      | none => rfl
      | some o => rw [x1.h _ _ (r.ext.h _ _ q)] at hD; cases hD
    have rh := Rel.hide (wipe_rel rr vs) h3D g3D hD0 fun i b p e es z => by
      obtain ⟨p', w, es', hp', _⟩ := (wipe_rel r1 vs).getOwn e
      rw [es] at es'
      cases es'
      subst z
      rw [hD] at hp'
      cases hp'
    refine ⟨upd H0 D (.lst acc), G0, G3, wipeR ρ vs, d, ρ1, rh, dx, hg1, fun σ2 r2h b2 => ⟨?_, H0, G0, G3, ρ1, (Rel.shown r2h hD0).1, ?_⟩⟩
    · exact (wipe_but b2 hix).trans (wipe_wipe σ vs)
    · obtain ⟨r2, nD⟩ := Rel.shown r2h hD0
      rcases hcase with ⟨q1, ds1, q2, q3⟩ | ⟨q1, rfl⟩
      · rw [q1]
        intro G4 H4 x4
        simp only [rB, if_true]
        refine ⟨H0, G0, G4, ρ1, r2.step x4, ?_⟩
        rw [q2]
        intro G5 H5 x5 J1 hJ1
        have g4D : G4 D = none := x4.fr D g3D (by rw [h3D]; simp)
        have h4D : H4 D = some (.lst acc) := x4.h _ _ h3D
        have g5D : G5 D = none := x5.fr D g4D (by rw [h4D]; simp)
        have h5D : H5 D = some (.lst acc) := x5.h _ _ h4D
        have x15 : Ext G1 H1 G5 H5 := ((x2.trans x3).trans x4).trans x5
        have r5 := (r2.step x4).step x5
        refine ⟨fun j k H6 => ∃ G6 acc6 accd6 t6, j ≤ ds1.length ∧ k = ds1.length - j ∧ Ext G1 H1 G6 H6 ∧ Same G5 G6 ∧ Rel X.K H0 G0 G6 ρ1 σ2 H6 ∧ H6 D = some (.lst acc6) ∧ G6 D = none ∧ DqAll X.K G6 acc6 accd6 ∧ lcM (stpF g1 mt1 me (wipeR ρ1 vs1)) (ds1.drop j) = .ok t6 ∧ all = accd6 ++ (t6 ++ t'),
          ⟨ds1.length, G5, acc, accd, o, Nat.zero_le _, rfl, x15, .refl _, r5, h5D, g5D, dpAll_mono ((x3.g.trans x4.g).trans x5.g) hacc, q3, by rw [hal, eo]⟩, ?_⟩
        rintro j k H6 ⟨G6, acc6, accd6, t6, hj, rfl, x16, s56, r6, h6D, g6D, hacc6, ht6, hal6⟩
        by_cases hjl : j < ds1.length
        · refine .inr ⟨hJ1.go j H6 (s56.trans x16.gh) hjl, fun H7 => ∃ G6 acc6 accd6 t6, j + 1 ≤ ds1.length ∧ Ext G1 H1 G6 H7 ∧ Same G5 G6 ∧ Rel X.K H0 G0 G6 ρ1 σ2 H7 ∧ H7 D = some (.lst acc6) ∧ G6 D = none ∧ DqAll X.K G6 acc6 accd6 ∧ lcM (stpF g1 mt1 me (wipeR ρ1 vs1)) (ds1.drop (j + 1)) = .ok t6 ∧ all = accd6 ++ (t6 ++ t'),
            fun H7 ⟨G8, a8, b8, t8, k1, k2, k3⟩ => ⟨ds1.length - (j + 1), by omega, G8, a8, b8, t8, k1, rfl, k2, k3⟩, fun y H7 yy => ?_⟩
          obtain ⟨e, G7, he, x7, dy⟩ := hJ1.yld j H6 y H7 G6 s56 x16.gh yy hjl
          have ee : ds1.drop j = e :: ds1.drop (j + 1) := by
            rw [List.getElem?_eq_getElem hjl] at he
            cases he
            exact List.drop_eq_getElem_cons hjl
          rw [ee] at ht6
          obtain ⟨o7, t7, hf7, ht7, eo7⟩ := lcM_cons ht6
          obtain ⟨ρ2, hg2, hcase7⟩ := stpF_ok hf7
          have r7 := r6.step x7
          refine ⟨H0, G0, G7, wipeR ρ1 vs1, e, ρ2, wipe_rel r7 vs1, dy, hg2, fun σ3 r3 b3 => ⟨(wipe_but b3 hix1).trans (wipe_wipe σ2 vs1), H0, G0, G7, ρ2, r3, ?_⟩⟩
          have g7D : G7 D = none := x7.fr D g6D (by rw [h6D]; simp)
          have h7D : H7 D = some (.lst acc6) := x7.h _ _ h6D
          rcases hcase7 with ⟨p1, y1, p2, rfl⟩ | ⟨p1, rfl⟩
          · rw [p1]
            intro G8 H8 x8
            simp only [rB, if_true]
            refine ⟨H0, G0, G8, ρ2, r3.step x8, ?_⟩
            rw [p2]
            intro G9 H9 x9 v hv
            have g8D : G8 D = none := x8.fr D g7D (by rw [h7D]; simp)
            have h8D : H8 D = some (.lst acc6) := x8.h _ _ h7D
            have g9D : G9 D = none := x9.fr D g8D (by rw [h8D]; simp)
            have h9D : H9 D = some (.lst acc6) := x9.h _ _ h8D
            have x69 : Ext G6 H6 G9 H9 := (x7.trans x8).trans x9
            have e19 : Ext G1 H1 G9 H9 := x16.trans x69
            have upE : ∀ {Ga Ha : Hp}, Ext Ga Ha G9 H9 → Ha D = none → Ext Ga Ha G9 (upd H9 D (.lst (acc6 ++ [v]))) := fun {Ga Ha} z zn =>
              ⟨z.g, fun b o e => by rw [upd_ne (ne_of_none e zn)]; exact z.h b o e, fun b o e => by rw [upd_ne (ne_of_none e g9D)]; exact z.gh b o e, z.fr⟩
            refine ⟨acc6, h9D, ?_, G9, acc6 ++ [v], accd6 ++ [y1], t7, hjl, upE e19 hD, s56.trans x69.g, ?_, upd_same, g9D, dpAll_append (dpAll_mono x69.g hacc6) (.cons hv .nil), ht7, ?_⟩
            · rw [dpAll_len hacc6]
              have : all.length = accd6.length + (t6.length + t'.length) := by rw [hal6]; simp
              have h0 : 0 < t6.length := by rw [eo7]; simp [oCons]
              omega
            · have r9 := r6.step x69
              refine ⟨upE r9.ext hD0, r9.len, fun i' s' e' => ?_, r9.di⟩
              obtain ⟨o', a', b'⟩ := r9.sl i' s' e'
              refine ⟨o', a', ?_⟩
              cases s' with
              | un => trivial
              | sh d' => exact b'
              | own ob =>
                obtain ⟨p', w', ep', hp', ho', hg', h0'⟩ := b'
                refine ⟨p', w', ep', ?_, ho', hg', h0'⟩
                have hne : p' ≠ D := nD i' ob p' e' (by rw [a', ep'])
                rw [upd_ne hne]; exact hp'
            · rw [hal6, eo7]
              simp [oCons]
          · rw [p1]
            intro G8 H8 x8
            simp only [rB, Bool.false_eq_true, if_false]
            have x68 := x7.trans x8
            exact ⟨G8, acc6, accd6, t7, hjl, x16.trans x68, s56.trans x68.g, r6.step x68, x8.h _ _ h7D, x8.fr D g7D (by rw [h7D]; simp), dpAll_mono x68.g hacc6, ht7, by rw [hal6, eo7]; rfl⟩
        · have e : j = ds1.length := by omega
          subst e
          refine .inl ⟨hJ1.stop _ H6 (s56.trans x16.gh) (Nat.le_refl _), ?_⟩
          rw [List.drop_length] at ht6
          cases ht6
          exact ⟨G6, acc6, accd6, t', hlt, x16, h6D, g6D, hacc6, ht', by rw [hal6]; rfl⟩
      · rw [q1]
        intro G4 H4 x4
        simp only [rB, Bool.false_eq_true, if_false]
        exact ⟨G4, acc, accd, t', hlt, (x2.trans x3).trans x4, x4.h _ _ h3D, x4.fr D g3D (by rw [h3D]; simp), dpAll_mono (x3.g.trans x4.g) hacc, ht', by rw [hal, eo]; rfl⟩
  · have e : i = ds.length := by omega
    subst e
    refine .inl ⟨hJ.stop _ H2 (x2.g.trans x2.gh) (Nat.le_refl _), ?_⟩
    have et : t = [] := by
      rw [List.drop_length] at ht
      cases ht
      rfl
    rw [et, List.append_nil] at hal
    subst hal
    exact h2 G2 H2 x2 D acc (x1.h.free hD) g2D h2D hacc
theorem df_lc2 {own : List (Str × Nat)} (vs1 : List Nat) (hN : X.N.Nodup) (hi : DI X W tg iter mi) (ok : blkC X.N X.env.scope scope own = true)
    (hg : ∀ s H C cl fp, DG (BX X scope s H C cl fp) tg g ix) (ht : ∀ s H C cl fp, PTs (BX X scope s H C cl fp) ifs (tT X.K X.mg W0 mt))
    (hi1 : ∀ s H C cl fp, DI (BX X scope s H C cl fp) W0 tg1 iter1 mi1) (hg1 : ∀ s H C cl fp, DG (BX X scope s H C cl fp) tg1 g1 ix1) (ht1 : ∀ s H C cl fp, PTs (BX X scope s H C cl fp) ifs1 (tT X.K X.mg W0 mt1))
    (he : ∀ s H C cl fp, DE (BX X scope s H C cl fp) W0 elt me) (hv : ∀ i ∈ vs1, i ∈ own.map (·.2) := by decide) (hix : ∀ j ∈ ix, j ∈ own.map (·.2) := by decide) (hix1 : ∀ j ∈ ix1, j ∈ vs1 := by decide) (hs : ∀ x, foldedSetIterable iter X.env x = pure x := by intro _; rfl) (hs1 : ∀ env x, foldedSetIterable iter1 env x = pure x := by intro _ _; rfl) (hc : X.calm = true := by rfl) :
    DF X W (.ListComp elt [⟨tg, iter, ifs, 0⟩, ⟨tg1, iter1, ifs1, 0⟩] scope pos) (lc2F mi g mt mi1 g1 mt1 me (own.map (·.2)) vs1) :=
  pe_imp (pe_lc2 (wi1 := tI X.K X.mg W0 mi1) (g := tG X.K g ix) (tt := tT X.K X.mg W0 mt) (g1 := tG X.K g1 ix1) (tt1 := tT X.K X.mg W0 mt1) (te := tD X.K X.mg W0 me) hc hN hi (blkOk_by ok) hv hg ht hi1 hg1 ht1 he hs hs1) fun σ H Q h => lc2_reading hix hix1 h
theorem ds_setLc2 {own : List (Str × Nat)} {x : Str} {pos' p2 : Pos} (i : Nat) (vs1 : List Nat) (hN : X.N.Nodup) (hi : DI X W tg iter mi) (ok : blkC X.N X.env.scope scope own = true)
    (hg : ∀ s H C cl fp, DG (BX X scope s H C cl fp) tg g ix) (ht : ∀ s H C cl fp, PTs (BX X scope s H C cl fp) ifs (tT X.K X.mg W0 mt))
    (hi1 : ∀ s H C cl fp, DI (BX X scope s H C cl fp) W0 tg1 iter1 mi1) (hg1 : ∀ s H C cl fp, DG (BX X scope s H C cl fp) tg1 g1 ix1) (ht1 : ∀ s H C cl fp, PTs (BX X scope s H C cl fp) ifs1 (tT X.K X.mg W0 mt1))
    (he : ∀ s H C cl fp, DE (BX X scope s H C cl fp) W0 elt me) (hsw : swapsWith (.ListComp elt [⟨tg, iter, ifs, 0⟩, ⟨tg1, iter1, ifs1, 0⟩] scope pos) (some (.Name x pos')) p2.line X.env = pure true) (hv : ∀ i ∈ vs1, i ∈ own.map (·.2) := by decide) (hix : ∀ j ∈ ix, j ∈ own.map (·.2) := by decide) (hix1 : ∀ j ∈ ix1, j ∈ vs1 := by decide)
    (hy : X.N[i]? = some x := by rfl) (hyl : X.env.scope.names.lookup x = some .local := by rfl) (hs : ∀ x, foldedSetIterable iter X.env x = pure x := by intro _; rfl) (hs1 : ∀ env x, foldedSetIterable iter1 env x = pure x := by intro _ _; rfl) (hc : X.calm = true := by rfl) :
    DS X W (.Assign [.Name x pos'] (.ListComp elt [⟨tg, iter, ifs, 0⟩, ⟨tg1, iter1, ifs1, 0⟩] scope pos) p2) (setFS i (lc2F mi g mt mi1 g1 mt1 me (own.map (·.2)) vs1)) :=
  ps_imp (ps_setLc2 (wi1 := tI X.K X.mg W0 mi1) (g := tG X.K g ix) (tt := tT X.K X.mg W0 mt) (g1 := tG X.K g1 ix1) (tt1 := tT X.K X.mg W0 mt1) (te := tD X.K X.mg W0 me) hc hN hy hyl hsw hi (blkOk_by ok) hv hg ht hi1 hg1 ht1 he hs hs1) fun D σ H h => by
    obtain ⟨H0, G0, G, ρ, r, h⟩ := h
    refine lc2_reading hix hix1 ⟨H0, G0, G, ρ, r, ?_⟩
    exact thenF_post r h fun ds G1 H1 _ x1 h1 p vs hn hg hp hv => h1 _ G1 H1 (.refl _) ((r.step x1).setOwn (b := .lst ds) hp hv hg (r.ext.h.free hn) (r.fresh_ne hn))
end
end
end DL
/-! DL26: min and max of three ints; a, b, c = a list. -/
namespace DL
noncomputable section
open PySem PySem.Spec PyProof.Rows L2
def mn3 (i j k : Int) : Int := if k < (if j < i then j else i) then k else if j < i then j else i
def mx3 (i j k : Int) : Int := if k > (if j > i then j else i) then k else if j > i then j else i
theorem mn3_pos {i j k : Int} : 0 < mn3 i j k ↔ 0 < i ∧ 0 < j ∧ 0 < k := by unfold mn3; repeat' split <;> omega
theorem mn3_zero {i j k : Int} : mn3 i j k = 0 ↔ (0 ≤ i ∧ 0 ≤ j ∧ 0 ≤ k) ∧ (i = 0 ∨ j = 0 ∨ k = 0) := by unfold mn3; repeat' split <;> omega
theorem mn3_neg {i j k : Int} : mn3 i j k < 0 ↔ i < 0 ∨ j < 0 ∨ k < 0 := by unfold mn3; repeat' split <;> omega
def minT : List PyData → Out PyData
  | [.int i, .int j, .int k] => .ok (.int (mn3 i j k))
  | _ => .no
def maxT : List PyData → Out PyData
  | [.int i, .int j, .int k] => .ok (.int (mx3 i j k))
  | _ => .no
@[simp] theorem minT_three (i j k : Int) : minT [.int i, .int j, .int k] = .ok (.int (mn3 i j k)) := rfl
@[simp] theorem maxT_three (i j k : Int) : maxT [.int i, .int j, .int k] = .ok (.int (mx3 i j k)) := rfl
theorem dq3 {K : PySem.W.Frag} {G : Hp} {vs : List V} {d d2 d3 : PyData} (h : DqAll K G vs [d, d2, d3]) : ∃ v w u, vs = [v, w, u] ∧ Dq K G v d ∧ Dq K G w d2 ∧ Dq K G u d3 := by
  cases h with | cons a b => cases b with | cons a2 b => cases b with | cons a3 b => cases b; exact ⟨_, _, _, rfl, a, a2, a3⟩
theorem vals3 {x y z : V} : ∀ {us : List Value}, Vals [x, y, z] us → ∃ u v w, us = [u, v, w] ∧ RelV x u ∧ RelV y v ∧ RelV z w
  | _, .cons a (.cons b (.cons c .nil)) => ⟨_, _, _, rfl, a, b, c⟩
section
variable {X : Cx}
theorem cr_min3 (hc : X.calm = true) : CallR X (.builtin "min") (fun xs H Q => ∃ i j k, xs = [.int i, .int j, .int k] ∧ Q (.int (mn3 i j k)) H) := by
  intro pins s σ H xs us Q I r h
  obtain ⟨i, j, k, rfl, q⟩ := h
  obtain ⟨u, v, w, rfl, ⟨t, rfl⟩, ⟨t', rfl⟩, ⟨t2, rfl⟩⟩ := vals3 r
  refine min_three_ints (I.ok.hd hc) fun h' tk kk => ⟨_, H, I.kept kk, ?_, q⟩
  unfold mn3
  by_cases h1 : j < i
  · rw [if_pos h1, if_pos h1]
    by_cases h2 : k < j
    · rw [if_pos h2, if_pos h2]; exact ⟨_, rfl⟩
    · rw [if_neg h2, if_neg h2]; exact ⟨_, rfl⟩
  · rw [if_neg h1, if_neg h1]
    by_cases h2 : k < i
    · rw [if_pos h2, if_pos h2]; exact ⟨_, rfl⟩
    · rw [if_neg h2, if_neg h2]; exact ⟨_, rfl⟩
theorem cr_max3 (hc : X.calm = true) : CallR X (.builtin "max") (fun xs H Q => ∃ i j k, xs = [.int i, .int j, .int k] ∧ Q (.int (mx3 i j k)) H) := by
  intro pins s σ H xs us Q I r h
  obtain ⟨i, j, k, rfl, q⟩ := h
  obtain ⟨u, v, w, rfl, ⟨t, rfl⟩, ⟨t', rfl⟩, ⟨t2, rfl⟩⟩ := vals3 r
  refine max_three_ints (I.ok.hd hc) fun h' tk kk => ⟨_, H, I.kept kk, ?_, q⟩
  unfold mx3
  by_cases h1 : j > i
  · rw [if_pos h1, if_pos h1]
    by_cases h2 : k > j
    · rw [if_pos h2, if_pos h2]; exact ⟨_, rfl⟩
    · rw [if_neg h2, if_neg h2]; exact ⟨_, rfl⟩
  · rw [if_neg h1, if_neg h1]
    by_cases h2 : k > i
    · rw [if_pos h2, if_pos h2]; exact ⟨_, rfl⟩
    · rw [if_neg h2, if_neg h2]; exact ⟨_, rfl⟩
theorem call_minT : CallD X (fun xs H Q => ∃ i j k, xs = [.int i, .int j, .int k] ∧ Q (.int (mn3 i j k)) H) minT := by
  intro mg W σ G H Q vs ds s hv h
  unfold minT at h
  split at h
  · obtain ⟨v, w, u, rfl, h1, h2, h3⟩ := dq3 hv
    obtain rfl := dp_int h1
    obtain rfl := dp_int h2
    obtain rfl := dp_int h3
    exact ⟨_, _, _, rfl, h.now s _ (.int _)⟩
  · exact h.elim
theorem call_maxT : CallD X (fun xs H Q => ∃ i j k, xs = [.int i, .int j, .int k] ∧ Q (.int (mx3 i j k)) H) maxT := by
  intro mg W σ G H Q vs ds s hv h
  unfold maxT at h
  split at h
  · obtain ⟨v, w, u, rfl, h1, h2, h3⟩ := dq3 hv
    obtain rfl := dp_int h1
    obtain rfl := dp_int h2
    obtain rfl := dp_int h3
    exact ⟨_, _, _, rfl, h.now s _ (.int _)⟩
  · exact h.elim
theorem rminT (hc : X.calm = true := by rfl) : CallR X (.builtin "min") (fun xs H Q => ∃ i j k, xs = [.int i, .int j, .int k] ∧ Q (.int (mn3 i j k)) H) := cr_min3 hc
theorem rmaxT (hc : X.calm = true := by rfl) : CallR X (.builtin "max") (fun xs H Q => ∃ i j k, xs = [.int i, .int j, .int k] ∧ Q (.int (mx3 i j k)) H) := cr_max3 hc
/-- a, b, c = a list -/
def gL (gs : MGs) : MG := fun d ρ => match d with
  | .list ds => gs ds ρ
  | _ => none
@[simp] theorem gL_list {gs : MGs} {ρ : Ro} (ds : List PyData) : gL gs (.list ds) ρ = gs ds ρ := rfl
theorem dg_unl {pos : Pos} {es : List Expr} {gs : MGs} {ix : List Nat} {k n : Nat} (h : DGs X es gs ix) (hlen : ∀ ds ρ ρ', gs ds ρ = some ρ' → ds.length = n) (hc : X.calm = true := by rfl) (hn : (assignEach es X.env).length = n := by rfl) (hst : (assignEach es X.env).findIdx? (·.1) = none := by rfl) : DG X (.Tuple es k pos) (gL gs) ix :=
  pg_imp (pg_unl hc h hn hst) fun v σ H Q ⟨H0, G0, G, ρ, d, ρ', r, hd, hg, h⟩ => by
    cases d with
    | list ds =>
      obtain ⟨a1, v1, rfl, r1, d1⟩ := dp_list hd
      exact ⟨a1, v1, rfl, .inl (rd_mono r.gh r1), by rw [dpAll_len d1]; exact hlen _ _ _ hg, H0, G0, G, ρ, ds, ρ', r, d1, hg, h⟩
    | _ => cases hg
end
end
end DL
/-! DL27: lists of ints and of triples as data: in, sorted; loops and tests for them. -/
namespace DL
noncomputable section
open PySem PySem.Spec PyProof.Rows L2
theorem eqv_int (i j : Int) : PyData.eqv (.int i) (.int j) = decide (i = j) := by simp [PyData.eqv]; exact Bool.beq_eq_decide_eq i j
theorem any_il (k : Int) (l : List Int) : ((il l).any fun z => PyData.eqv z (.int k)) = decide (k ∈ l) := by
  induction l with
  | nil => simp [il]
  | cons x r ih =>
    rw [il_cons, List.any_cons, ih, eqv_int]
    by_cases h : x = k
    · simp [h]
    · by_cases h2 : k ∈ r
      · simp [h2]
      · have : ¬ k = x := fun e => h e.symm
        simp [h, h2, this]
theorem in_il (k : Int) (l : List Int) : inD false (.int k) (.list (il l)) = .ok (.bool (decide (k ∈ l))) := by
  rw [inD_list, shaped_int, shaped_il, any_il]
  rfl
theorem notin_il (k : Int) (l : List Int) : inD true (.int k) (.list (il l)) = .ok (.bool (!decide (k ∈ l))) := by
  rw [inD_list, shaped_int, shaped_il, any_il]
  rfl
theorem nl_il (l : List Nat) : nl l = il (l.map fun (k : Nat) => (k : Int)) := by unfold nl il; rw [List.map_map]; rfl
theorem nl_len (l : List Nat) : (nl l).length = l.length := List.length_map ..
theorem nl_at (l : List Nat) (k : Nat) : (nl l)[k]? = (l[k]?).map fun (j : Nat) => PyData.int (j : Int) := List.getElem?_map ..
/-! sorted ints -/
def srtI (l : List Int) : List Int := l.mergeSort fun a b => decide (a ≤ b)
theorem srtI_perm (l : List Int) : (srtI l).Perm l := List.mergeSort_perm _ _
theorem srtI_up (l : List Int) : (srtI l).Pairwise (· ≤ ·) := by
  have := List.pairwise_mergeSort (le := fun a b : Int => decide (a ≤ b)) (fun a b c h1 h2 => by simp only [decide_eq_true_eq] at *; omega) (fun a b => by simp only [Bool.or_eq_true, decide_eq_true_eq]; omega) l
  exact this.imp fun h => by simpa using h
theorem srtI_one {l m : List Int} (h1 : m.Perm l) (h2 : m.Pairwise (· ≤ ·)) : srtI l = m :=
  List.Perm.eq_of_pairwise (le := fun a b : Int => a ≤ b) (fun a b _ _ h1 h2 => by omega) (srtI_up l) h2 ((srtI_perm l).trans h1.symm)
theorem sortL_il (l : List Int) : sortL (il l) = il (srtI l) := by
  have h : ∀ a b : Int, PySem.W.dataLe false (fun d : PyData => d) (.int a) (.int b) = decide (a ≤ b) := fun a b => by
    have := congrFun (congrFun (PySem.W.dataLe_int (β := Int) fun p => p) a) b
    exact this
  exact (List.map_mergeSort fun a _ b _ => (h a b).symm).symm
theorem sortOk_il {l : List Int} (h : l.length ≤ 16777216) : SortOk (il l) where
  al := PySem.W.AllAlike.of fun a b => by simp [PySem.W.alike]
  kind := PySem.W.Sortable.others fun a => ⟨by simp, by simp⟩
  shape := fun d hd => by
    obtain ⟨p, _, rfl⟩ := List.mem_map.mp hd
    exact (shK_int p).mono (by decide)
  size := by rw [il_len]; exact sizes h
theorem sortedF_il {l : List Int} (h : l.length ≤ 16777216) : sortedF [.list (il l)] = .ok (il (srtI l)) := by
  rw [sortedF_list, if_pos (sortOk_il h), sortL_il]
/-! triples of ints -/
abbrev Tp := Int × Int × Int
def tp3 (t : Tp) : PyData := .tuple [.int t.1, .int t.2.1, .int t.2.2]
def tl3 (l : List Tp) : List PyData := l.map tp3
theorem tl3_len (l : List Tp) : (tl3 l).length = l.length := List.length_map ..
theorem tl3_snoc (l : List Tp) (t : Tp) : tl3 l ++ [tp3 t] = tl3 (l ++ [t]) := by unfold tl3; rw [List.map_append]; rfl
theorem tl3_app (l m : List Tp) : tl3 l ++ tl3 m = tl3 (l ++ m) := (List.map_append ..).symm
theorem shK_tp3 (t : Tp) : ShK 1 (tp3 t) := shK_tuple fun e he => by
  simp only [List.mem_cons, List.not_mem_nil, or_false] at he
  rcases he with rfl | rfl | rfl <;> exact shK_int _
theorem shK_tl3 (l : List Tp) : ShK 2 (.list (tl3 l)) := shK_list fun d hd => by
  obtain ⟨t, _, rfl⟩ := List.mem_map.mp hd
  exact shK_tp3 t
/-! lists of tests -/
theorem all_map {α : Type} (l : List α) (p : α → Bool) : allD [.list (l.map fun x => PyData.bool (p x))] = .ok (.bool (l.all p)) := by
  have := allD_bools (l.map p)
  rw [List.map_map, List.all_map] at this
  exact this
theorem any_map {α : Type} (l : List α) (p : α → Bool) : anyD [.list (l.map fun x => PyData.bool (p x))] = .ok (.bool (l.any p)) := by
  have := anyD_bools (l.map p)
  rw [List.map_map, List.any_map] at this
  exact this
/-! two fors -/
theorem lc2_all {α β : Type} {mi mi1 : ML} {g g1 : MG} {me : MD} {vs vs1 : List Nat} {ρ : Ro} {l : List α} {u : α → PyData} {m : α → List β} {v : β → PyData} (hi : mi ρ = .ok (l.map u)) (hz : (l.flatMap m).length ≤ 16777216)
    (H : ∀ x ∈ l, step2 g yesB mi1 g1 yesB me vs1 (wipeR ρ vs) (u x) = .ok ((m x).map v)) : lc2F mi g yesB mi1 g1 yesB me vs vs1 ρ = .ok ((l.flatMap m).map v) := by
  have key : ∀ l : List α, (∀ x ∈ l, step2 g yesB mi1 g1 yesB me vs1 (wipeR ρ vs) (u x) = .ok ((m x).map v)) → lc2M (step2 g yesB mi1 g1 yesB me vs1 (wipeR ρ vs)) (l.map u) = .ok ((l.flatMap m).map v) := fun l => by
    induction l with
    | nil => exact fun _ => rfl
    | cons x r ih =>
      intro H
      rw [List.map_cons]
      show (noEx (step2 g yesB mi1 g1 yesB me vs1 (wipeR ρ vs) (u x)) >>= fun o => lc2M (step2 g yesB mi1 g1 yesB me vs1 (wipeR ρ vs)) (r.map u) >>= fun t => .ok (o ++ t)) = _
      rw [H x List.mem_cons_self, ih fun y hy => H y (List.mem_cons_of_mem _ hy), List.flatMap_cons, List.map_append]
      rfl
  show (mi ρ >>= fun ds => lc2M (step2 g yesB mi1 g1 yesB me vs1 (wipeR ρ vs)) ds >>= fun all => if all.length ≤ sizeLine then .ok all else .no) = _
  rw [hi, Out.ok_bind, key l H, Out.ok_bind, if_pos (by rw [List.length_map]; exact sizes hz)]
theorem step2_one {g g1 : MG} {mi1 : ML} {me : MD} {vs1 : List Nat} {ρ ρ1 : Ro} {d : PyData} {o ds : List PyData} (h1 : g d ρ = some ρ1) (h2 : mi1 ρ1 = .ok ds) (h3 : lcM (stpF g1 yesB me (wipeR ρ1 vs1)) ds = .ok o) : step2 g yesB mi1 g1 yesB me vs1 ρ d = .ok o := by
  unfold step2
  rw [h1]
  show (mi1 ρ1 >>= fun ds => lcM (stpF g1 yesB me (wipeR ρ1 vs1)) ds) = _
  rw [h2]
  exact h3
theorem tupsOf_pl : ∀ l : List Pt, tupsOf (pl l) = some (l.map fun p => [p.1, p.2])
  | [] => rfl
  | p :: l => by
    rw [pl_cons]
    unfold tupsOf
    rw [tupsOf_pl l]
    rfl
theorem nodup_pairs (l : List Pt) : (l.map fun p => [p.1, p.2]).Nodup ↔ l.Nodup := by
  constructor
  · intro h
    exact (List.pairwise_map.mp h).imp fun hne e => hne (by rw [e])
  · intro h
    exact List.pairwise_map.mpr (h.imp fun hne e => hne (by
      injection e with e1 e2
      injection e2 with e2 _
      exact Prod.ext e1 e2))
end
end DL
/-! DL28: repr of small data; texts compared. -/
namespace DL
noncomputable section
open PySem PySem.Spec PyProof.Rows L2
@[simp] theorem eqD_str (x y : Str) : eqD (.str x) (.str y) = .ok (.bool (decide (x = y))) := by
  unfold eqD
  rw [show both (.str x) (.str y) = true from rfl, Bool.or_true, if_pos rfl, eqv_str]
  simp
@[simp] theorem neD_str (x y : Str) : neD (.str x) (.str y) = .ok (.bool (!decide (x = y))) := by
  unfold neD
  rw [show both (.str x) (.str y) = true from rfl, Bool.or_true, if_pos rfl, eqv_str]
  simp
/-- data of k levels of small ints, with n leaves at most -/
structure Rp (n : Nat) (d : PyData) : Prop where
  sh : d.showable = true
  nd : d.hasDict = false
  ls : d.leavesShort 13 = true
  wt : d.weight ≤ n
theorem Rp.mono {n m : Nat} {d : PyData} (h : Rp n d) (hm : n ≤ m) : Rp m d := ⟨h.sh, h.nd, h.ls, Nat.le_trans h.wt hm⟩
theorem rp_int {i : Int} (h1 : -999999999999 ≤ i) (h2 : i ≤ 999999999999) : Rp 64 (.int i) := by
  have hb : i.natAbs < 2 ^ 63 := by omega
  have hl : i.natAbs.log2 < 63 := by
    have := PySem.Flt.log2_lt_of (k := 63) (by decide) hb
    omega
  refine ⟨by simp only [PyData.showable, decide_eq_true_eq]; omega, by simp only [PyData.hasDict], ?_, ?_⟩
  · simp only [PyData.leavesShort, decide_eq_true_eq]
    exact PyData.shown_int_le2 h1 h2
  · simp only [PyData.weight]
    split <;> omega
theorem rp_all {n : Nat} : ∀ {ds : List PyData}, (∀ d ∈ ds, Rp n d) → PyData.showableAll ds = true ∧ PyData.hasDictAll ds = false ∧ PyData.leavesShortAll 13 ds = true ∧ PyData.weightAll ds ≤ ds.length * (n + 1)
  | [], _ => ⟨rfl, rfl, rfl, by simp [PyData.weightAll]⟩
  | d :: ds, h => by
    have h1 := h d List.mem_cons_self
    obtain ⟨a, b, c, e⟩ := rp_all fun x hx => h x (List.mem_cons_of_mem _ hx)
    refine ⟨by simp [PyData.showableAll, h1.sh, a], by simp [PyData.hasDictAll, h1.nd, b], by simp [PyData.leavesShortAll, h1.ls, c], ?_⟩
    have := h1.wt
    simp only [PyData.weightAll, List.length_cons]
    rw [Nat.add_mul]
    omega
theorem rp_list {n m : Nat} {ds : List PyData} (h : ∀ d ∈ ds, Rp n d) (hm : ds.length * (n + 1) ≤ m) : Rp m (.list ds) := by
  obtain ⟨a, b, c, e⟩ := rp_all h
  exact ⟨by simp only [PyData.showable, a], by simp only [PyData.hasDict, b], by simp only [PyData.leavesShort, c], by simp only [PyData.weight]; omega⟩
theorem rp_tuple {n m : Nat} {ds : List PyData} (h : ∀ d ∈ ds, Rp n d) (hm : ds.length * (n + 1) ≤ m) : Rp m (.tuple ds) := by
  obtain ⟨a, b, c, e⟩ := rp_all h
  exact ⟨by simp only [PyData.showable, a], by simp only [PyData.hasDict, b], by simp only [PyData.leavesShort, c], by simp only [PyData.weight]; omega⟩
theorem reprOk_of {n k : Nat} {d : PyData} (h : Rp n d) (hn : n ≤ 1048576) (hk : ShK k d) (hk2 : k ≤ 20) (hb : (∃ xs, d = .list xs) ∨ ∃ xs, d = .tuple xs) : ReprOk d := by
  have hw : d.weight ≤ 2 ^ 20 := by
    have := h.wt
    have e : (2 : Nat) ^ 20 = 1048576 := by decide
    omega
  exact ⟨h.sh, h.nd, PyData.shown_fits (B := 13) (by decide) (by decide) h.ls hw, hk.mono hk2, hb⟩
theorem reprD_ok {d : PyData} (h : ReprOk d) : reprD [d] = .ok (.str d.shown) := by
  show (if ReprOk d then Out.ok (PyData.str d.shown) else .no) = _
  rw [if_pos h]
end
end DL
/-! DL29: dict(xs), sorted(d), d's own defs. -/
namespace DL
noncomputable section
open PySem PySem.Spec PyProof.Rows L2
def rowK : PyData → Option (Key × PyData)
  | .tuple [k, d] => (keyD k).map fun k => (k, d)
  | _ => none
def rowsK : List PyData → Option Ks
  | [] => some []
  | d :: ds => match rowK d, rowsK ds with
    | some k, some ks => some (k :: ks)
    | _, _ => none
def mergeD (ks more : Ks) : Ks := more.foldl (fun a kv => setK a kv.1 kv.2) ks
def dicD : List PyData → Out Ks
  | [.list ds] => match rowsK ds with
    | some ks => .ok (mergeD [] ks)
    | none => .no
  | _ => .no
theorem kd_merge {K : PySem.W.Frag} {G : Hp} : ∀ {more : Ks} {km : List (Key × V)} {ks : Ks} {kvs : List (Key × V)}, Paired (KD K G) more km → Paired (KD K G) ks kvs → Paired (KD K G) (mergeD ks more) (mergeK kvs km)
  | _, _, _, _, .nil, h => h
  | p :: more, q :: km, ks, kvs, .cons a t, h => by
    have e : Paired (KD K G) (setK ks p.1 p.2) (putK kvs q.1 q.2) := by
      rw [← a.1]
      exact kd_put h a.2
    show Paired _ (mergeD (setK ks p.1 p.2) more) (mergeK (putK kvs q.1 q.2) km)
    exact kd_merge t e
theorem row_of {K : PySem.W.Frag} {G : Hp} {v : V} {d : PyData} {k : Key × PyData} (h : rowK d = some k) (hd : Dq K G v d) : ∃ p w, v = .ref p ∧ SqT K G p [kV k.1, w] ∧ Dq K G w k.2 := by
  unfold rowK at h
  split at h
  · rename_i kd x
    obtain ⟨a, vs, rfl, ht, hv⟩ := dp_tuple hd
    obtain ⟨u, w, rfl, h1, h2⟩ := dq2 hv
    cases hk : keyD kd with
    | none => rw [hk] at h; cases h
    | some key =>
      rw [hk] at h
      cases h
      obtain rfl := keyD_v hk h1
      exact ⟨a, w, rfl, ht, h2⟩
  · cases h
theorem rows_of {K : PySem.W.Frag} {G H : Hp} (s : Same G H) : ∀ {ds : List PyData} {ks : Ks} {vs : List V}, rowsK ds = some ks → DqAll K G vs ds → ∃ ps kvs, vs = ps.map V.ref ∧ Paired (fun p (kv : Key × V) => SqT K H p [kV kv.1, kv.2]) ps kvs ∧ Paired (KD K G) ks kvs
  | _, _, _, h, .nil => by cases h; exact ⟨[], [], rfl, .nil, .nil⟩
  | d :: ds, ks, v :: vs, h, .cons hd ht => by
    unfold rowsK at h
    split at h
    · rename_i k ks' e1 e2
      cases h
      obtain ⟨p, w, rfl, hs, hw⟩ := row_of e1 hd
      obtain ⟨ps, kvs, rfl, h1, h2⟩ := rows_of s e2 ht
      exact ⟨p :: ps, (k.1, w) :: kvs, rfl, .cons (Same.seqT s hs) h1, .cons ⟨rfl, hw⟩ h2⟩
    · cases h
abbrev MK := Ro → Out Ks
def rDic (X : Cx) : List V → Hp → VK → Prop := fun xs H Q => ∃ (a : Addr) (ps : List Addr) (kvs : List (Key × V)), xs = [.ref a] ∧ SqL X.K H a (ps.map V.ref) ∧ Paired (fun p (kv : Key × V) => SqT X.K H p [kV kv.1, kv.2]) ps kvs ∧
    ∀ p, H p = none → Q (.ref p) (upd H p (.dK (mergeK [] kvs)))
/-- what is asked of a new dict -/
def rK (K : PySem.W.Frag) (H : Hp) (Q : VK) : Ks → Hp → Hp → Prop := fun ks G' H' => ∀ p us, H p = none → G' p = none → H' p = some (.dK us) → Paired (KD K G') ks us → Q (.ref p) H'
def tK (K : PySem.W.Frag) (mg : Str → Option Value) (W : WX) (m : MK) : TE := fun σ H Q => ∃ H0 G0 G ρ, Rel K H0 G0 G ρ σ H ∧ PostO mg W σ G H (rK K H Q) (m ρ)
def DK (X : Cx) (W : WX) (e : Expr) (m : MK) : Prop := PE X e (tK X.K X.mg W m)
def cK (f : List PyData → Out Ks) (ml : ML) : MK := fun ρ => ml ρ >>= f
section
variable {X : Cx} {W : WX} {e f a : Expr} {es : List Expr} {me mf ma : MD} {ml : ML} {mk : MK} {p pos p2 ap cp : Pos} {x : Str} {k : Nat}
theorem dk_dict (hc : X.calm = true) (hm : X.mg "dict" = none) (ha : DA X W [e] ml) (hg : Gl X "dict" := by rfl)
    (he : starEach [e] X.env = (false, eval e X.env) :: starEach [] X.env := by rfl) (hpl : (backTo pos (starEach [] X.env)).any (·.1) = false := by rfl) : DK X W (.Call (.Name "dict" p) [e] [] pos) (cK dicD ml) :=
  pe_imp (pe_callTy (call_dictP hc) hg hm (by rfl) ha (by decide) (by decide) he hpl) fun σ H Q ⟨H0, G0, G, ρ, r, h⟩ => by
    refine ⟨H0, G0, G, ρ, r, (PostO.bind h).mono fun ds G1 H1 _ x1 h1 vs hv => ?_⟩
    unfold dicD at h1
    split at h1
    · rename_i ls _
      obtain ⟨v, rfl, hd⟩ := dq1 hv
      obtain ⟨a1, v1, rfl, r1, d1⟩ := dp_list hd
      cases q : rowsK ls with
      | none => rw [q] at h1; exact h1.elim
      | some ks =>
        rw [q] at h1
        obtain ⟨ps, kvs, rfl, hp, hk⟩ := rows_of x1.gh q d1
        refine ⟨a1, ps, kvs, rfl, .inl (rd_mono x1.gh r1), hp, fun p hp => ?_⟩
        have x2 : Ext G1 H1 G1 (upd H1 p (.dK (mergeK [] kvs))) := Ext.hid x1.gh hp
        exact h1 G1 _ x2 p _ (x1.h.free hp) (x1.gh.free hp) upd_same (kd_merge hk .nil)
    · exact h1.elim
/-- x = dict(..) -/
def setKS (i : Nat) (mk : MK) : MS := fun ρ => thenF (mk ρ) ρ fun ks => .nx (ρ.set i (.own (.dic ks)))
theorem ds_setK (i : Nat) (hN : X.N.Nodup) (ha : DK X W a mk) (hi : X.N[i]? = some x := by rfl) (hx : Loc X.env.scope x := by first | exact Or.inl rfl | exact Or.inr rfl) (hs : swapsWith a (some (.Name x p2)) pos.line X.env = pure false := by rfl) (hf : X.fn x = true ∨ X.env.scope.names.lookup x = some .local := by first | exact .inl rfl | exact .inr rfl) :
    DS X W (.Assign [.Name x p2] a pos) (setKS i mk) := ps_imp (ps_set hN hi hx ha hs hf) fun D σ H ⟨H0, G0, G, ρ, r, h⟩ =>
  ⟨H0, G0, G, ρ, r, thenF_post r h fun ks G1 H1 _ x1 h1 p us hn hg hp hv => h1 _ G1 H1 (.refl _) ((r.step x1).setOwn (b := .dic ks) hp hv hg (r.ext.h.free hn) (r.fresh_ne hn))⟩
/-- dict(..).get(e, f) -/
def getKM (mk : MK) (me mf : MD) : MD := fun ρ => mk ρ >>= fun ks => me ρ >>= fun y => match keyD y with
    | some k => mf ρ >>= fun z => .ok ((getK ks k).getD z)
    | none => .no
theorem de_getK (hr : Room k X.A) (ha : DK X W a mk) (he : DE X W e me) (hf : DE X W f mf) (m : M2 X a "get" ap e f cp) : DE X W (.Call (.Attribute a "get" ap) [e, f] [] cp) (getKM mk me mf) := by
  refine pe_imp (pe_dget2 (by have := hr.un; omega) ha he hf m) fun σ H Q ⟨H0, G0, G, ρ, r, h⟩ => ?_
  refine ⟨H0, G0, G, ρ, r, (PostO.bind h).mono fun ks G0' H0' _ x0 h0 p us hn hg hp hpd => ?_⟩
  refine ⟨p, rfl, .inl ⟨us, .inl hp⟩, H0, G0, G0', ρ, r.step x0, (PostO.bind h0).mono fun kd G1 H1 _ x1 h1 y hy => ?_⟩
  split at h1
  · rename_i key hkey
    obtain rfl := keyD_v hkey hy
    refine ⟨H0, G0, G1, ρ, (r.step x0).step x1, (PostO.bind h1).mono fun z G2 H2 _ x2 h2 w hw => ?_⟩
    refine ⟨valV us key, .inl ⟨us, key, .inl (x2.h _ _ (x1.h _ _ hp)), rfl, rfl⟩, ?_⟩
    rcases kd_get (k := key) hpd with ⟨g1, g2⟩ | ⟨d, v, g1, g2, dv⟩
    · rw [g1] at h2
      rw [g2]
      exact h2.now x2.gh _ hw
    · rw [g1] at h2
      rw [g2]
      exact h2.now x2.gh _ (dp_mono (x1.g.trans x2.g) dv)
  · exact h1.elim
end
/-! ### sorted(x), x a dict of ours -/
def keyI : Key → Option Int
  | .inl i => some i
  | .inr _ => none
def keysI : Ks → Option (List Int)
  | [] => some []
  | k :: ks => match keyI k.1, keysI ks with
    | some i, some is => some (i :: is)
    | _, _ => none
theorem keysI_of : ∀ {ks : Ks} {is : List Int}, keysI ks = some is → ks.map (·.1) = is.map Sum.inl
  | [], _, h => by cases h; rfl
  | k :: ks, is, h => by
    unfold keysI at h
    split at h
    · rename_i i js e1 e2
      cases h
      rw [List.map_cons, List.map_cons, keysI_of e2]
      obtain ⟨kk, kd⟩ := k
      cases kk <;> cases e1
      rfl
    · cases h
theorem kd_keys {K : PySem.W.Frag} {G : Hp} : ∀ {ks : Ks} {kvs : List (Key × V)}, Paired (KD K G) ks kvs → kvs.map (·.1) = ks.map (·.1)
  | _, _, .nil => rfl
  | _, _, .cons h t => by rw [List.map_cons, List.map_cons, kd_keys t, h.1]
def ownSrt (i : Nat) : ML := fun ρ => match ρ[i]? with
  | some (.own (.dic ks)) => match keysI ks with
    | some is => if is.length < 64 then .ok ((srtI is).map .int) else .no
    | none => .no
  | _ => .no
section
variable {X : Cx} {W : WX} {p pos p2 : Pos} {x : Str}
theorem df_ownSrt (i : Nat) (hc : X.calm = true) (hm : X.mg "sorted" = none) (hN : X.N[i]? = some x := by rfl) (hv : Vis X.env.scope x := by first | exact Or.inl rfl | exact Or.inr (Or.inl rfl) | exact Or.inr (Or.inr rfl)) (hd : (x == ("__debug__" : Str)) = false := by decide)
    (hcd : (x == ("__classdict__" : Str)) = false := by decide) (hg : Gl X "sorted" := by rfl)
    (he : starEach [.Name x p2] X.env = (false, eval (.Name x p2) X.env) :: starEach [] X.env := by rfl) (hpl : (backTo pos (starEach [] X.env)).any (·.1) = false := by rfl) : DF X W (.Call (.Name "sorted" p) [.Name x p2] [] pos) (ownSrt i) :=
  pe_imp (pe_callB (call_sortedDI hc) hg hm (by rfl) (pa_cons (pe_var hN hv hd hcd) pa_nil he) (by decide) (by decide) he hpl) fun σ H Q ⟨H0, G0, G, ρ, r, h⟩ => by
    unfold ownSrt at h
    split at h
    · rename_i ks q
      obtain ⟨a1, u, es, hp, ho, hg, h0⟩ := r.getOwn q
      obtain ⟨kvs, rfl, hpd⟩ := ho.isDic
      split at h
      · rename_i is hk
        split at h
        · rename_i hz
          refine ⟨.ref a1, es, a1, kvs, is, rfl, .inl hp, (kd_keys hpd).trans (keysI_of hk), hz, fun ys p h1 h2 hp => ?_⟩
          have e : srtI is = ys := srtI_one h1 h2
          rw [e] at h
          exact h G _ (Ext.hid r.gh hp) p _ hp (r.gh.free hp) upd_same (by have := dpAll_ints (K := X.K) (G := G) ys; exact this)
        · exact h.elim
      · exact h.elim
    · exact h.elim
end
end
end DL
/-! DL30: defs that take a dict of ours: changed in place, or only read. -/
namespace DL
noncomputable section
open PySem PySem.Spec PyProof.Rows L2
/-- the heap without p -/
def hide (H : Hp) (p : Addr) : Hp := fun a => if a = p then none else H a
theorem hide_same (H : Hp) (p : Addr) : Same (hide H p) H := fun a o e => by
  unfold hide at e
  split at e
  · cases e
  · exact e
theorem hide_self (H : Hp) (p : Addr) : hide H p p = none := if_pos rfl
theorem hide_ne {H : Hp} {p a : Addr} (h : a ≠ p) : hide H p a = H a := if_neg h
theorem ext_hide {G H : Hp} {p : Addr} (s : Same G H) : Ext G (hide H p) G H := ⟨.refl _, hide_same H p, s, fun a e n => e⟩
theorem Ext.over {G0 H0 G H G' H' : Hp} {p : Addr} (a : Ext G0 H0 G H) (h0 : H0 p = none) (b : Ext G (hide H p) G' H') : Ext G0 H0 G' H' := by
  refine ⟨a.g.trans b.g, fun c o e => ?_, b.gh, fun c e n => ?_⟩
  · have ne : c ≠ p := by rintro rfl; rw [h0] at e; cases e
    exact b.h c o ((hide_ne ne).trans (a.h c o e))
  · have ne : c ≠ p := by rintro rfl; exact n h0
    refine b.fr c (a.fr c e n) ?_
    rw [hide_ne ne]
    intro z
    exact n (a.h.free z)
def startM (n : Nat) (ks : Ks) (ds : List PyData) : Ro := .own (.dic ks) :: start0 (n - 1) ds
section
variable {P : Program} {w : World} {K : PySem.W.Frag} {mg : Str → Option Value} {base : Heap}
theorem start_relM {N : List Str} {G H : Hp} {vs : List V} {ds : List PyData} {p : Addr} {us : List (Key × V)} {ks : Ks} (hn : 0 < N.length) (s : Same G H) (h : DqAll K G vs ds) (hp : H p = some (.dK us)) (hg : G p = none) (hk : Paired (KD K G) ks us) :
    Rel K (hide H p) G G (startM N.length ks ds) (L2.start N (.ref p :: vs)) H := by
  obtain ⟨n0, N', rfl⟩ : ∃ n0 N', N = n0 :: N' := by
    cases N with
    | nil => simp at hn
    | cons a b => exact ⟨a, b, rfl⟩
  have r := start_rel (ps := N') (N := N') s h
  have e1 : startM (n0 :: N').length ks ds = .own (.dic ks) :: start0 N'.length ds := rfl
  have e2 : L2.start (n0 :: N') (.ref p :: vs) = some (.ref p) :: L2.start N' vs := by
    unfold L2.start
    simp
  rw [e1, e2]
  refine ⟨ext_hide s, by simp [r.len], fun i z e => ?_, fun i j q b c x1 x2 x3 x4 => ?_⟩
  · cases i with
    | zero =>
      simp only [List.getElem?_cons_zero, Option.some.injEq] at e
      subst e
      exact ⟨_, rfl, p, .dK us, rfl, hp, hk, hg, hide_self H p⟩
    | succ i =>
      rw [List.getElem?_cons_succ] at e
      obtain ⟨o, a, b⟩ := r.sl i z e
      refine ⟨o, by rw [List.getElem?_cons_succ]; exact a, ?_⟩
      cases z with
      | un => trivial
      | sh d => exact b
      | own c =>
        exfalso
        unfold start0 at e
        by_cases hi : i < ds.length
        · rw [List.getElem?_append_left (by simpa using hi), List.getElem?_map, List.getElem?_eq_getElem hi] at e
          cases e
        · rw [List.getElem?_append_right (by simpa using hi), List.getElem?_replicate] at e
          split at e <;> cases e
  · have no : ∀ {l : Nat} {b : Ob}, (.own (.dic ks) :: start0 N'.length ds : Ro)[l]? = some (.own b) → l = 0 := fun {l b} e => by
      cases l with
      | zero => rfl
      | succ i =>
        exfalso
        rw [List.getElem?_cons_succ] at e
        unfold start0 at e
        by_cases hi : i < ds.length
        · rw [List.getElem?_append_left (by simpa using hi), List.getElem?_map, List.getElem?_eq_getElem hi] at e
          cases e
        · rw [List.getElem?_append_right (by simpa using hi), List.getElem?_replicate] at e
          split at e <;> cases e
    rw [no x1, no x2]
/-! ### x[e] = a, the def's whole body -/
abbrev FM := Ks → List PyData → Out Ks
def spM (K : PySem.W.Frag) (mg : Str → Option Value) (F : FM) : Sp := fun vs H Q E => ∃ G ds p us ks vs', vs = .ref p :: vs' ∧ Same G H ∧ G p = none ∧ H p = some (.dK us) ∧ Paired (KD K G) ks us ∧ DqAll K G vs' ds ∧
  PostO mg (wE E) [] G H (fun ks' G' H' => ∀ us', Paired (KD K G') ks' us' → Q .non (upd H' p (.dK us'))) (F ks ds)
def runM (np n : Nat) (me ma : MD) : FM := fun ks ds => if ds.length + 1 = np then (ma (startM n ks ds) >>= fun v => me (startM n ks ds) >>= fun y => match keyD y with
    | some k => if ks.length < sizeLine then .ok (setK ks k v) else .no
    | none => .no) else .no
theorem postS {σ : L2.St} {G H : Hp} {α : Type} {R : α → Hp → Hp → Prop} {o : Out α} {E : XK} (h : PostO mg (wE E) [] G H R o) : PostO mg (wE E) σ G H R o := by
  cases o with
  | no => exact h
  | ex c => exact h
  | ok a => exact h
theorem fun_M {x qual y : Str} {st : Stmt} {f : Addr} {fd : FuncData} {N ps : List Str} {k : Nat} {me ma : MD} {e a : Expr} {p sp pos : Pos} (Fu : Fun K x qual st f fd) (S : FnScope N ps (defScope st))
    (hbody : defBody st = [.Assign [.Subscript (.Name y p) e sp] a pos]) (hN : N[0]? = some y)
    (hb : ∀ (cdv : Value) (A : Around) (outer : List Env) (s : Shared) (H : Hp) (E : XK), Room k (A.deeper (envOfC qual (defScope st) s.heap.objs.size f cdv)) →
      let X := cxOf (L2.CX P w) P w K mg base N qual (defScope st) f cdv A outer s H E
      DE X (wE E) e me ∧ DE X (wE E) a ma ∧ Vis X.env.scope y ∧ (y == ("__debug__" : Str)) = false ∧ (y == ("__classdict__" : Str)) = false ∧ swapsWith a (some (.Subscript (.Name y p) e sp)) pos.line X.env = pure false) :
    FnOk P w K mg base (L2.CX P w) (k + 1) f fd ps (spM K mg (runM ps.length N.length me ma)) := by
  refine Fu.okX S (fun vs H Q E h => ?_) fun cdv A outer s H vs Q E hr h => ?_
  · obtain ⟨G, ds, q, us, ks, vs', rfl, sg, hg, hp, hk, hd, h⟩ := h
    unfold runM at h
    split at h
    · rename_i hc
      rw [List.length_cons, dpAll_len hd]; exact hc
    · exact h.elim
  · obtain ⟨he, ha, hv, hd1, hd2, hs⟩ := hb cdv A outer s H E hr
    rw [hbody]
    refine ⟨_, pss_one (ps_dput (show (A.deeper (envOfC qual (defScope st) s.heap.objs.size f cdv)).units + 1 < cLine from by have := hr.un; omega) (pe_var hN hv hd1 hd2) he ha hs), ?_⟩
    obtain ⟨G, ds, q, us, ks, vs', rfl, sg, hg, hp, hk, hd, h⟩ := h
    unfold runM at h
    split at h
    · rename_i hc
      have hn : 0 < N.length := by
        cases N with
        | nil => cases hN
        | cons _ _ => simp
      have r := start_relM (N := N) hn sg hd hp hg hk
      refine ⟨hide H q, G, G, _, r, (PostO.bind (postS h)).mono fun v G1 H1 _ x1 h1 u hu => ?_⟩
      have e0 : (L2.start N (.ref q :: vs'))[0]? = some (some (.ref q)) := by
        unfold L2.start
        simp
      refine ⟨.ref q, e0, hide H q, G, G1, _, r.step x1, (PostO.bind h1).mono fun y G2 H2 _ x2 h2 w hw => ?_⟩
      split at h2
      · rename_i key hkey
        obtain rfl := keyD_v hkey hw
        split at h2
        · rename_i hz
          have x3 := x1.trans x2
          exact ⟨q, _, rfl, .inl ⟨us, key, x3.h _ _ hp, rfl, by rw [← kd_len hk]; exact hz, rfl⟩, h2.now x2.gh _ (kd_put (kd_mono x3.g hk) (dp_mono x2.g hu))⟩
        · exact h2.elim
      · exact h2.elim
    · exact h.elim
/-! ### a def that reads its dict and hands back a new list -/
abbrev FR := Ks → Out (List PyData)
def spR (K : PySem.W.Frag) (_mg : Str → Option Value) (F : FR) : Sp := fun vs H Q _ => ∃ G p us ks, vs = [.ref p] ∧ Same G H ∧ G p = none ∧ H p = some (.dK us) ∧ Paired (KD K G) ks us ∧
  (match F ks with
    | .ok ds => ∀ q ws G' H', Ext G (hide H p) G' H' → hide H p q = none → G' q = none → H' q = some (.lst ws) → DqAll K G' ws ds → Q (.ref q) H'
    | _ => False)
def runR (n : Nat) (m : MS) : FR := fun ks => match m (startM n ks []) with
  | .rtF es => .ok es
  | _ => .no
theorem fun_R {x qual : Str} {st : Stmt} {f : Addr} {fd : FuncData} {N ps : List Str} {k : Nat} {m : MS} (Fu : Fun K x qual st f fd) (S : FnScope N ps (defScope st)) (hps : ps.length = 1) (hn : 0 < N.length)
    (hb : ∀ (cdv : Value) (A : Around) (outer : List Env) (s : Shared) (H : Hp) (E : XK), Room k (A.deeper (envOfC qual (defScope st) s.heap.objs.size f cdv)) → DSs (cxOf (L2.CX P w) P w K mg base N qual (defScope st) f cdv A outer s H E) (wE E) (defBody st) m) :
    FnOk P w K mg base (L2.CX P w) (k + 1) f fd ps (spR K mg (runR N.length m)) := by
  refine Fu.okX S (fun vs H Q E h => ?_) fun cdv A outer s H vs Q E hr h => ⟨_, hb cdv A outer s H E hr, ?_⟩
  · obtain ⟨G, q, us, ks, rfl, _⟩ := h
    exact hps.symm
  · obtain ⟨G, q, us, ks, rfl, sg, hg, hp, hk, h⟩ := h
    refine ⟨hide H q, G, G, _, start_relM (N := N) hn sg .nil hp hg hk, ?_⟩
    unfold runR at h
    cases z : m (startM N.length ks []) with
    | rtF es => rw [z] at h; exact fun p vs' G' H' _ x hn hg hp hv => h p vs' G' H' x hn hg hp hv
    | _ => rw [z] at h; exact h.elim
end
section
variable {X : Cx} {W : WX} {e : Expr} {es : List Expr} {ml : ML} {pos p p2 p3 : Pos} {x f : Str} {k : Nat} {ps : List Str} {F : FM} {FR' : FR}
/-- f(x, ..), x a dict of ours that f changes -/
def callMS (i : Nat) (F : FM) (ml : ML) : MS := fun ρ => match ρ[i]? with
  | some (.own (.dic ks)) => thenF (ml ρ >>= F ks) ρ fun ks' => .nx (ρ.set i (.own (.dic ks')))
  | _ => .no
theorem ds_callM (i : Nat) (C : Cal X.prog X.w X.K X.mg X.base k f ps (spM X.K X.mg F)) (hr : Room k X.A) (tk : Takes X W) (ha : DA X W es ml) (hg : Gl X f := by rfl) (hdb : (f == ("__debug__" : Str)) = false := by decide)
    (hN : X.N[i]? = some x := by rfl) (hv : Vis X.env.scope x := by first | exact Or.inl rfl | exact Or.inr (Or.inl rfl) | exact Or.inr (Or.inr rfl)) (hd : (x == ("__debug__" : Str)) = false := by decide) (hcd : (x == ("__classdict__" : Str)) = false := by decide)
    (he : starEach (.Name x p :: es) X.env = (false, eval (.Name x p) X.env) :: starEach es X.env := by rfl) (hpl : (backTo p3 (starEach es X.env)).any (·.1) = false := by rfl)
    (hsw : swapsWith (.Call (.Name f p2) (.Name x p :: es) [] p3) none pos.line X.env = pure false := by rfl) : DS X W (.Expr (.Call (.Name f p2) (.Name x p :: es) [] p3) pos) (callMS i F ml) := by
  obtain ⟨fa, fd, hm, hk, hb, hF⟩ := C.ex
  refine ps_imp (ps_expr (pe_callS hF hr hg hm hk hb (fun σ => passAt tk σ) (pa_cons (pe_var hN hv hd hcd) ha he) hdb he hpl) hsw) fun D σ H ⟨H0, G0, G, ρ, r, h⟩ => ?_
  unfold callMS at h
  split at h
  · rename_i ks q
    obtain ⟨a1, u, es', hp, ho, hg1, h0⟩ := r.getOwn q
    obtain ⟨us, rfl, hpd⟩ := ho.isDic
    have h2 := thenF_post (R := fun ks' G' H' => PostF X.K X.mg W D H0 G0 G' (.nx (ρ.set i (.own (.dic ks'))))) r h fun z G1 H1 _ x1 h1 => h1
    refine ⟨.ref a1, es', H0, G0, G, ρ, r, (PostO.bind h2).mono fun ds G1 H1 _ x1 h1 vs hvs => ?_⟩
    refine ⟨G1, ds, a1, us, ks, vs, rfl, x1.gh, x1.fr a1 hg1 (by rw [hp]; simp), x1.h _ _ hp, kd_mono x1.g hpd, hvs, ?_⟩
    refine postE (h1.mono fun ks' G2 H2 _ x2 h3 us' hu' => ?_)
    have x3 := x1.trans x2
    exact h3 σ G2 _ (.refl _) ((r.step x3).write (b' := .dic ks') q es' (x3.h _ _ hp) (x3.fr a1 hg1 (by rw [hp]; simp)) h0 (show Paired _ _ _ from hu'))
  · exact h.elim
/-- return f(x), x a dict of ours that f only reads -/
def retR (i : Nat) (F : FR) : MS := fun ρ => match ρ[i]? with
  | some (.own (.dic ks)) => match F ks with
    | .ok ds => .rtF ds
    | _ => .no
  | _ => .no
theorem ds_retR (i : Nat) (C : Cal X.prog X.w X.K X.mg X.base k f ps (spR X.K X.mg FR')) (hr : Room k X.A) (tk : Takes X W) (hg : Gl X f := by rfl) (hdb : (f == ("__debug__" : Str)) = false := by decide)
    (hN : X.N[i]? = some x := by rfl) (hv : Vis X.env.scope x := by first | exact Or.inl rfl | exact Or.inr (Or.inl rfl) | exact Or.inr (Or.inr rfl)) (hd : (x == ("__debug__" : Str)) = false := by decide) (hcd : (x == ("__classdict__" : Str)) = false := by decide)
    (he : starEach [.Name x p] X.env = (false, eval (.Name x p) X.env) :: starEach [] X.env := by rfl) (hpl : (backTo p3 (starEach [] X.env)).any (·.1) = false := by rfl) : DS X W (.Return (some (.Call (.Name f p2) [.Name x p] [] p3)) pos) (retR i FR') := by
  obtain ⟨fa, fd, hm, hk, hb, hF⟩ := C.ex
  refine ps_imp (ps_ret (pe_callS hF hr hg hm hk hb (fun σ => passAt tk σ) (pa_cons (pe_var hN hv hd hcd) pa_nil he) hdb he hpl)) fun D σ H ⟨H0, G0, G, ρ, r, h⟩ => ?_
  unfold retR at h
  split at h
  · rename_i ks q
    obtain ⟨a1, u, es', hp, ho, hg1, h0⟩ := r.getOwn q
    obtain ⟨us, rfl, hpd⟩ := ho.isDic
    refine ⟨.ref a1, es', G, a1, us, ks, rfl, r.gh, hg1, hp, hpd, ?_⟩
    cases z : FR' ks with
    | ok ds =>
      rw [z] at h
      intro q2 ws G' H' x hn hg' hp' hv'
      refine h q2 ws G' H' x.g (r.ext.over h0 x) ?_ hg' hp' hv'
      by_cases e : q2 = a1
      · rw [e]; exact h0
      · rw [hide_ne e] at hn; exact r.ext.h.free hn
    | no => rw [z] at h; exact h.elim
    | ex c => rw [z] at h; exact h.elim
  · exact h.elim
end
end
end DL
/-! DL31: own errors: raised, caught; defs that hand back data or a new list. -/
namespace DL
noncomputable section
open PySem PySem.Spec PyProof.Rows L2
/-- an own class over ValueError, raised with a text -/
structure OwnEx (K : PySem.W.Frag) (mg : Str → Option Value) (x : Str) (C : Addr) (bm : List Value) (newId : String) : Prop where
  g : mg x = some (.ref C)
  e : PySem.W.excIn K C bm newId = true
  k : PySem.W.keepIn K (.ref C) = true
  b : PySem.W.subIn K (.ref C) (.type "BaseException") = some true
  t : PySem.W.typeIn K (.ref C) = some (.type "type")
  m : PySem.W.exmOne K (.ref C) (.ref C) = some true
section
variable {X : Cx} {W : WX} {x m : Str} {C : Addr} {bm : List Value} {B newId initId : String} {j : Nat} {p p2 p3 pos : Pos}
def raiseS (x : Str) : MS := fun ρ => .ex x ρ
theorem ds_raise (F : ExcBaseFacts B newId initId bm) (O : OwnEx X.K X.mg x C bm newId) (hc : X.calm = true) (tk : Takes X W) (hg : Gl X x := by rfl) (hdb : (x == ("__debug__" : Str)) = false := by decide) :
    DS X W (.Raise (some (.Call (.Name x p) [.Constant (.str m) j p2] [] p3)) none pos) (raiseS x) :=
  ps_imp (ps_raise hc tk (pmk_own F O.e O.g O.k (raises_own O.b O.t) hg hdb)) fun D σ H ⟨H0, G0, G, ρ, r, h⟩ => h C σ G H O.g (.refl _) r
end
/-! ### defs that hand back data or a new list -/
abbrev FX := List PyData → Out (PyData ⊕ List PyData)
def rX (K : PySem.W.Frag) (H : Hp) (Q : VK) : PyData ⊕ List PyData → Hp → Hp → Prop := fun x G' H' => match x with
  | .inl d => rD K Q d G' H'
  | .inr ds => rF K H Q ds G' H'
def spX (K : PySem.W.Frag) (mg : Str → Option Value) (F : FX) : Sp := fun vs H Q E => ∃ G ds, Same G H ∧ DqAll K G vs ds ∧ PostO mg (wE E) [] G H (rX K H Q) (F ds)
def runX (np n : Nat) (m : MS) : FX := fun ds => if ds.length = np then (match m (start0 n ds) with
  | .nx _ => .ok (.inl .none)
  | .rt d => .ok (.inl d)
  | .rtF es => .ok (.inr es)
  | .ex c _ => .ex c
  | _ => .no) else .no
section
variable {P : Program} {w : World} {K : PySem.W.Frag} {mg : Str → Option Value} {base : Heap}
theorem fun_X {x qual : Str} {st : Stmt} {f : Addr} {fd : FuncData} {N ps : List Str} {k : Nat} {m : MS} (Fu : Fun K x qual st f fd) (S : FnScope N ps (defScope st))
    (hb : ∀ (cdv : Value) (A : Around) (outer : List Env) (s : Shared) (H : Hp) (E : XK), Room k (A.deeper (envOfC qual (defScope st) s.heap.objs.size f cdv)) → DSs (cxOf (L2.CX P w) P w K mg base N qual (defScope st) f cdv A outer s H E) (wE E) (defBody st) m) :
    FnOk P w K mg base (L2.CX P w) (k + 1) f fd ps (spX K mg (runX ps.length N.length m)) := by
  refine Fu.okX S (fun vs H Q E h => ?_) fun cdv A outer s H vs Q E hr h => ⟨_, hb cdv A outer s H E hr, ?_⟩
  · obtain ⟨G, ds, s, hd, h⟩ := h
    unfold runX at h
    split at h
    · rename_i hc
      rw [dpAll_len hd]; exact hc
    · exact h.elim
  · obtain ⟨G, ds, sg, hd, h⟩ := h
    refine ⟨H, G, G, _, start_rel (ps := ps) sg hd, ?_⟩
    unfold runX at h
    split at h
    · rename_i hc
      cases q : m (start0 N.length ds) with
      | no => rw [q] at h; exact h.elim
      | nx ρ => rw [q] at h; exact fun σ' G' H' _ r' => h G' H' r'.ext _ .non
      | bk ρ => rw [q] at h; exact h.elim
      | ct ρ => rw [q] at h; exact h.elim
      | rt d => rw [q] at h; exact fun v G' H' _ x hv => h G' H' x v hv
      | rtF es => rw [q] at h; exact fun p vs' G' H' _ x hn hg hp hv => h G' H' x p vs' hn hg hp hv
      | ex c ρ => rw [q] at h; exact fun C σ' G' H' e _ r' => h C G' H' e r'.ext
    · exact h.elim
end
section
variable {X : Cx} {W : WX} {e : Expr} {es : List Expr} {ml : ML} {pos p p2 p3 : Pos} {x f : Str} {k : Nat} {ps : List Str} {F : FX}
/-- x = f(..): data, or a new list of ours -/
def setXS (i : Nat) (F : FX) (ml : ML) : MS := fun ρ => thenF (ml ρ >>= F) ρ fun z => match z with
  | .inl d => .nx (ρ.set i (.sh d))
  | .inr ds => .nx (ρ.set i (.own (.lst ds)))
theorem ds_setX (i : Nat) (hND : X.N.Nodup) (C : Cal X.prog X.w X.K X.mg X.base k f ps (spX X.K X.mg F)) (hr : Room k X.A) (tk : Takes X W) (ha : DA X W (e :: es) ml) (hg : Gl X f := by rfl) (hdb : (f == ("__debug__" : Str)) = false := by decide)
    (he : starEach (e :: es) X.env = (false, eval e X.env) :: starEach es X.env := by rfl) (hpl : (backTo p3 (starEach es X.env)).any (·.1) = false := by rfl)
    (hi : X.N[i]? = some x := by rfl) (hx : Loc X.env.scope x := by first | exact Or.inl rfl | exact Or.inr rfl) (hs : swapsWith (.Call (.Name f p2) (e :: es) [] p3) (some (.Name x p)) pos.line X.env = pure false := by rfl) (hf : X.fn x = true ∨ X.env.scope.names.lookup x = some .local := by first | exact .inl rfl | exact .inr rfl) :
    DS X W (.Assign [.Name x p] (.Call (.Name f p2) (e :: es) [] p3) pos) (setXS i F ml) := by
  obtain ⟨fa, fd, hm, hk, hb, hF⟩ := C.ex
  refine ps_imp (ps_set hND hi hx (pe_callS hF hr hg hm hk hb (fun σ => passAt tk σ) ha hdb he hpl) hs hf) fun D σ H ⟨H0, G0, G, ρ, r, h⟩ => ?_
  have h2 := thenF_post (R := fun z G' H' => PostF X.K X.mg W D H0 G0 G' (match z with
    | .inl d => .nx (ρ.set i (.sh d))
    | .inr ds => .nx (ρ.set i (.own (.lst ds))))) r h fun z G1 H1 _ x1 h1 => h1
  refine ⟨H0, G0, G, ρ, r, (PostO.bind h2).mono fun ds G1 H1 _ x1 h1 vs hv => ⟨G1, ds, x1.gh, hv, postE (h1.mono fun z G2 H2 _ x2 h3 => ?_)⟩⟩
  have r2 := (r.step x1).step x2
  cases z with
  | inl d => exact fun v hv => h3 _ G2 H2 (.refl _) (r2.set hv)
  | inr ds => exact fun p vs hn hg hp hv => h3 _ G2 H2 (.refl _) (r2.setOwn (b := .lst ds) hp hv hg (r.ext.h.free (x1.h.free hn)) ((r.step x1).fresh_ne hn))
end
/-! ### isinstance of a caught error -/
section
variable {X : Cx} {a C C1 : Addr} {oe : Obj} {pn : List (Addr × Obj)} {n y : Str} {i : Nat} {b : Bool} {p p2 p3 pos : Pos}
def tIs (i : Nat) (a : Addr) (b : Bool) : TE := fun σ H Q => σ[i]? = some (some (.ref a)) ∧ Q (.bl b) H
theorem pe_isE (E : ExcC X.K C) (hz : Zc (.ref C) none oe) (hf : ∃ vs, oe.data = .fields vs) (hm : X.mg "isinstance" = none) (hy : X.mg y = some (.ref C1)) (hk : PySem.W.kitOne X.K (.ref C) (.ref C1) = some b)
    (hN : X.N[i]? = some n) (hv : Vis X.env.scope n) (hd : (n == ("__debug__" : Str)) = false) (hcd : (n == ("__classdict__" : Str)) = false) (hg : Gl X "isinstance") (hgy : Gl X y) (hdy : (y == ("__debug__" : Str)) = false) :
    PE (X.suite a ((a, oe) :: pn)) (.Call (.Name "isinstance" p) [.Name n p2, .Name y p3] [] pos) (tIs i a b) :=
  pe_imp (pe_callB (X := X.suite a ((a, oe) :: pn)) (call_isE E hz hf) hg hm (by decide +kernel) (pa_cons (pe_var hN hv hd hcd) (pa_cons (pe_glob (v := .ref C1) hgy hy rfl hdy) pa_nil (by rfl)) (by rfl)) (by decide) (by decide) (by rfl) (by rfl)) fun σ H Q ⟨h1, h2⟩ =>
    ⟨.ref a, h1, .ref C1, .ref C1, b, rfl, fun u h => h, hk, h2⟩
/-- [s0, s1][int(isinstance(n, y) and not isinstance(n, z))] -/
theorem pe_refused {C2 : Addr} {z s0 s1 : Str} {j0 j1 : Nat} {q0 q1 q2 q3 q4 q5 q6 q7 p4 p5 p6 pos2 : Pos} (E : ExcC X.K C) (hz : Zc (.ref C) none oe) (hf : ∃ vs, oe.data = .fields vs) (hm : X.mg "isinstance" = none) (hmi : X.mg "int" = none)
    (hy : X.mg y = some (.ref C1)) (hk : PySem.W.kitOne X.K (.ref C) (.ref C1) = some true) (hy2 : X.mg z = some (.ref C2)) (hk2 : PySem.W.kitOne X.K (.ref C) (.ref C2) = some false)
    (hN : X.N[i]? = some n) (hv : Vis X.env.scope n) (hd : (n == ("__debug__" : Str)) = false) (hcd : (n == ("__classdict__" : Str)) = false) (hg : Gl X "isinstance") (hgi : Gl X "int") (hgy : Gl X y) (hdy : (y == ("__debug__" : Str)) = false) (hgz : Gl X z) (hdz : (z == ("__debug__" : Str)) = false) :
    PE (X.suite a ((a, oe) :: pn)) (.Subscript (.List [.Constant (.str s0) j0 q0, .Constant (.str s1) j1 q1] q2)
      (.Call (.Name "int" q3) [.BoolOp .And [.Call (.Name "isinstance" p) [.Name n p2, .Name y p3] [] pos, .UnaryOp .Not (.Call (.Name "isinstance" p4) [.Name n p5, .Name z p6] [] pos2) q7] q4] [] q5) q6)
      (fun σ H Q => σ[i]? = some (some (.ref a)) ∧ ∀ l, H l = none → Q (.str s1) (upd H l (.lst [.str s0, .str s1]))) := by
  have A := pe_isE (a := a) (pn := pn) (p := p) (p2 := p2) (p3 := p3) (pos := pos) E hz hf hm hy hk hN hv hd hcd hg hgy hdy
  have B := pe_isE (a := a) (pn := pn) (p := p4) (p2 := p5) (p3 := p6) (pos := pos2) E hz hf hm hy2 hk2 hN hv hd hcd hg hgz hdz
  have AB := pe_and (pos := q4) A (pe_one (op := .And) (pos := q4) (pe_not (pos := q7) B))
  have I := pe_callTy (X := X.suite a ((a, oe) :: pn)) (x := "int") (p := q3) (pos := q5) call_int1 hgi hmi (by rfl) (pa_cons AB pa_nil (by rfl)) (by decide) (by decide) (by rfl) (by rfl)
  have L := pe_lst (X := X.suite a ((a, oe) :: pn)) (pos := q2) (pa_cons (pe_str (x := s0) (pos := q0) (j := j0)) (pa_cons (pe_str (x := s1) (pos := q1) (j := j1)) pa_nil (by rfl)) (by rfl))
  refine pe_imp (pe_ix (pos := q6) ix_list L I fun _ _ => rfl) fun σ H Q ⟨h1, h2⟩ => ?_
  refine ⟨by show 2 ≤ sizeLine; rw [sizeLine_eq]; decide, fun l hl => ?_⟩
  refine ⟨h1, true, rfl, ?_⟩
  refine iteT ⟨h1, false, rfl, ?_⟩
  refine .inr ⟨true, rfl, ?_⟩
  exact ⟨l, _, 1, _, rfl, rfl, .inl (.inl upd_same), rfl, h2 l hl⟩
/-! ### try: body, except x as n: return [s0, s1][..] -/
def tryS (x : Str) (i : Nat) (d : PyData) (m1 : MS) : MS := fun ρ => match m1 ρ with
  | .ex c ρ' => if c = x ∧ i < ρ'.length then .rt d else .no
  | f => f
/-- the classes that a catch asks of -/
structure CatchEx (K : PySem.W.Frag) (mg : Str → Option Value) (x y z : Str) (C C1 C2 : Addr) (bm : List Value) (newId : String) : Prop where
  o : OwnEx K mg x C bm newId
  c : ExcC K C
  g1 : mg y = some (.ref C1)
  k1 : PySem.W.kitOne K (.ref C) (.ref C1) = some true
  g2 : mg z = some (.ref C2)
  k2 : PySem.W.kitOne K (.ref C) (.ref C2) = some false
theorem ds_try {W : WX} {C2 : Addr} {x z s0 s1 : Str} {bm : List Value} {newId : String} {body : List Stmt} {m1 : MS} {j0 j1 : Nat} {q0 q1 q2 q3 q4 q5 q6 q7 p4 p5 p6 pos2 np rp hp tp : Pos} (i : Nat)
    (O : CatchEx X.K X.mg x y z C C1 C2 bm newId) (hm : X.mg "isinstance" = none) (hmi : X.mg "int" = none) (hND : X.N.Nodup) (tk : Takes X W)
    (hb : ∀ (W : WX) (pn : List (Addr × Obj)) (xe : Value → Shared → Prop), Takes (X.tr pn xe) W → PassesOwn (model X.prog X.w) X.A X.env xe → DSs (X.tr pn xe) W body m1)
    (hs : X.stack = X.env :: X.outer := by rfl) (hf : X.env.frame = some X.env.locals := by rfl) (hN : X.N[i]? = some n := by rfl) (hln : X.env.kindOf n = some .local := by rfl) (hv : Vis X.env.scope n := by first | exact Or.inl rfl | exact Or.inr (Or.inl rfl) | exact Or.inr (Or.inr rfl))
    (hd : (n == ("__debug__" : Str)) = false := by decide) (hcd : (n == ("__classdict__" : Str)) = false := by decide) (hg : Gl X "isinstance" := by rfl) (hgi : Gl X "int" := by rfl) (hgx : Gl X x := by rfl) (hdx : (x == ("__debug__" : Str)) = false := by decide)
    (hgy : Gl X y := by rfl) (hdy : (y == ("__debug__" : Str)) = false := by decide) (hgz : Gl X z := by rfl) (hdz : (z == ("__debug__" : Str)) = false := by decide) :
    DS X W (.Try body [.ExceptHandler (some (.Name x np)) (some n) [.Return (some (.Subscript (.List [.Constant (.str s0) j0 q0, .Constant (.str s1) j1 q1] q2)
      (.Call (.Name "int" q3) [.BoolOp .And [.Call (.Name "isinstance" p) [.Name n p2, .Name y p3] [] pos, .UnaryOp .Not (.Call (.Name "isinstance" p4) [.Name n p5, .Name z p6] [] pos2) q7] q4] [] q5) q6)) rp] hp] [] [] tp) (tryS x i (.str s1) m1) := by
  refine ps_imp (ps_try_as (c := .ref C) (tb := fun W' => tS X.K X.mg W' m1) (ts := fun a cls d D σ H => cls = .ref C ∧ d = none ∧ σ[i]? = some (some (.ref a)) ∧ ∀ l, H l = none → D.rt (.str s1) (upd H l (.lst [.str s0, .str s1]))) hs hf hND hN hln ⟨hgx, hdx, .inl O.o.g⟩ tk hb fun a oe cls d pn hz hfl => ⟨fun pins s σ H D I q => ?_⟩) fun D σ H ⟨H0, G0, G, ρ, r, h⟩ => ⟨H0, G0, G, ρ, r, ?_⟩
  · obtain ⟨rfl, rfl, h1, h2⟩ := q
    exact (pss_one (ps_ret (pe_refused O.c hz hfl hm hmi O.g1 O.k1 O.g2 O.k2 hN hv hd hcd hg hgi hgy hdy hgz hdz))).run pins s σ H D I ⟨h1, h2⟩
  · unfold tryS at h
    cases q : m1 ρ with
    | ex c ρ' =>
      rw [q] at h
      replace h : PostF X.K X.mg W D H0 G0 G (if c = x ∧ i < ρ'.length then .rt (.str s1) else .no) := h
      split at h
      · rename_i hc
        obtain ⟨rfl, hi⟩ := hc
        intro C' σ' G' H' hmC sg r'
        have eC := Option.some.inj (hmC.symm.trans O.o.g)
        rw [eC]
        refine ⟨true, O.o.m, fun _ a ha => ⟨rfl, rfl, List.getElem?_set_self (by rw [← r'.len]; exact hi), fun l hl => ?_⟩, nofun⟩
        exact h (.str s1) G' _ sg (r'.ext.trans (Ext.hid r'.gh hl)) (.str _)
      · exact h.elim
    | no => rw [q] at h; exact h.elim
    | nx ρ' => rw [q] at h; exact h
    | bk ρ' => rw [q] at h; exact h
    | ct ρ' => rw [q] at h; exact h
    | rt d => rw [q] at h; exact h
    | rtF d => rw [q] at h; exact h
end
end
end DL
/-! DL32: a list of ours lent for one expression that hands back tuples. -/
namespace DL
noncomputable section
open PySem PySem.Spec PyProof.Rows L2
mutual
def noL : PyData → Bool
  | .none => true
  | .bool _ => true
  | .int _ => true
  | .str _ => true
  | .tuple ds => noLs ds
  | _ => false
def noLs : List PyData → Bool
  | [] => true
  | d :: ds => noL d && noLs ds
end
section
variable {K : PySem.W.Frag} {G G' : Hp}
mutual
theorem dq_noL (hG : ∀ a u, G a = some u → (∀ vs, u ≠ .lst vs) → G' a = some u) : ∀ {v : V} {d : PyData}, noL d = true → Dq K G v d → Dq K G' v d
  | _, _, _, .non => .non
  | _, _, _, .bl b => .bl b
  | _, _, _, .int i => .int i
  | _, _, _, .str z => .str z
  | _, _, c, .lst _ _ => by simp [noL] at c
  | _, _, c, .tup h1 h2 => .tup (by
      rcases h1 with (h | ⟨o, h⟩) | h
      · exact .inl (.inl (hG _ _ h fun _ => nofun))
      · exact .inl (.inr ⟨o, hG _ _ h fun _ => nofun⟩)
      · exact .inr h) (dqs_noL hG (by simpa [noL] using c) h2)
  | _, _, c, .ro _ _ => by simp [noL] at c
theorem dqs_noL (hG : ∀ a u, G a = some u → (∀ vs, u ≠ .lst vs) → G' a = some u) : ∀ {vs : List V} {ds : List PyData}, noLs ds = true → DqAll K G vs ds → DqAll K G' vs ds
  | _, _, _, .nil => .nil
  | _, _, c, .cons h1 h2 => by
    rw [noLs, Bool.and_eq_true] at c
    exact .cons (dq_noL hG c.1 h1) (dqs_noL hG c.2 h2)
end
end
theorem Rel.freezeAt {K : PySem.W.Frag} {H0 G0 G H : Hp} {ρ : Ro} {σ : L2.St} {i : Nat} (r : Rel K H0 G0 G ρ σ H) {ds : List PyData} (e : ρ[i]? = some (.own (.lst ds))) : ∃ p vs, G p = none ∧ H p = some (.lst vs) ∧ Rel K H0 G0 (upd G p (.lst vs)) (ρ.set i (.sh (.list ds))) σ H := by
  obtain ⟨p, u, es, hp, ho, hg, h0⟩ := r.getOwn e
  obtain ⟨vs, rfl, hv⟩ := ho.isLst
  have hi : i < ρ.length := (List.getElem?_eq_some_iff.mp e).1
  have sg : Same G (upd G p (.lst vs)) := same_upd hg
  refine ⟨p, vs, hg, hp, ⟨r.ext.g.trans sg, r.ext.h, fun a o q => ?_, fun a q n => ?_⟩, by simp [r.len], fun j s q => ?_, fun j k q b c e1 e2 e3 e4 => ?_⟩
  · by_cases ha : a = p
    · subst ha; rw [upd_same] at q; rw [hp]; exact q
    · rw [upd_ne ha] at q; exact r.ext.gh a o q
  · have : a ≠ p := by rintro rfl; exact n h0
    rw [upd_ne this]; exact r.ext.fr a q n
  · by_cases hj : i = j
    · subst hj
      rw [List.getElem?_set_self hi] at q
      cases q
      exact ⟨_, es, _, rfl, .lst (Rd.of upd_same) (dpAll_mono sg hv)⟩
    · rw [List.getElem?_set_ne hj] at q
      obtain ⟨o, a, z⟩ := r.sl j s q
      refine ⟨o, a, ?_⟩
      cases s with
      | un => trivial
      | sh d => obtain ⟨v, ev, hd⟩ := z; exact ⟨v, ev, dp_mono sg hd⟩
      | own c =>
        obtain ⟨p', w, rfl, hp', ho', hg', h0'⟩ := z
        refine ⟨p', w, rfl, hp', ho'.mono sg, ?_, h0'⟩
        have : p' ≠ p := by
          rintro rfl
          exact hj (r.di i j p' _ c e q es a)
        rw [upd_ne this]; exact hg'
  · have nj : ∀ {l : Nat} {b : Ob}, (ρ.set i (.sh (.list ds)))[l]? = some (.own b) → i ≠ l := fun {l b} e z => by
      subst z
      rw [List.getElem?_set_self hi] at e
      cases e
    rw [List.getElem?_set_ne (nj e1)] at e1
    rw [List.getElem?_set_ne (nj e2)] at e2
    exact r.di j k q b c e1 e2 e3 e4
def noLO (d : PyData) : Out PyData := if noL d then .ok d else .no
def borT (i : Nat) (ma : MD) : MD := fun ρ => match ρ[i]? with
  | some (.own (.lst ds)) => ma (ρ.set i (.sh (.list ds))) >>= noLO
  | _ => .no
theorem de_borT {X : Cx} {W : WX} {a : Expr} {ma : MD} (i : Nat) (ha : DE X W a ma) : DE X W a (borT i ma) := by
  refine pe_imp ha fun σ H Q ⟨H0, G0, G, ρ, r, h⟩ => ?_
  unfold borT at h
  split at h
  · rename_i ds q
    obtain ⟨p, vs, hg, hp, r'⟩ := r.freezeAt q
    refine ⟨H0, G0, _, _, r', ?_⟩
    have sg : Same G (upd G p (.lst vs)) := same_upd hg
    generalize ma (ρ.set i (.sh (.list ds))) = o at h
    cases o with
    | no => exact h
    | ex c => exact fun C G2 H2 e y => h C G H2 e (back sg y)
    | ok d =>
      intro G2 H2 y v hv
      have h' : PostO X.mg W σ G H (rD X.K Q) (noLO d) := h
      unfold noLO at h'
      split at h'
      · rename_i f
        have x : Ext G H (hide G2 p) H2 := by
          refine ⟨fun c o e => ?_, y.h, fun c o e => y.gh c o (hide_same G2 p c o e), fun c e n => ?_⟩
          · have ne : c ≠ p := by rintro rfl; rw [hg] at e; cases e
            exact (hide_ne ne).trans (y.g c o ((upd_ne ne).trans e))
          · by_cases ne : c = p
            · rw [ne]; exact hide_self G2 p
            · rw [hide_ne ne]; exact y.fr c ((upd_ne ne).trans e) n
        refine h' (hide G2 p) H2 x v (dq_noL (fun c u e n => ?_) f hv)
        have ne : c ≠ p := by
          rintro rfl
          have e2 := y.g _ _ (show (upd G c (HO.lst vs)) c = some (.lst vs) from upd_same)
          rw [e2] at e
          cases e
          exact n vs rfl
        exact (hide_ne ne).trans e
      · exact h'.elim
  · exact h.elim
section
variable {X : Cx} {W : WX} {e : Expr} {me : MD} {p pos : Pos} {x : Str} {k : Nat}
theorem dt_ownNotIn (i : Nat) (hr : Room k X.A) (he : DE X W e me) (hN : X.N[i]? = some x := by rfl) (hv : Vis X.env.scope x := by first | exact Or.inl rfl | exact Or.inr (Or.inl rfl) | exact Or.inr (Or.inr rfl)) (hd : (x == ("__debug__" : Str)) = false := by decide)
    (hcd : (x == ("__classdict__" : Str)) = false := by decide) (hm : behindInMarks .NotIn (.Name x p) = false := by first | exact nomark _ | rfl) : DT X W (.Compare e [.NotIn] [.Name x p] pos) (mB (ownNotIn i me)) := by
  refine pt_imp (pt_cmp (pc_dnotin (by have := hr.un; omega) he (pe_var hN hv hd hcd)) hm) fun σ H Q hh => ?_
  obtain ⟨H0, G0, G, ρ, r, h⟩ := toT hh
  unfold ownNotIn at h
  split at h
  · rename_i ks q
    obtain ⟨a1, u, es, hp, ho, hg, h0⟩ := r.getOwn q
    obtain ⟨kvs, rfl, hpd⟩ := ho.isDic
    refine ⟨H0, G0, G, ρ, r, (PostO.bind h).mono fun kd G1 H1 _ x1 h1 y hy => ?_⟩
    split at h1
    · rename_i key hkey
      obtain rfl := keyD_v hkey hy
      refine ⟨.ref a1, es, a1, valV kvs key, rfl, .inl ⟨kvs, key, .inl (x1.h _ _ hp), rfl, rfl⟩, ?_⟩
      rcases kd_get (k := key) hpd with ⟨g1, g2⟩ | ⟨d, v, g1, g2, dv⟩
      · rw [g1] at h1
        rw [g2]
        exact h1.now x1.gh _ (.bl _)
      · rw [g1] at h1
        rw [g2]
        exact h1.now x1.gh _ (.bl _)
    · exact h1.elim
  · exact h.elim
end
/-! ### facts of own error classes, from what k_is tells -/
section
variable {K : PySem.W.Frag} {C C1 : Addr}
theorem ex_self (h1 : PySem.W.subIn K (.ref C) (.type "BaseException") = some true) (h2 : PySem.W.isClsIn K C = true) (h3 : PySem.W.typeIn K (.ref C) = some (.type "type")) (h4 : PySem.W.subIn K (.ref C) (.ref C) = some true) : PySem.W.exmOne K (.ref C) (.ref C) = some true := by
  have h2' : (PySem.W.clsIn K C).isSome = true := h2
  unfold PySem.W.exmOne
  rw [if_pos (by rw [h1]; rfl)]
  unfold PySem.W.kitCls
  dsimp only
  rw [if_pos (by rw [h2', h3]; rfl)]
  exact h4
theorem kit_yes (h2 : PySem.W.isClsIn K C1 = true) (h3 : PySem.W.typeIn K (.ref C1) = some (.type "type")) (h4 : PySem.W.subIn K (.ref C) (.ref C1) = some true) : PySem.W.kitOne K (.ref C) (.ref C1) = some true := by
  have h2' : (PySem.W.clsIn K C1).isSome = true := h2
  unfold PySem.W.kitOne
  split
  · rfl
  · unfold PySem.W.kitCls
    dsimp only
    rw [if_pos (by rw [h2', h3]; rfl)]
    exact h4
theorem kit_no (h5 : PySem.W.subIn K (.ref C) (.ref C) = some true) (h2 : PySem.W.isClsIn K C1 = true) (h3 : PySem.W.typeIn K (.ref C1) = some (.type "type")) (h4 : PySem.W.subIn K (.ref C) (.ref C1) = some false) : PySem.W.kitOne K (.ref C) (.ref C1) = some false := by
  have h2' : (PySem.W.clsIn K C1).isSome = true := h2
  unfold PySem.W.kitOne
  split
  · rename_i e
    have e1 : Value.ref C = Value.ref C1 := eq_of_beq e
    rw [← e1, h5] at h4
    cases h4
  · unfold PySem.W.kitCls
    dsimp only
    rw [if_pos (by rw [h2', h3]; rfl)]
    exact h4
end
end
end DL
/-! DL33: texts: split, join, str, int of a text, f-strings; a call as a statement. -/
namespace DL
noncomputable section
open PySem PySem.Spec PyProof.Rows L2
def strsOf : List PyData → Option (List Str)
  | [] => some []
  | .str a :: ds => (strsOf ds).map (a :: ·)
  | _ => none
theorem strsOf_eq : ∀ {ds : List PyData} {ys : List Str}, strsOf ds = some ys → ds = ys.map PyData.str
  | [], _, h => by cases h; rfl
  | d :: ds, ys, h => by
    cases d with
    | str a =>
      have h' : (strsOf ds).map (a :: ·) = some ys := h
      cases q : strsOf ds with
      | none => rw [q] at h'; cases h'
      | some zs =>
        rw [q] at h'
        cases h'
        rw [strsOf_eq q]
        rfl
    | _ => cases h
theorem strsOf_map : ∀ ys : List Str, strsOf (ys.map PyData.str) = some ys
  | [] => rfl
  | y :: ys => by
    show (strsOf (ys.map PyData.str)).map (y :: ·) = _
    rw [strsOf_map ys]
    rfl
theorem dpAll_strs {K : PySem.W.Frag} {G : Hp} : ∀ ys : List Str, DqAll K G (ys.map V.str) (ys.map PyData.str)
  | [] => .nil
  | y :: ys => .cons (.str y) (dpAll_strs ys)
/-- o.m(e), o a text -/
def strM {α : Type} (f : Str → PyData → Out α) (mo me : MD) : Ro → Out α := fun ρ => mo ρ >>= fun d => match d with
  | .str a => me ρ >>= f a
  | _ => .no
def splitO (a : Str) : PyData → Out (List PyData)
  | .str b => if (b.length == 0) = false ∧ a.length + 2 ≤ sizeLine then .ok ((Txt.split a b).map .str) else .no
  | _ => .no
def joinO (a : Str) : PyData → Out PyData
  | .list ds => match strsOf ds with
    | some ys => if (ys.map (·.length)).sum + ys.length * a.length ≤ 16777216 then .ok (.str (Txt.join a ys)) else .no
    | none => .no
  | _ => .no
theorem vals_strs' {K : PySem.W.Frag} {G : Hp} {vs : List V} {ys : List Str} (h : DqAll K G vs (ys.map PyData.str)) : vs = ys.map V.str := by
  induction ys generalizing vs with
  | nil => cases h; rfl
  | cons y ys ih =>
    have h' : DqAll K G vs (PyData.str y :: ys.map PyData.str) := h
    cases h' with
    | cons a b => cases a; rw [ih b]; rfl
section
variable {X : Cx} {W : WX} {o e : Expr} {mo me : MD} {pos ap : Pos} {es : List Expr} {ms : List MD} {x : Str} {k : Nat}
theorem df_split (ho : DE X W o mo) (he : DE X W e me) (hs : starEach [e] X.env = [(false, eval e X.env)] := by rfl) (hbase : attributeBase o "split" X.env (eval o X.env) = eval o X.env := by rfl) (hline : (ap.endLine == pos.line) = true := by rfl) :
    DF X W (.Call (.Attribute o "split" ap) [e] [] pos) (strM splitO mo me) :=
  pe_imp (pe_split ho he hs hbase hline) fun σ H Q ⟨H0, G0, G, ρ, r, h⟩ => by
    refine ⟨H0, G0, G, ρ, r, (PostO.bind h).mono fun d G1 H1 _ x1 h1 v hv => ?_⟩
    cases d with
    | str a =>
      obtain rfl := dp_str hv
      refine ⟨⟨a, rfl⟩, H0, G0, G1, ρ, r.step x1, (PostO.bind h1).mono fun d2 G2 H2 _ x2 h2 w hw => ?_⟩
      cases d2 with
      | str b =>
        obtain rfl := dp_str hw
        have h3 : PostO X.mg W σ G2 H2 (rF X.K H Q) (if (b.length == 0) = false ∧ a.length + 2 ≤ sizeLine then .ok ((Txt.split a b).map .str) else .no) := h2
        split at h3
        · rename_i hc
          exact ⟨a, b, rfl, rfl, hc.1, hc.2, fun p hp => post_newF x2.gh (h3.mono fun _ _ _ _ _ q => rF_mono (x1.trans x2).h q) (dpAll_strs _) hp⟩
        · exact h3.elim
      | _ => exact False.elim h2
    | _ => exact False.elim h1
theorem de_join (ho : DE X W o mo) (he : DE X W e me) (hs : starEach [e] X.env = [(false, eval e X.env)] := by rfl) (hbase : attributeBase o "join" X.env (eval o X.env) = eval o X.env := by rfl) (hline : (ap.endLine == pos.line) = true := by rfl) :
    DE X W (.Call (.Attribute o "join" ap) [e] [] pos) (strM joinO mo me) :=
  pe_imp (pe_join ho he hs hbase hline) fun σ H Q ⟨H0, G0, G, ρ, r, h⟩ => by
    refine ⟨H0, G0, G, ρ, r, (PostO.bind h).mono fun d G1 H1 _ x1 h1 v hv => ?_⟩
    cases d with
    | str a =>
      obtain rfl := dp_str hv
      refine ⟨⟨a, rfl⟩, H0, G0, G1, ρ, r.step x1, (PostO.bind h1).mono fun d2 G2 H2 _ x2 h2 w hw => ?_⟩
      cases d2 with
      | list ds =>
        obtain ⟨p, vs, rfl, hr, hd⟩ := dp_list hw
        have h3 : PostO X.mg W σ G2 H2 (rD X.K Q) (match strsOf ds with
          | some ys => if (ys.map (·.length)).sum + ys.length * a.length ≤ 16777216 then .ok (.str (Txt.join a ys)) else .no
          | none => .no) := h2
        cases q : strsOf ds with
        | none => rw [q] at h3; exact False.elim h3
        | some ys =>
          rw [q] at h3
          have h4 : PostO X.mg W σ G2 H2 (rD X.K Q) (if (ys.map (·.length)).sum + ys.length * a.length ≤ 16777216 then .ok (.str (Txt.join a ys)) else .no) := h3
          split at h4
          · rename_i hc
            have e := strsOf_eq q
            subst e
            obtain rfl := vals_strs' hd
            exact ⟨a, p, ys, rfl, rfl, .inl (.inl (rd_mono x2.gh hr)), hc, h4.now x2.gh _ (.str _)⟩
          · exact False.elim h4
      | _ => exact False.elim h2
    | _ => exact False.elim h1
/-! ### str of a number, int of a text -/
def strD : List PyData → Out PyData
  | [.int i] => if i.natAbs.log2 < 1920 then .ok (.str ((toString i : String) : Str)) else .no
  | _ => .no
theorem call_strD : CallD X (fun xs H Q => ∃ i, xs = [.int i] ∧ i.natAbs.log2 < 1920 ∧ Q (.str ((toString i : String) : Str)) H) strD := by
  intro mg W σ G H Q vs ds s hv h
  unfold strD at h
  split at h
  · obtain ⟨v, rfl, hd⟩ := dq1 hv
    obtain rfl := dp_int hd
    split at h
    · rename_i hc
      exact ⟨_, rfl, hc, h.now s _ (.str _)⟩
    · exact h.elim
  · exact h.elim
def intT : List PyData → Out PyData
  | [.int i] => .ok (.int i)
  | [.bool t] => .ok (.int (if t then 1 else 0))
  | [.str a] => if a.length ≤ 640 then (match PySem.intText? a with
    | some n => .ok (.int n)
    | none => .no) else .no
  | _ => .no
def rIntT : List V → Hp → VK → Prop := fun xs H Q => ((∃ i, xs = [.int i] ∧ Q (.int i) H) ∨ ∃ k, xs = [.bl k] ∧ Q (.int (if k then 1 else 0)) H) ∨ ∃ a n, xs = [.str a] ∧ PySem.intText? a = some n ∧ a.length ≤ 640 ∧ Q (.int n) H
theorem cr_intT : CallR X (.type "int") rIntT := fun pins s σ H xs us Q I rs h => h.elim (fun h => call_int1 pins s σ H xs us Q I rs h) fun h => call_int_str pins s σ H xs us Q I rs h
theorem call_intT : CallD X rIntT intT := by
  intro mg W σ G H Q vs ds s hv h
  unfold intT at h
  split at h
  · obtain ⟨v, rfl, hd⟩ := dq1 hv
    obtain rfl := dp_int hd
    exact .inl (.inl ⟨_, rfl, h.now s _ (.int _)⟩)
  · obtain ⟨v, rfl, hd⟩ := dq1 hv
    obtain rfl := dp_bool hd
    exact .inl (.inr ⟨_, rfl, h.now s _ (.int _)⟩)
  · obtain ⟨v, rfl, hd⟩ := dq1 hv
    obtain rfl := dp_str hd
    split at h
    · rename_i hl
      split at h
      · rename_i n hn
        exact .inr ⟨_, n, rfl, hn, hl, h.now s _ (.int _)⟩
      · exact h.elim
    · exact h.elim
  · exact h.elim
/-! ### f-strings -/
def fmtD : PyData → Out PyData
  | .str y => if y.length ≤ sizeLine then .ok (.str y) else .no
  | .int i => if i.natAbs.log2 < 1920 then .ok (.str ((toString i : String) : Str)) else .no
  | _ => .no
theorem de_fmt (he : DE X W e me) : DE X W (.FormattedValue e (-1) none pos) (m1 fmtD me) :=
  pe_imp (pe_fmt he) fun σ H Q ⟨H0, G0, G, ρ, r, h⟩ => ⟨H0, G0, G, ρ, r, (PostO.bind h).mono fun d G1 H1 _ x1 h1 v hv => by
    cases d with
    | str y =>
      obtain rfl := dp_str hv
      have h2 : PostO X.mg W σ G1 H1 (rD X.K Q) (if y.length ≤ sizeLine then .ok (.str y) else .no) := h1
      split at h2
      · rename_i hc
        exact .inl ⟨y, rfl, hc, h2.now x1.gh _ (.str _)⟩
      · exact False.elim h2
    | int i =>
      obtain rfl := dp_int hv
      have h2 : PostO X.mg W σ G1 H1 (rD X.K Q) (if i.natAbs.log2 < 1920 then .ok (.str ((toString i : String) : Str)) else .no) := h1
      split at h2
      · rename_i hc
        exact .inr ⟨i, rfl, hc, h2.now x1.gh _ (.str _)⟩
      · exact False.elim h2
    | _ => exact False.elim h1⟩
def DJ (X : Cx) (W : WX) (es : List Expr) (ms : List MD) : Prop := PJ X es (ms.map fun m => tD X.K X.mg W m)
theorem dj_nil : DJ X W [] [] := .nil
theorem dj_cons (h : DE X W e me) (hr : DJ X W es ms) : DJ X W (e :: es) (me :: ms) := .cons h hr
def joinM : List MD → Str → Ro → Out Str
  | [], acc, _ => .ok acc
  | m :: ms, acc, ρ => m ρ >>= fun d => match d with
    | .str y => if (acc ++ y).length ≤ sizeLine then joinM ms (acc ++ y) ρ else .no
    | _ => .no
theorem js_ok {σ : L2.St} {Q : Str → Hp → Prop} {H0 G0 : Hp} {ρ : Ro} : ∀ (ms : List MD) (acc : Str) (G H : Hp), Rel X.K H0 G0 G ρ σ H → PostO X.mg W σ G H (fun s _ H' => Q s H') (joinM ms acc ρ) → tJs (ms.map fun m => tD X.K X.mg W m) acc σ H Q
  | [], acc, G, H, r, h => h.now r.gh
  | m :: ms, acc, G, H, r, h => by
    refine ⟨H0, G0, G, ρ, r, (PostO.bind h).mono fun d G1 H1 _ x1 h1 v hv => ?_⟩
    cases d with
    | str y =>
      obtain rfl := dp_str hv
      have h2 : PostO X.mg W σ G1 H1 (fun s _ H' => Q s H') (if (acc ++ y).length ≤ sizeLine then joinM ms (acc ++ y) ρ else .no) := h1
      split at h2
      · rename_i hc
        exact ⟨y, rfl, hc, js_ok ms (acc ++ y) G1 H1 (r.step x1) h2⟩
      · exact False.elim h2
    | _ => exact False.elim h1
def fstrM (ms : List MD) : MD := fun ρ => joinM ms Str.empty ρ >>= fun s => .ok (.str s)
theorem de_fstr {v1 v2 : Expr} {rest : List Expr} (h : DJ X W (v1 :: v2 :: rest) ms) : DE X W (.JoinedStr (v1 :: v2 :: rest) pos) (fstrM ms) :=
  pe_imp (pe_joined h) fun σ H Q ⟨H0, G0, G, ρ, r, h⟩ => js_ok ms Str.empty G H r ((PostO.bind h).mono fun s G1 H1 _ x1 h1 => h1.now x1.gh _ (.str _))
/-! ### an expression as a statement -/
def exprS (me : MD) : MS := fun ρ => thenF (me ρ) ρ fun _ => .nx ρ
theorem ds_expr (he : DE X W e me) (hsw : swapsWith e none pos.line X.env = pure false := by rfl) : DS X W (.Expr e pos) (exprS me) :=
  ps_imp (ps_expr he hsw) fun D σ H ⟨H0, G0, G, ρ, r, h⟩ => ⟨H0, G0, G, ρ, r, thenF_post r h fun d G1 H1 _ x1 h1 v hv => h1 σ G1 H1 (.refl _) (r.step x1)⟩
end
end
end DL
/-! DL34: try: check(..) except X: raise Y(..) from None. -/
namespace DL
noncomputable section
open PySem PySem.Spec PyProof.Rows L2
/-! ### a def whose errors have no context -/
structure CalN (P : Program) (w : World) (K : PySem.W.Frag) (mg : Str → Option Value) (base : Heap) (k : Nat) (x : Str) (ps : List Str) (sp : Sp) : Prop where
  ex : ∃ f fd, mg x = some (.ref f) ∧ PySem.W.keepIn K (.ref f) = true ∧ Binds K fd ps [] ∧ FnOk P w K mg base (L2N.CX P w) k f fd ps sp
section
variable {P : Program} {w : World} {K : PySem.W.Frag} {mg : Str → Option Value} {base : Heap}
theorem CalN.mk' {x qual : Str} {st : Stmt} {f : Addr} {fd : FuncData} {ps : List Str} {k : Nat} {sp : Sp} (Fu : Fun K x qual st f fd) (hm : mg x = some (.ref f)) (hb : Binds K fd ps []) (h : FnOk P w K mg base (L2N.CX P w) k f fd ps sp) : CalN P w K mg base k x ps sp := ⟨f, fd, hm, Fu.kp, hb, h⟩
theorem okN {x qual : Str} {st : Stmt} {f : Addr} {fd : FuncData} {N ps : List Str} {k : Nat} {sp : Sp} (F : Fun K x qual st f fd) (S : FnScope N ps (defScope st)) (len : ∀ vs H Q E, sp vs H Q E → vs.length = ps.length)
    (hbody : ∀ (cdv : Value) (A : Around) (outer : List Env) (s : Shared) (H : Hp) (vs : List V) (Q : VK) (E : XK), Room k (A.deeper (envOfC qual (defScope st) s.heap.objs.size f cdv)) → sp vs H Q E →
      ∃ t, PSs (cxOf (L2N.CX P w) P w K mg base N qual (defScope st) f cdv A outer s H E) (defBody st) t ∧ t { nx := fun _ H' => Q .non H', rt := Q } (start N vs) H) : FnOk P w K mg base (L2N.CX P w) (k + 1) f fd ps sp := by
  obtain ⟨oc, od, kV, doc, pm, an, cdv, ct, osl, rfl, lk, hcd⟩ := F.ex
  exact fn_of lk hcd S len fun A outer s H vs Q E hr hsp => hbody cdv A outer s H vs Q E hr hsp
theorem fun_DN {x qual : Str} {st : Stmt} {f : Addr} {fd : FuncData} {N ps : List Str} {k : Nat} {m : MS} (Fu : Fun K x qual st f fd) (S : FnScope N ps (defScope st))
    (hb : ∀ (cdv : Value) (A : Around) (outer : List Env) (s : Shared) (H : Hp) (E : XK), Room k (A.deeper (envOfC qual (defScope st) s.heap.objs.size f cdv)) → DSs (cxOf (L2N.CX P w) P w K mg base N qual (defScope st) f cdv A outer s H E) (wE E) (defBody st) m) :
    FnOk P w K mg base (L2N.CX P w) (k + 1) f fd ps (spD K mg (runD ps.length N.length m)) := by
  refine okN Fu S (fun vs H Q E h => ?_) fun cdv A outer s H vs Q E hr h => ⟨_, hb cdv A outer s H E hr, ?_⟩
  · obtain ⟨G, ds, s, hd, h⟩ := h
    unfold runD at h
    split at h
    · rename_i hc
      rw [dpAll_len hd]; exact hc
    · exact h.elim
  · obtain ⟨G, ds, sg, hd, h⟩ := h
    refine ⟨H, G, G, _, start_rel (ps := ps) sg hd, ?_⟩
    unfold runD at h
    split at h
    · rename_i hc
      cases q : m (start0 N.length ds) with
      | no => rw [q] at h; exact h.elim
      | nx ρ => rw [q] at h; exact fun σ' G' H' _ r' => h G' H' r'.ext _ .non
      | bk ρ => rw [q] at h; exact h.elim
      | ct ρ => rw [q] at h; exact h.elim
      | rt d => rw [q] at h; exact fun v G' H' _ x hv => h G' H' x v hv
      | rtF es => rw [q] at h; exact fun p vs' G' H' _ x hn hg hp hv => h _ H' (x.freeze hn hp hg) _ (.lst (Rd.of upd_same) (dpAll_mono (same_upd hg) hv))
      | ex c ρ => rw [q] at h; exact fun C σ' G' H' e _ r' => h C G' H' e r'.ext
    · exact h.elim
end
section
variable {X : Cx} {W : WX} {e : Expr} {es : List Expr} {ml : ML} {pos p p2 p3 : Pos} {x f m : Str} {k j : Nat} {ps : List Str} {F : FD} {C : Addr} {bm : List Value} {B newId initId : String}
/-- no error comes out of a call -/
def quiet (o : Out PyData) : Out PyData := match o with
  | .ok d => .ok d
  | _ => .no
def cDq (F : FD) (ml : ML) : MD := fun ρ => ml ρ >>= fun ds => quiet (F ds)
theorem de_callQ (C : Cal X.prog X.w X.K X.mg X.base k x ps (spD X.K X.mg F)) (hr : Room k X.A) (ha : DA X W (e :: es) ml) (hg : Gl X x := by rfl) (hdb : (x == ("__debug__" : Str)) = false := by decide)
    (he : starEach (e :: es) X.env = (false, eval e X.env) :: starEach es X.env := by rfl) (hpl : (backTo pos (starEach es X.env)).any (·.1) = false := by rfl) : DE X W (.Call (.Name x p) (e :: es) [] pos) (cDq F ml) := by
  obtain ⟨f, fd, hm, hk, hb, hF⟩ := C.ex
  refine pe_imp (pe_callS (E := fun _ _ _ _ => False) hF hr hg hm hk hb (fun σ pins H s e s' I c => by
    obtain ⟨_, _, _, _, _, _, _, _, _, _, _, _, z⟩ := c
    exact z.elim) ha hdb he hpl) fun σ H Q ⟨H0, G0, G, ρ, r, h⟩ => ?_
  refine ⟨H0, G0, G, ρ, r, (PostO.bind h).mono fun ds G1 H1 _ x1 h1 vs hv => ⟨G1, ds, x1.gh, hv, ?_⟩⟩
  cases q : F ds with
  | no => rw [q] at h1; exact h1.elim
  | ex c => rw [q] at h1; exact h1.elim
  | ok d => rw [q] at h1; exact h1
theorem ds_raiseN (F : ExcBaseFacts B newId initId bm) (O : OwnEx X.K X.mg x C bm newId) (hc : X.calm = true) (tk : L2N.Takes X W) (hg : Gl X x := by rfl) (hdb : (x == ("__debug__" : Str)) = false := by decide) :
    DS X W (.Raise (some (.Call (.Name x p) [.Constant (.str m) j p2] [] p3)) none pos) (raiseS x) :=
  ps_imp (L2N.ps_raise hc tk (L2N.pmk_own F O.e O.g O.k (raises_own O.b O.t) hg hdb)) fun D σ H ⟨H0, G0, G, ρ, r, h⟩ => h C σ G H O.g (.refl _) r
theorem de_callN (C : CalN X.prog X.w X.K X.mg X.base k x ps (spD X.K X.mg F)) (hr : Room k X.A) (tk : L2N.Takes X W) (ha : DA X W (e :: es) ml) (hg : Gl X x := by rfl) (hdb : (x == ("__debug__" : Str)) = false := by decide)
    (he : starEach (e :: es) X.env = (false, eval e X.env) :: starEach es X.env := by rfl) (hpl : (backTo pos (starEach es X.env)).any (·.1) = false := by rfl) : DE X W (.Call (.Name x p) (e :: es) [] pos) (cD F ml) := by
  obtain ⟨f, fd, hm, hk, hb, hF⟩ := C.ex
  refine pe_imp (pe_callS hF hr hg hm hk hb (fun σ => L2N.passAt tk σ) ha hdb he hpl) fun σ H Q ⟨H0, G0, G, ρ, r, h⟩ => ?_
  exact ⟨H0, G0, G, ρ, r, (PostO.bind h).mono fun ds G1 H1 _ x1 h1 vs hv => ⟨G1, ds, x1.gh, hv, postE h1⟩⟩
end
/-! ### raise X('..') from None -/
theorem pmk5_own {X : Cx} {C : Addr} {bm : List Value} {B newId initId : String} {x m : Str} {j : Nat} {p p2 pos : Pos} (F : ExcBaseFacts B newId initId bm) (q : PySem.W.excIn X.K C bm newId = true) (gC : X.mg x = some (.ref C)) (kC : PySem.W.keepIn X.K (.ref C) = true) (r : Raises X (.ref C)) (hg : Gl X x)
    (hdb : (x == ("__debug__" : Str)) = false := by decide) : L2H.PMk5 X (.Call (.Name x p) [.Constant (.str m) j p2] [] pos) (fun _ H Q => Q (.ref C) none H) := by
  intro pins s σ H Q I h
  refine wpAny_Call_Name_kw (ld_glob I hg gC ?_ hdb)
  have ha : PA X [.Constant (.str m) j p2] (tCons (tC (.str m)) tNil) := pa_cons pe_str pa_nil
  refine PySem.W.callWith_K (h₀ := X.base) I.ok.mod.kin kC (thn (ha.run pos pins s σ H (fun vs H1 => vs = [V.str m] ∧ H = H1) I ⟨rfl, rfl⟩) fun us s1 hh => ?_)
  obtain ⟨vs, H1, I1, r1, ev, eH⟩ := hh
  subst ev
  rw [← eH] at I1
  refine ⟨I1.kIn, ?_⟩
  cases r1 with
  | cons ru rn =>
    rename_i u us'
    cases rn
    show wpAny _ _ (call (.ref C) [u]) _ _ _
    obtain ⟨bm, N, nm, qn, bs, hdct, sn, sub, ab, col, dd, k0, k1, k2, k3, k5, mN, hC, hN, hni, T⟩ := exc_obj I1.kIn q
    refine wpAny_call_exc_subT F T hC hN hni (fun h' e hm => ?_) (by show 1 ≤ sizeLine; rw [sizeLine_eq]; omega)
    exact L2H.mk_of5 I1 hm r h (I1.hok.gone hm.new)
/-- the errors of a try's body become another one -/
def tryN (cs : List Str) (z : Str) (m1 : MS) : MS := fun ρ => match m1 ρ with
  | .ex c ρ' => if c ∈ cs then .ex z ρ' else .no
  | f => f
theorem ds_tryN {X : Cx} {W : WX} {C CS : Addr} {bm : List Value} {B newId initId : String} {x z m : Str} {cs : List Str} {body : List Stmt} {m1 : MS} {j j2 : Nat} {p p2 p3 p4 np hp ep tp : Pos} (F : ExcBaseFacts B newId initId bm) (O : OwnEx X.K X.mg z C bm newId) (hS : X.mg x = some (.ref CS))
    (hcs : ∀ c ∈ cs, ∃ C', X.mg c = some (.ref C') ∧ PySem.W.exmOne X.K (.ref C') (.ref CS) = some true) (tk : Takes X W) (hpa : ∀ hd : Option Value, PassesOwnAt (model X.prog X.w) (X.A.mark hd) X.A X.env X.xe)
    (hb : ∀ (W : WX) (pn : List (Addr × Obj)) (xe : Value → Shared → Prop), L2N.Takes (X.tr pn xe) W → PassesOwn (model X.prog X.w) X.A X.env xe → DSs (X.tr pn xe) W body m1)
    (hs : X.stack = X.env :: X.outer := by rfl) (hf : X.env.frame = some X.env.locals := by rfl) (hgx : Gl X x := by rfl) (hdx : (x == ("__debug__" : Str)) = false := by decide) (hgz : Gl X z := by rfl) (hdz : (z == ("__debug__" : Str)) = false := by decide) :
    DS X W (.Try body [.ExceptHandler (some (.Name x np)) none [.Raise (some (.Call (.Name z p) [.Constant (.str m) j p2] [] p3)) (some (.Constant .none j2 p4)) hp] ep] [] [] tp) (tryN cs z m1) := by
  refine ps_imp (L2H.ps_try_onlyX (c := .ref CS) (tb := fun W' => tS X.K X.mg W' m1) (ts := fun a cls d D σ H => W (.ref C) none σ H) hs hf ⟨hgx, hdx, .inl hS⟩ hpa tk (fun W pn xe tk _ ps => hb W pn xe tk ps) fun a oe cls d pn hz hfl tk2 hot => ?_) fun D σ H ⟨H0, G0, G, ρ, r, h⟩ => ⟨H0, G0, G, ρ, r, ?_⟩
  · exact pss_one (L2H.ps_raiseHN hot tk2 (pmk5_own F O.e O.g O.k (raises_own O.b O.t) hgz hdz))
  · unfold tryN at h
    cases q : m1 ρ with
    | ex c ρ' =>
      rw [q] at h
      replace h : PostF X.K X.mg W D H0 G0 G (if c ∈ cs then .ex z ρ' else .no) := h
      split at h
      · rename_i hc
        intro C' σ' G' H' hmC sg r'
        obtain ⟨C2, g2, e2⟩ := hcs c hc
        have eC := Option.some.inj (hmC.symm.trans g2)
        rw [eC]
        exact ⟨true, e2, fun _ a ha => h C σ' G' H' O.g sg r', nofun⟩
      · exact h.elim
    | no => rw [q] at h; exact h.elim
    | nx ρ' => rw [q] at h; exact h
    | bk ρ' => rw [q] at h; exact h
    | ct ρ' => rw [q] at h; exact h
    | rt d => rw [q] at h; exact h
    | rtF d => rw [q] at h; exact h
end
end DL
/-! DL35: isinstance of a caught error against two classes; pair defs that raise; pairs unpacked. -/
namespace DL
noncomputable section
open PySem PySem.Spec PyProof.Rows L2
section
variable {X : Cx} {a C C1 C2 : Addr} {oe : Obj} {pn : List (Addr × Obj)} {n y z : Str} {i : Nat} {b : Bool} {p p2 p3 p4 p5 pos : Pos}
def rIsE2 (K : PySem.W.Frag) (D a : Addr) : List V → Hp → VK → Prop := fun xs H Q => ∃ (tp C1 C2 : Addr) (b : Bool), xs = [.ref a, .ref tp] ∧ H tp = some (.tup [.ref C1, .ref C2]) ∧ PySem.W.kitAny K (.ref D) [.ref C1, .ref C2] = some b ∧ Q (.bl b) H
theorem call_isE2 {D : Addr} (C : ExcC X.K D) (hz : Zc (.ref D) none oe) (hf : ∃ vs, oe.data = .fields vs) : CallR (X.suite a ((a, oe) :: pn)) (.builtin "isinstance") (rIsE2 X.K D a) := by
  intro pins s σ H xs us Q I r h
  obtain ⟨tp, C1, C2, b, rfl, hT, e, q⟩ := h
  obtain ⟨u1, u2, rfl, r1, r2⟩ := vals2 r
  cases (show u2 = Value.ref tp from r2)
  cases (show u1 = Value.ref a from r1)
  obtain ⟨hget, _⟩ := I.pin (a, oe) (List.mem_append.mpr (.inl List.mem_cons_self))
  obtain ⟨vs, hv⟩ := hf
  have J : PySem.W.InstAt s.heap a oe D none := by
    obtain ⟨oc, od, oda, osl⟩ := oe
    obtain ⟨h1, h2⟩ := hz
    dsimp only at h1 h2 hv
    subst h1 h2 hv
    exact ⟨hget, rfl, rfl, trivial⟩
  obtain ⟨_, its, rv, o, h1, h2, n, h3⟩ := (show ObjOk X.prog X.w H s.heap tp (.tup [.ref C1, .ref C2]) from I.hok tp _ hT)
  obtain ⟨w1, w2, rfl, q1, q2⟩ := vals2 rv
  cases (show w1 = Value.ref C1 from q1)
  cases (show w2 = Value.ref C2 from q2)
  obtain ⟨oc, od, dt, sl⟩ := o
  simp only at h2 h3
  subst h2 h3
  exact PySem.W.kia_tup (PySem.W.handS_kitx_exc C.hg C.hk C.hs C.hd C.ha C.hn C.ht C.hm) I.kIn J h1 e (fun z => nomatch z) fun tk => ⟨.bl b, H, I.kept (t' := tk) fun _ _ z => z, rfl, q⟩
theorem pe_isE2 {x1 : Nat} {tpos : Pos} (E : ExcC X.K C) (hz : Zc (.ref C) none oe) (hf : ∃ vs, oe.data = .fields vs) (hm : X.mg "isinstance" = none) (hy : X.mg y = some (.ref C1)) (hy2 : X.mg z = some (.ref C2)) (hk : PySem.W.kitAny X.K (.ref C) [.ref C1, .ref C2] = some b)
    (hN : X.N[i]? = some n) (hv : Vis X.env.scope n) (hd : (n == ("__debug__" : Str)) = false) (hcd : (n == ("__classdict__" : Str)) = false) (hg : Gl X "isinstance") (hgy : Gl X y) (hdy : (y == ("__debug__" : Str)) = false) (hgz : Gl X z) (hdz : (z == ("__debug__" : Str)) = false) :
    PE (X.suite a ((a, oe) :: pn)) (.Call (.Name "isinstance" p) [.Name n p2, .Tuple [.Name y p3, .Name z p4] x1 tpos] [] pos) (fun σ H Q => σ[i]? = some (some (.ref a)) ∧ ∀ t, H t = none → Q (.bl b) (upd H t (.tup [.ref C1, .ref C2]))) :=
  pe_imp (pe_callB (X := X.suite a ((a, oe) :: pn)) (call_isE2 E hz hf) hg hm (by decide +kernel) (pa_cons (pe_var hN hv hd hcd) (pa_cons (pe_tup (pa_cons (pe_glob (v := .ref C1) hgy hy rfl hdy) (pa_cons (pe_glob (v := .ref C2) hgz hy2 rfl hdz) pa_nil (by rfl)) (by rfl))) pa_nil (by rfl)) (by rfl)) (by decide) (by decide) (by rfl) (by rfl)) fun σ H Q ⟨h1, h2⟩ =>
    ⟨.ref a, h1, by show 2 ≤ sizeLine; rw [sizeLine_eq]; decide, fun t ht => ⟨t, C1, C2, b, rfl, upd_same, hk, h2 t ht⟩⟩
theorem pe_refused2 {C3 : Addr} {z2 s0 s1 : Str} {j0 j1 x1 : Nat} {tpos q0 q1 q2 q3 q4 q5 q6 q7 r4 r5 r6 r7 pos2 : Pos} (E : ExcC X.K C) (hz : Zc (.ref C) none oe) (hf : ∃ vs, oe.data = .fields vs) (hm : X.mg "isinstance" = none) (hmi : X.mg "int" = none)
    (hy : X.mg y = some (.ref C1)) (hk : PySem.W.kitOne X.K (.ref C) (.ref C1) = some true) (hy2 : X.mg z = some (.ref C2)) (hy3 : X.mg z2 = some (.ref C3)) (hk2 : PySem.W.kitAny X.K (.ref C) [.ref C2, .ref C3] = some false)
    (hN : X.N[i]? = some n) (hv : Vis X.env.scope n) (hd : (n == ("__debug__" : Str)) = false) (hcd : (n == ("__classdict__" : Str)) = false) (hg : Gl X "isinstance") (hgi : Gl X "int") (hgy : Gl X y) (hdy : (y == ("__debug__" : Str)) = false) (hgz : Gl X z) (hdz : (z == ("__debug__" : Str)) = false) (hgz2 : Gl X z2) (hdz2 : (z2 == ("__debug__" : Str)) = false) :
    PE (X.suite a ((a, oe) :: pn)) (.Subscript (.List [.Constant (.str s0) j0 q0, .Constant (.str s1) j1 q1] q2)
      (.Call (.Name "int" q3) [.BoolOp .And [.Call (.Name "isinstance" p) [.Name n p2, .Name y p3] [] pos, .UnaryOp .Not (.Call (.Name "isinstance" r4) [.Name n r5, .Tuple [.Name z r6, .Name z2 r7] x1 tpos] [] pos2) q7] q4] [] q5) q6)
      (fun σ H Q => σ[i]? = some (some (.ref a)) ∧ ∀ l t, H l = none → upd H l (.lst [.str s0, .str s1]) t = none → Q (.str s1) (upd (upd H l (.lst [.str s0, .str s1])) t (.tup [.ref C2, .ref C3]))) := by
  have A := pe_isE (a := a) (pn := pn) (p := p) (p2 := p2) (p3 := p3) (pos := pos) E hz hf hm hy hk hN hv hd hcd hg hgy hdy
  have B := pe_isE2 (a := a) (pn := pn) (p := r4) (p2 := r5) (p3 := r6) (p4 := r7) (x1 := x1) (tpos := tpos) (pos := pos2) E hz hf hm hy2 hy3 hk2 hN hv hd hcd hg hgz hdz hgz2 hdz2
  have AB := pe_and (pos := q4) A (pe_one (op := .And) (pos := q4) (pe_not (pos := q7) B))
  have I := pe_callTy (X := X.suite a ((a, oe) :: pn)) (x := "int") (p := q3) (pos := q5) call_int1 hgi hmi (by rfl) (pa_cons AB pa_nil (by rfl)) (by decide) (by decide) (by rfl) (by rfl)
  have L := pe_lst (X := X.suite a ((a, oe) :: pn)) (pos := q2) (pa_cons (pe_str (x := s0) (pos := q0) (j := j0)) (pa_cons (pe_str (x := s1) (pos := q1) (j := j1)) pa_nil (by rfl)) (by rfl))
  refine pe_imp (pe_ix (pos := q6) ix_list L I fun _ _ => rfl) fun σ H Q ⟨h1, h2⟩ => ?_
  refine ⟨by show 2 ≤ sizeLine; rw [sizeLine_eq]; decide, fun l hl => ?_⟩
  refine ⟨h1, true, rfl, ?_⟩
  refine iteT ⟨h1, fun t ht => ⟨false, rfl, ?_⟩⟩
  refine .inr ⟨true, rfl, ?_⟩
  have ne : l ≠ t := by
    rintro rfl
    rw [upd_same] at ht
    cases ht
  exact ⟨l, _, 1, _, rfl, rfl, .inl (.inl ((upd_ne ne).trans upd_same)), rfl, h2 l t hl ht⟩
structure CatchEx2 (K : PySem.W.Frag) (mg : Str → Option Value) (x y z z2 : Str) (C C1 C2 C3 : Addr) (bm : List Value) (newId : String) : Prop where
  o : OwnEx K mg x C bm newId
  c : ExcC K C
  g1 : mg y = some (.ref C1)
  k1 : PySem.W.kitOne K (.ref C) (.ref C1) = some true
  g2 : mg z = some (.ref C2)
  g3 : mg z2 = some (.ref C3)
  k2 : PySem.W.kitOne K (.ref C) (.ref C2) = some false
  k3 : PySem.W.kitOne K (.ref C) (.ref C3) = some false
theorem CatchEx2.any {K : PySem.W.Frag} {mg : Str → Option Value} {x y z z2 : Str} {C C1 C2 C3 : Addr} {bm : List Value} {newId : String} (O : CatchEx2 K mg x y z z2 C C1 C2 C3 bm newId) : PySem.W.kitAny K (.ref C) [.ref C2, .ref C3] = some false := by
  unfold PySem.W.kitAny
  rw [O.k2]
  dsimp only
  unfold PySem.W.kitAny
  rw [O.k3]
  rfl
theorem ds_try2 {W : WX} {C3 : Addr} {x z2 s0 s1 : Str} {bm : List Value} {newId : String} {body : List Stmt} {m1 : MS} {j0 j1 x1 : Nat} {tpos q0 q1 q2 q3 q4 q5 q6 q7 r4 r5 r6 r7 pos2 np rp hp tp : Pos} (i : Nat)
    (O : CatchEx2 X.K X.mg x y z z2 C C1 C2 C3 bm newId) (hm : X.mg "isinstance" = none) (hmi : X.mg "int" = none) (hND : X.N.Nodup) (tk : Takes X W)
    (hb : ∀ (W : WX) (pn : List (Addr × Obj)) (xe : Value → Shared → Prop), Takes (X.tr pn xe) W → PassesOwn (model X.prog X.w) X.A X.env xe → DSs (X.tr pn xe) W body m1)
    (hs : X.stack = X.env :: X.outer := by rfl) (hf : X.env.frame = some X.env.locals := by rfl) (hN : X.N[i]? = some n := by rfl) (hln : X.env.kindOf n = some .local := by rfl) (hv : Vis X.env.scope n := by first | exact Or.inl rfl | exact Or.inr (Or.inl rfl) | exact Or.inr (Or.inr rfl))
    (hd : (n == ("__debug__" : Str)) = false := by decide) (hcd : (n == ("__classdict__" : Str)) = false := by decide) (hg : Gl X "isinstance" := by rfl) (hgi : Gl X "int" := by rfl) (hgx : Gl X x := by rfl) (hdx : (x == ("__debug__" : Str)) = false := by decide)
    (hgy : Gl X y := by rfl) (hdy : (y == ("__debug__" : Str)) = false := by decide) (hgz : Gl X z := by rfl) (hdz : (z == ("__debug__" : Str)) = false := by decide) (hgz2 : Gl X z2 := by rfl) (hdz2 : (z2 == ("__debug__" : Str)) = false := by decide) :
    DS X W (.Try body [.ExceptHandler (some (.Name x np)) (some n) [.Return (some (.Subscript (.List [.Constant (.str s0) j0 q0, .Constant (.str s1) j1 q1] q2)
      (.Call (.Name "int" q3) [.BoolOp .And [.Call (.Name "isinstance" p) [.Name n p2, .Name y p3] [] pos, .UnaryOp .Not (.Call (.Name "isinstance" r4) [.Name n r5, .Tuple [.Name z r6, .Name z2 r7] x1 tpos] [] pos2) q7] q4] [] q5) q6)) rp] hp] [] [] tp) (tryS x i (.str s1) m1) := by
  refine ps_imp (ps_try_as (c := .ref C) (tb := fun W' => tS X.K X.mg W' m1) (ts := fun a cls d D σ H => cls = .ref C ∧ d = none ∧ σ[i]? = some (some (.ref a)) ∧ ∀ l t, H l = none → upd H l (.lst [.str s0, .str s1]) t = none → D.rt (.str s1) (upd (upd H l (.lst [.str s0, .str s1])) t (.tup [.ref C2, .ref C3]))) hs hf hND hN hln ⟨hgx, hdx, .inl O.o.g⟩ tk hb fun a oe cls d pn hz hfl => ⟨fun pins s σ H D I q => ?_⟩) fun D σ H ⟨H0, G0, G, ρ, r, h⟩ => ⟨H0, G0, G, ρ, r, ?_⟩
  · obtain ⟨rfl, rfl, h1, h2⟩ := q
    exact (pss_one (ps_ret (pe_refused2 O.c hz hfl hm hmi O.g1 O.k1 O.g2 O.g3 O.any hN hv hd hcd hg hgi hgy hdy hgz hdz hgz2 hdz2))).run pins s σ H D I ⟨h1, h2⟩
  · unfold tryS at h
    cases q : m1 ρ with
    | ex c ρ' =>
      rw [q] at h
      replace h : PostF X.K X.mg W D H0 G0 G (if c = x ∧ i < ρ'.length then .rt (.str s1) else .no) := h
      split at h
      · rename_i hc
        obtain ⟨rfl, hi⟩ := hc
        intro C' σ' G' H' hmC sg r'
        have eC := Option.some.inj (hmC.symm.trans O.o.g)
        rw [eC]
        refine ⟨true, O.o.m, fun _ a ha => ⟨rfl, rfl, List.getElem?_set_self (by rw [← r'.len]; exact hi), fun l t hl ht => ?_⟩, nofun⟩
        have x1 : Ext G' H' G' (upd H' l (.lst [.str s0, .str s1])) := Ext.hid r'.gh hl
        exact h (.str s1) G' _ sg ((r'.ext.trans x1).trans (Ext.hid x1.gh ht)) (.str _)
      · exact h.elim
    | no => rw [q] at h; exact h.elim
    | nx ρ' => rw [q] at h; exact h
    | bk ρ' => rw [q] at h; exact h
    | ct ρ' => rw [q] at h; exact h
    | rt d => rw [q] at h; exact h
    | rtF d => rw [q] at h; exact h
end
end
end DL
/-! DL36: pair defs that may raise; a pair unpacked; three new things in a list, two of them changed behind a test. -/
namespace DL
noncomputable section
open PySem PySem.Spec PyProof.Rows L2
inductive FlY where
  | no
  | ok (x : List PyData × PyData)
  | ex (c : Str) (ρ : Ro)
abbrev MY := Ro → FlY
section
variable (K : PySem.W.Frag) (mg : Str → Option Value) (W : WX)
def PostY (D : Ends) (H0 G0 G : Hp) : FlY → Prop
  | .ok x => ∀ t p vs v G' H', Same G G' → Ext G0 H0 G' H' → G' t = some (.tup [.ref p, v]) → H0 p = none → G' p = none → H' p = some (.lst vs) → DqAll K G' vs x.1 → Dq K G' v x.2 → D.rt (.ref t) H'
  | .ex c ρ => ∀ C σ G' H', mg c = some (.ref C) → Same G G' → Rel K H0 G0 G' ρ σ H' → W (.ref C) none σ H'
  | .no => False
end
theorem PostY.mono {K : PySem.W.Frag} {mg : Str → Option Value} {W : WX} {D : Ends} {H0 G0 G G' : Hp} {o : FlY} (s : Same G G') (h : PostY K mg W D H0 G0 G o) : PostY K mg W D H0 G0 G' o := by
  cases o with
  | ok x => exact fun t p vs v G2 H2 e => h t p vs v G2 H2 (s.trans e)
  | no => exact h
  | ex c ρ => exact fun C σ G2 H2 q e => h C σ G2 H2 q (s.trans e)
def tY (K : PySem.W.Frag) (mg : Str → Option Value) (W : WX) (m : MY) : TS := fun D σ H => ∃ H0 G0 G ρ, Rel K H0 G0 G ρ σ H ∧ PostY K mg W D H0 G0 G (m ρ)
def DSY (X : Cx) (W : WX) (sts : List Stmt) (m : MY) : Prop := PSs X sts (tY X.K X.mg W m)
def seqY (ms : MS) (mr : MY) : MY := fun ρ => match ms ρ with
  | .nx ρ' => mr ρ'
  | .ex c ρ' => .ex c ρ'
  | _ => .no
def retY (i : Nat) (me : MD) : MY := fun ρ => match ρ[i]? with
  | some (.own (.lst ds)) => match me ρ with
    | .ok d => .ok (ds, d)
    | .ex c => .ex c ρ
    | .no => .no
  | _ => .no
section
variable {X : Cx} {W : WX} {e : Expr} {es : List Expr} {st : Stmt} {rest : List Stmt} {ms : MS} {me : MD} {mr : MY} {ml : ML} {x f : Str} {p pos p2 p3 p4 : Pos} {k : Nat}
theorem dsy_cons (h1 : DS X W st ms) (h2 : DSY X W rest mr) : DSY X W (st :: rest) (seqY ms mr) := pss_imp (pss_cons h1 h2) fun D σ H ⟨H0, G0, G, ρ, r, h⟩ => by
  unfold seqY at h
  refine ⟨H0, G0, G, ρ, r, ?_⟩
  cases q : ms ρ with
  | nx ρ' =>
    rw [q] at h
    exact fun σ' G' H' s r' => ⟨H0, G0, G', ρ', r', PostY.mono s h⟩
  | ex c ρ' => rw [q] at h; exact h
  | _ => rw [q] at h; exact h.elim
theorem dsy_ret {x1} (i : Nat) (he : DE X W e me) (hN : X.N[i]? = some x := by rfl) (hv : Vis X.env.scope x := by first | exact Or.inl rfl | exact Or.inr (Or.inl rfl) | exact Or.inr (Or.inr rfl)) (hd : (x == ("__debug__" : Str)) = false := by decide) (hcd : (x == ("__classdict__" : Str)) = false := by decide)
    (hs : starEach [.Name x p, e] X.env = (false, eval (.Name x p) X.env) :: starEach [e] X.env := by rfl) (hs2 : starEach [e] X.env = (false, eval e X.env) :: starEach [] X.env := by rfl) : DSY X W [.Return (some (.Tuple [.Name x p, e] x1 p2)) pos] (retY i me) :=
  pss_imp (pss_one (ps_ret (pe_tup (pa_cons (pe_var hN hv hd hcd) (pa_cons he pa_nil hs2) hs)))) fun D σ H ⟨H0, G0, G, ρ, r, h⟩ => by
    unfold retY at h
    split at h
    · rename_i ds q
      obtain ⟨a1, u, es, hp, ho, hg, h0⟩ := r.getOwn q
      obtain ⟨vs, rfl, hvs⟩ := ho.isLst
      cases qe : me ρ with
      | no => rw [qe] at h; exact h.elim
      | ex c =>
        rw [qe] at h
        refine ⟨.ref a1, es, H0, G0, G, ρ, r, ?_⟩
        rw [qe]
        exact fun C G' H' e x => h C σ G' H' e x.g (r.step x)
      | ok d =>
        rw [qe] at h
        refine ⟨.ref a1, es, H0, G0, G, ρ, r, ?_⟩
        rw [qe]
        intro G1 H1 x1 v hv
        refine ⟨by show 2 ≤ sizeLine; rw [sizeLine_eq]; decide, fun t ht => ?_⟩
        have ht1 := x1.gh.free ht
        have pne : a1 ≠ t := by
          rintro rfl
          rw [x1.h _ _ hp] at ht
          cases ht
        have x2 : Ext G1 H1 (upd G1 t (.tup [.ref a1, v])) (upd H1 t (.tup [.ref a1, v])) := Ext.new x1.gh ht
        refine h t a1 vs v _ _ (x1.g.trans x2.g) (r.ext.trans (x1.trans x2)) upd_same h0 ?_ ?_ (dpAll_mono (x1.g.trans x2.g) hvs) (dp_mono x2.g hv)
        · rw [upd_ne pne]; exact x1.fr a1 hg (by rw [hp]; simp)
        · rw [upd_ne pne]; exact x1.h _ _ hp
    · exact h.elim
end
def runY (np n : Nat) (m : MY) (ds : List PyData) : Out (List PyData × PyData) := if ds.length = np then (match m (start0 n ds) with
  | .ok x => .ok x
  | .ex c _ => .ex c
  | .no => .no) else .no
section
variable {P : Program} {w : World} {K : PySem.W.Frag} {mg : Str → Option Value} {base : Heap}
theorem fun_Y {x qual : Str} {st : Stmt} {f : Addr} {fd : FuncData} {N ps : List Str} {k : Nat} {m : MY} (Fu : Fun K x qual st f fd) (S : FnScope N ps (defScope st))
    (hb : ∀ (cdv : Value) (A : Around) (outer : List Env) (s : Shared) (H : Hp) (E : XK), Room k (A.deeper (envOfC qual (defScope st) s.heap.objs.size f cdv)) → DSY (cxOf (L2.CX P w) P w K mg base N qual (defScope st) f cdv A outer s H E) (wE E) (defBody st) m) :
    FnOk P w K mg base (L2.CX P w) (k + 1) f fd ps (spP K mg (runY ps.length N.length m)) := by
  refine Fu.okX S (fun vs H Q E h => ?_) fun cdv A outer s H vs Q E hr h => ⟨_, hb cdv A outer s H E hr, ?_⟩
  · obtain ⟨G, ds, s, hd, h⟩ := h
    unfold runY at h
    split at h
    · rename_i hc
      rw [dpAll_len hd]; exact hc
    · exact h.elim
  · obtain ⟨G, ds, sg, hd, h⟩ := h
    refine ⟨H, G, G, _, start_rel (ps := ps) sg hd, ?_⟩
    unfold runY at h
    split at h
    · rename_i hc
      cases q : m (start0 N.length ds) with
      | no => rw [q] at h; exact h.elim
      | ex c ρ => rw [q] at h; exact fun C σ' G' H' e _ r' => h C G' H' e r'.ext
      | ok z => rw [q] at h; exact fun t p vs' v G' H' _ x ht hn hg hp hv he => h G' H' x t p vs' v ht hn hg hp hv he
    · exact h.elim
end
/-! ### a, b = f(..), f a pair def -/
def unpY (i j : Nat) (F : FP) (ml : ML) : MS := fun ρ => thenF (ml ρ >>= F) ρ fun x => .nx ((ρ.set i (.own (.lst x.1))).set j (.sh x.2))
section
variable {X : Cx} {W : WX} {e : Expr} {es : List Expr} {ml : ML} {x y f : Str} {p pos p2 p3 p4 p5 : Pos} {k : Nat} {ps : List Str} {F : FP}
theorem ds_unpY {kt : Nat} {pt : Pos} (i j : Nat) (C : Cal X.prog X.w X.K X.mg X.base k f ps (spP X.K X.mg F)) (hr : Room k X.A) (tk : Takes X W) (ha : DA X W (e :: es) ml) (hND : X.N.Nodup) (hg : Gl X f := by rfl) (hdb : (f == ("__debug__" : Str)) = false := by decide)
    (he : starEach (e :: es) X.env = (false, eval e X.env) :: starEach es X.env := by rfl) (hpl : (backTo p3 (starEach es X.env)).any (·.1) = false := by rfl)
    (hi : X.N[i]? = some x := by rfl) (hj : X.N[j]? = some y := by rfl) (hx : Loc X.env.scope x := by first | exact Or.inl rfl | exact Or.inr rfl) (hy : Loc X.env.scope y := by first | exact Or.inl rfl | exact Or.inr rfl)
    (hfx : X.fn x = true ∨ X.env.scope.names.lookup x = some .local := by first | exact .inl rfl | exact .inr rfl) (hfy : X.fn y = true ∨ X.env.scope.names.lookup y = some .local := by first | exact .inl rfl | exact .inr rfl) (hc : X.calm = true := by rfl)
    (hs : swapsWithSole [.Tuple [.Name x p4, .Name y p5] kt pt] (.Call (.Name f p2) (e :: es) [] p3) pos.line X.env = pure false := by rfl) (hw : swappedStores [.Tuple [.Name x p4, .Name y p5] kt pt] (.Call (.Name f p2) (e :: es) [] p3) X.env = pure none := by rfl)
    (h1 : (assignEach [.Tuple [.Name x p4, .Name y p5] kt pt] X.env).map (·.2) = [assign (.Tuple [.Name x p4, .Name y p5] kt pt) X.env] := by rfl)
    (hn : (assignEach [.Name x p4, .Name y p5] X.env).length = 2 := by rfl) (hst : (assignEach [.Name x p4, .Name y p5] X.env).findIdx? (·.1) = none := by rfl)
    (ha1 : (assignEach [.Name x p4, .Name y p5] X.env).map (·.2) = assign (.Name x p4) X.env :: (assignEach [.Name y p5] X.env).map (·.2) := by rfl) (ha2 : (assignEach [.Name y p5] X.env).map (·.2) = assign (.Name y p5) X.env :: (assignEach [] X.env).map (·.2) := by rfl) :
    DS X W (.Assign [.Tuple [.Name x p4, .Name y p5] kt pt] (.Call (.Name f p2) (e :: es) [] p3) pos) (unpY i j F ml) := by
  obtain ⟨fa, fd, hm, hk, hb, hF⟩ := C.ex
  refine ps_imp (ps_asg (pe_callS hF hr hg hm hk hb (fun σ => passAt tk σ) ha hdb he hpl) (pg_tup (n := 2) hc (pgs_cons (pg_name hND hi hx hfx) (pgs_cons (pg_name hND hj hy hfy) pgs_nil ha2) ha1) hn hst) hs hw h1) fun D σ H ⟨H0, G0, G, ρ, r, h⟩ => ?_
  have h2 := thenF_post (R := fun z G' H' => PostF X.K X.mg W D H0 G0 G' (.nx ((ρ.set i (.own (.lst z.1))).set j (.sh z.2)))) r h fun z G1 H1 _ x1 h1 => h1
  refine ⟨H0, G0, G, ρ, r, (PostO.bind h2).mono fun ds G1 H1 _ x1 h3 vs hv => ⟨G1, ds, x1.gh, hv, postE (h3.mono fun z G2 H2 _ x2 h4 => ?_)⟩⟩
  intro t pp ls v ht hnn hgp hp hls hve
  have r2 := (r.step x1).step x2
  refine ⟨t, [.ref pp, v], rfl, .inl (.inl (x2.gh _ _ ht)), rfl, .ref pp, [v], rfl, v, [], rfl, rfl, ?_⟩
  exact h4 _ G2 H2 (.refl _) ((r2.setOwn (b := .lst z.1) hp hls hgp (r.ext.h.free (x1.h.free hnn)) ((r.step x1).fresh_ne hnn)).set hve)
end
end
end DL
/-! DL37: told = [a, f(..), g(..)]; if ..: return ..; told[1].append(m); told[2].append(n). -/
namespace DL
noncomputable section
open PySem PySem.Spec PyProof.Rows L2
def told3S (i : Nat) (m0 : MD) (f1 f2 : Ro → Out (List PyData)) (mt : MB) (mr : MS) : MS := fun ρ => if i < ρ.length then (match m0 ρ with
  | .ok d => match f1 ρ with
    | .ok xs => match f2 ρ with
      | .ok ys => match mt (ρ.set i (.sh (.list [d, .list xs, .list ys]))) with
        | .ok true => onlyRt (mr (ρ.set i (.sh (.list [d, .list xs, .list ys]))))
        | .ok false => if xs.length < sizeLine ∧ ys.length < sizeLine then .nx (ρ.set i .un) else .no
        | _ => .no
      | _ => .no
    | _ => .no
  | _ => .no) else .no
theorem bind_ok {α β : Type} {o : Out α} {f : α → Out β} {b : β} (h : o >>= f = .ok b) : ∃ a, o = .ok a ∧ f a = .ok b := by
  cases o with
  | ok a => exact ⟨a, rfl, h⟩
  | no => cases h
  | ex c => cases h
section
variable {X : Cx} {W : WX} {a e1 e2 c : Expr} {es1 es2 : List Expr} {body : List Stmt} {m0 : MD} {mt : MB} {mr : MS} {ml1 ml2 : ML} {x f g : Str} {p pos p2 p3 p4 p5 p6 p7 p8 p9 p10 p11 p12 lp ap ap2 cp cp2 : Pos} {k1 k2 : Nat} {ps1 ps2 : List Str} {F1 F2 : FF}
theorem dss_told3 {n1 n2 : Int} (i : Nat) (h0 : DE X W a m0) (C1 : Cal X.prog X.w X.K X.mg X.base k1 f ps1 (spF X.K X.mg F1)) (hr1 : Room k1 X.A) (C2 : Cal X.prog X.w X.K X.mg X.base k2 g ps2 (spF X.K X.mg F2)) (hr2 : Room k2 X.A) (tk : Takes X W) (ha1 : DA X W (e1 :: es1) ml1) (ha2 : DA X W (e2 :: es2) ml2) (ht : DT X W c mt) (hb : DSs X W body mr)
    (hND : X.N.Nodup) (hN : X.N[i]? = some x := by rfl) (hx : Loc X.env.scope x := by first | exact Or.inl rfl | exact Or.inr rfl) (hf : X.fn x = true ∨ X.env.scope.names.lookup x = some .local := by first | exact .inl rfl | exact .inr rfl)
    (hv : Vis X.env.scope x := by first | exact Or.inl rfl | exact Or.inr (Or.inl rfl) | exact Or.inr (Or.inr rfl)) (hd : (x == ("__debug__" : Str)) = false := by decide) (hcd : (x == ("__classdict__" : Str)) = false := by decide)
    (hg1 : Gl X f := by rfl) (hdb1 : (f == ("__debug__" : Str)) = false := by decide) (hg2 : Gl X g := by rfl) (hdb2 : (g == ("__debug__" : Str)) = false := by decide)
    (he1 : starEach (e1 :: es1) X.env = (false, eval e1 X.env) :: starEach es1 X.env := by rfl) (hpl1 : (backTo p3 (starEach es1 X.env)).any (·.1) = false := by rfl)
    (he2 : starEach (e2 :: es2) X.env = (false, eval e2 X.env) :: starEach es2 X.env := by rfl) (hpl2 : (backTo p5 (starEach es2 X.env)).any (·.1) = false := by rfl)
    (hl1 : starEach [a, .Call (.Name f p2) (e1 :: es1) [] p3, .Call (.Name g p4) (e2 :: es2) [] p5] X.env = (false, eval a X.env) :: starEach [.Call (.Name f p2) (e1 :: es1) [] p3, .Call (.Name g p4) (e2 :: es2) [] p5] X.env := by rfl)
    (hl2 : starEach [.Call (.Name f p2) (e1 :: es1) [] p3, .Call (.Name g p4) (e2 :: es2) [] p5] X.env = (false, eval (.Call (.Name f p2) (e1 :: es1) [] p3) X.env) :: starEach [.Call (.Name g p4) (e2 :: es2) [] p5] X.env := by rfl)
    (hl3 : starEach [.Call (.Name g p4) (e2 :: es2) [] p5] X.env = (false, eval (.Call (.Name g p4) (e2 :: es2) [] p5) X.env) :: starEach [] X.env := by rfl)
    (hs : swapsWith (.List [a, .Call (.Name f p2) (e1 :: es1) [] p3, .Call (.Name g p4) (e2 :: es2) [] p5] lp) (some (.Name x p)) pos.line X.env = pure false := by rfl)
    (hbase : attributeBase (.Subscript (.Name x p6) (.Constant (.int 1) 0 p7) p8) "append" X.env (eval (.Subscript (.Name x p6) (.Constant (.int 1) 0 p7) p8) X.env) = eval (.Subscript (.Name x p6) (.Constant (.int 1) 0 p7) p8) X.env := by rfl)
    (hfew : ((backTo cp (starEach [.Constant (.int n1) 0 p9] X.env)).all (fun x => !x.1) && (backToKw cp (keywordEach [] X.env)).all (fun x => x.1.isSome)
      && decide (([.Constant (.int n1) 0 p9] : List Expr).length + ([] : List Keyword).length + (if ([] : List Keyword).isEmpty then 0 else 1) < 30)) = true := by rfl)
    (hline : (ap.endLine == cp.line) = true := by rfl) (hs1 : starEach [.Constant (.int n1) 0 p9] X.env = (false, eval (.Constant (.int n1) 0 p9) X.env) :: starEach [] X.env := by rfl) (hplain : (backTo cp (starEach [] X.env)).any (·.1) = false := by rfl)
    (hsw : swapsWith (.Call (.Attribute (.Subscript (.Name x p6) (.Constant (.int 1) 0 p7) p8) "append" ap) [.Constant (.int n1) 0 p9] [] cp) none p10.line X.env = pure false := by rfl)
    {q6 q7 q8 q9 q10 q11 : Pos}
    (hbase2 : attributeBase (.Subscript (.Name x q6) (.Constant (.int 2) 0 q7) q8) "append" X.env (eval (.Subscript (.Name x q6) (.Constant (.int 2) 0 q7) q8) X.env) = eval (.Subscript (.Name x q6) (.Constant (.int 2) 0 q7) q8) X.env := by rfl)
    (hfew2 : ((backTo cp2 (starEach [.Constant (.int n2) 0 q9] X.env)).all (fun x => !x.1) && (backToKw cp2 (keywordEach [] X.env)).all (fun x => x.1.isSome)
      && decide (([.Constant (.int n2) 0 q9] : List Expr).length + ([] : List Keyword).length + (if ([] : List Keyword).isEmpty then 0 else 1) < 30)) = true := by rfl)
    (hline2 : (ap2.endLine == cp2.line) = true := by rfl) (hs2 : starEach [.Constant (.int n2) 0 q9] X.env = (false, eval (.Constant (.int n2) 0 q9) X.env) :: starEach [] X.env := by rfl) (hplain2 : (backTo cp2 (starEach [] X.env)).any (·.1) = false := by rfl)
    (hsw2 : swapsWith (.Call (.Attribute (.Subscript (.Name x q6) (.Constant (.int 2) 0 q7) q8) "append" ap2) [.Constant (.int n2) 0 q9] [] cp2) none q10.line X.env = pure false := by rfl) :
    DSs X W [.Assign [.Name x p] (.List [a, .Call (.Name f p2) (e1 :: es1) [] p3, .Call (.Name g p4) (e2 :: es2) [] p5] lp) pos, .If c body [] q11, .Expr (.Call (.Attribute (.Subscript (.Name x p6) (.Constant (.int 1) 0 p7) p8) "append" ap) [.Constant (.int n1) 0 p9] [] cp) p10,
      .Expr (.Call (.Attribute (.Subscript (.Name x q6) (.Constant (.int 2) 0 q7) q8) "append" ap2) [.Constant (.int n2) 0 q9] [] cp2) q10]
      (told3S i m0 (fun ρ => ml1 ρ >>= F1) (fun ρ => ml2 ρ >>= F2) mt mr) := by
  obtain ⟨fa, fd, hm1, hk1, hbi1, hF1⟩ := C1.ex
  obtain ⟨ga, gd, hm2, hk2, hbi2, hF2⟩ := C2.ex
  have s1 := ps_set (pos := pos) (pos' := p) hND hN hx (pe_lst (pos := lp) (pa_cons h0 (pa_cons (pe_callS (p := p2) (pos := p3) hF1 hr1 hg1 hm1 hk1 hbi1 (fun σ => passAt tk σ) ha1 hdb1 he1 hpl1) (pa_cons (pe_callS (p := p4) (pos := p5) hF2 hr2 hg2 hm2 hk2 hbi2 (fun σ => passAt tk σ) ha2 hdb2 he2 hpl2) pa_nil hl3) hl2) hl1)) hs hf
  have s2 := ps_if (pos := q11) ht hb (pss_nil (X := X))
  have s3 := ps_expr (pe_bm PySem.F.plainAttrs_list PySem.F.slot_list_append PySem.F.type_list_append mt_append (pe_ix ix_list (pe_var hN hv hd hcd) (pe_int (i := 1) (pos := p7)) (fun _ _ => rfl)) (pa_cons (pe_int (i := n1) (pos := p9)) pa_nil hs1) hbase hfew hline hs1 hplain) hsw
  have s4 := ps_expr (pe_bm PySem.F.plainAttrs_list PySem.F.slot_list_append PySem.F.type_list_append mt_append (pe_ix ix_list (pe_var hN hv hd hcd) (pe_int (i := 2) (pos := q7)) (fun _ _ => rfl)) (pa_cons (pe_int (i := n2) (pos := q9)) pa_nil hs2) hbase2 hfew2 hline2 hs2 hplain2) hsw2
  refine pss_imp (pss_cons s1 (pss_cons s2 (pss_cons s3 (pss_one s4)))) fun D σ H ⟨H0, G0, G, ρ, r, h⟩ => ?_
  unfold told3S at h
  split at h
  case isFalse => exact h.elim
  rename_i hil0
  dsimp only at h
  cases qa : m0 ρ with
  | no => rw [qa] at h; exact h.elim
  | ex c => rw [qa] at h; exact h.elim
  | ok d =>
  cases qx : (ml1 ρ >>= F1) with
  | no => rw [qa, qx] at h; exact h.elim
  | ex c => rw [qa, qx] at h; exact h.elim
  | ok xs =>
  cases qy : (ml2 ρ >>= F2) with
  | no => rw [qa, qx, qy] at h; exact h.elim
  | ex c => rw [qa, qx, qy] at h; exact h.elim
  | ok ys =>
  rw [qa, qx, qy] at h
  replace h : PostF X.K X.mg W D H0 G0 G (match mt (ρ.set i (.sh (.list [d, .list xs, .list ys]))) with
    | .ok true => onlyRt (mr (ρ.set i (.sh (.list [d, .list xs, .list ys]))))
    | .ok false => if xs.length < sizeLine ∧ ys.length < sizeLine then .nx (ρ.set i .un) else .no
    | _ => .no) := h
  obtain ⟨ds1, qd1, qF1⟩ := bind_ok qx
  obtain ⟨ds2, qd2, qF2⟩ := bind_ok qy
  refine ⟨H0, G0, G, ρ, r, ?_⟩
  rw [qa]
  intro G1 H1 x1 v0 hv0
  refine ⟨H0, G0, G1, ρ, r.step x1, ?_⟩
  rw [qd1]
  intro G2 H2 x2 vs1 hvs1
  refine ⟨G2, ds1, x2.gh, hvs1, ?_⟩
  rw [qF1]
  intro G3 H3 x3 pp ls hn1 hgp1 hp1 hls
  refine ⟨H0, G0, G3, ρ, ((r.step x1).step x2).step x3, ?_⟩
  rw [qd2]
  intro G4 H4 x4 vs2 hvs2
  refine ⟨G4, ds2, x4.gh, hvs2, ?_⟩
  rw [qF2]
  intro G5 H5 x5 rr ms hn2 hgp2 hp2 hms
  refine ⟨by show 3 ≤ sizeLine; rw [sizeLine_eq]; decide, fun q hq => ?_⟩
  have x45 := x4.trans x5
  have x13 := x1.trans (x2.trans x3)
  have x15 : Ext G H G5 H5 := x13.trans x45
  have hp1' : H5 pp = some (.lst ls) := x45.h _ _ hp1
  have hgp1' : G5 pp = none := x45.fr pp hgp1 (by rw [hp1]; simp)
  have n12 : pp ≠ rr := by
    rintro rfl
    rw [x4.h _ _ hp1] at hn2
    cases hn2
  have n1q : pp ≠ q := by rintro rfl; rw [hp1'] at hq; cases hq
  have n2q : rr ≠ q := by rintro rfl; rw [hp2] at hq; cases hq
  have hq5 : G5 q = none := x5.gh.free hq
  have HHp : H pp = none := x1.h.free (x2.h.free hn1)
  have HHr : H rr = none := x13.h.free (x4.h.free hn2)
  have HHq : H q = none := x15.h.free hq
  have x16 : Ext G H G5 (upd H5 q (.lst [v0, .ref pp, .ref rr])) := x15.trans (Ext.hid x5.gh hq)
  have e6p : (upd H5 q (HO.lst [v0, .ref pp, .ref rr])) pp = some (.lst ls) := (upd_ne n1q).trans hp1'
  have e6r : (upd H5 q (HO.lst [v0, .ref pp, .ref rr])) rr = some (.lst ms) := (upd_ne n2q).trans hp2
  have y1 := x16.freeze HHp e6p hgp1'
  have g2r : (upd G5 pp (HO.lst ls)) rr = none := (upd_ne n12.symm).trans hgp2
  have y2 := y1.freeze HHr e6r g2r
  have g3q : (upd (upd G5 pp (HO.lst ls)) rr (HO.lst ms)) q = none := (upd_ne n2q.symm).trans ((upd_ne n1q.symm).trans hq5)
  have y3 := y2.freeze HHq (show (upd H5 q (HO.lst [v0, .ref pp, .ref rr])) q = some (.lst [v0, .ref pp, .ref rr]) from upd_same) g3q
  have sg1 : Same G5 (upd G5 pp (HO.lst ls)) := same_upd hgp1'
  have sg2 : Same (upd G5 pp (HO.lst ls)) (upd (upd G5 pp (HO.lst ls)) rr (HO.lst ms)) := same_upd g2r
  have sg3 : Same (upd (upd G5 pp (HO.lst ls)) rr (HO.lst ms)) (upd (upd (upd G5 pp (HO.lst ls)) rr (HO.lst ms)) q (HO.lst [v0, .ref pp, .ref rr])) := same_upd g3q
  have sg := (sg1.trans sg2).trans sg3
  have r4 := (r.step y3).set (i := i) (v := .ref q) (d := .list [d, .list xs, .list ys]) (.lst (Rd.of upd_same) (.cons (dp_mono (((x2.trans x3).trans x45).g.trans sg) hv0)
    (.cons (.lst (Rd.of ((upd_ne n1q).trans ((upd_ne n12).trans upd_same))) (dpAll_mono (x45.g.trans sg) hls)) (.cons (.lst (Rd.of ((upd_ne n2q).trans upd_same)) (dpAll_mono sg hms)) .nil))))
  have r5 := (r.step x16).drop (i := i) (o := some (.ref q))
  refine ⟨H0, G0, _, _, r4, ?_⟩
  cases qt : mt (ρ.set i (.sh (.list [d, .list xs, .list ys]))) with
  | no => rw [qt] at h; exact h.elim
  | ex c => rw [qt] at h; exact h.elim
  | ok b =>
    rw [qt] at h
    intro G7 H7 x7
    cases b with
    | true =>
      have h : PostF X.K X.mg W D H0 G0 G (onlyRt (mr (ρ.set i (.sh (.list [d, .list xs, .list ys]))))) := h
      refine ⟨H0, G0, G7, _, r4.step x7, ?_⟩
      cases qm : mr (ρ.set i (.sh (.list [d, .list xs, .list ys]))) with
      | rt dd =>
        rw [qm] at h
        exact fun v G' H' s' x' hv' => h v G' H' ((y3.g.trans x7.g).trans s') x' hv'
      | _ => rw [qm] at h; exact h.elim
    | false =>
      have h : PostF X.K X.mg W D H0 G0 G (if xs.length < sizeLine ∧ ys.length < sizeLine then .nx (ρ.set i .un) else .no) := h
      split at h
      · rename_i hz
        have x8 : Ext G5 (upd H5 q (.lst [v0, .ref pp, .ref rr])) G5 H7 := ⟨.refl _, x7.h, (sg.trans x7.g).trans x7.gh, fun _ e _ => e⟩
        have r6 := r5.step x8
        have hil : i < σ.length := by rw [← r.len]; exact hil0
        have eσ : (σ.set i (some (.ref q)))[i]? = some (some (V.ref q)) := List.getElem?_set_self hil
        have hq7 : H7 q = some (.lst [v0, .ref pp, .ref rr]) := x8.h _ _ upd_same
        have hp7 := x8.h _ _ e6p
        have hr7 := x8.h _ _ e6r
        have no_own : ∀ (b : Addr), H b = none → ∀ (j : Nat) (c : Ob), (ρ.set i Sl.un)[j]? = some (Sl.own c) → (σ.set i (some (.ref q)))[j]? ≠ some (some (V.ref b)) := fun b hb j c e1 e2 => by
          have hji : i ≠ j := by
            rintro rfl
            rw [List.getElem?_set_self hil0] at e1
            cases e1
          rw [List.getElem?_set_ne hji] at e1 e2
          obtain ⟨p', u, es', hp', _⟩ := r.getOwn e1
          rw [e2] at es'
          cases es'
          rw [hb] at hp'
          cases hp'
        refine ⟨.ref q, eσ, q, [v0, .ref pp, .ref rr], 1, .ref pp, rfl, rfl, .inl (.inl hq7), rfl, .inl ⟨rfl, ls, SqL.of hp7⟩, pp, ls, .int n1, rfl, rfl, hp7, by rw [dpAll_len hls]; exact hz.1, ?_⟩
        have r7 := r6.other (p := pp) (u := .lst (ls ++ [.int n1])) hgp1' (r.ext.h.free HHp) (no_own pp HHp)
        have hq8 : (upd H7 pp (HO.lst (ls ++ [.int n1]))) q = some (.lst [v0, .ref pp, .ref rr]) := (upd_ne n1q.symm).trans hq7
        have hr8 : (upd H7 pp (HO.lst (ls ++ [.int n1]))) rr = some (.lst ms) := (upd_ne n12.symm).trans hr7
        refine ⟨.ref q, eσ, q, [v0, .ref pp, .ref rr], 2, .ref rr, rfl, rfl, .inl (.inl hq8), rfl, .inl ⟨rfl, ms, SqL.of hr8⟩, rr, ms, .int n2, rfl, rfl, hr8, by rw [dpAll_len hms]; exact hz.2, ?_⟩
        have r8 := r7.other (p := rr) (u := .lst (ms ++ [.int n2])) hgp2 (r.ext.h.free HHr) (no_own rr HHr)
        exact h _ G5 _ x15.g r8
      · exact h.elim
end
end
end DL
/-! DL38: a text by a number. -/
namespace DL
noncomputable section
open PySem PySem.Spec PyProof.Rows L2
instance (a : Str) (n : Int) : Decidable (MulOk a n) := Classical.propDecidable _
def rMulS : R2 := fun x y H Q => ∃ (a : Str) (n : Int), x = .str a ∧ y = .int n ∧ MulOk a n ∧ Q (.str (Txt.mul a n)) H
section
variable {X : Cx} {W : WX} {a b : Expr} {ma mb : MD} {pos : Pos}
theorem op_mulS : OpR X (binaryOp .Mult) rMulS := by
  intro pins s σ H x y v u Q I rx ry h
  obtain ⟨a, n, rfl, rfl, hok, q⟩ := h
  obtain ⟨t, rfl⟩ := rx
  obtain ⟨t2, rfl⟩ := ry
  exact SB.mul hok fun t' k => ⟨.str (Txt.mul a n), H, I.tok k, ⟨_, rfl⟩, q⟩
def mulT : PyData → PyData → Out PyData
  | .str a, .int n => if MulOk a n then .ok (.str (Txt.mul a n)) else .no
  | _, _ => .no
theorem de_mulT (ha : DE X W a ma) (hb : DE X W b mb) : DE X W (.BinOp a .Mult b pos) (m2 mulT ma mb) := de_op op_mulS (fun mg W σ G H Q x y d e s hx hy h => by
  unfold mulT at h
  split at h
  · obtain rfl := dp_str hx
    obtain rfl := dp_int hy
    split at h
    · rename_i hc
      exact ⟨_, _, rfl, rfl, hc, h.now s _ (.str _)⟩
    · exact h.elim
  · exact h.elim) ha hb
end
end
end DL
/-! DL39: an error class under another one. -/
namespace DL
noncomputable section
open PySem PySem.Spec PyProof.Rows L2
theorem ex_sub {K : PySem.W.Frag} {C CS : Addr} (h1 : PySem.W.subIn K (.ref CS) (.type "BaseException") = some true) (h2 : PySem.W.isClsIn K CS = true) (h3 : PySem.W.typeIn K (.ref CS) = some (.type "type")) (h4 : PySem.W.subIn K (.ref C) (.ref CS) = some true) : PySem.W.exmOne K (.ref C) (.ref CS) = some true := by
  have h2' : (PySem.W.clsIn K CS).isSome = true := h2
  unfold PySem.W.exmOne
  rw [if_pos (by rw [h1]; rfl)]
  unfold PySem.W.kitCls
  dsimp only
  rw [if_pos (by rw [h2', h3]; rfl)]
  exact h4
end
end DL
/-! DL40: comprehensions whose element may raise. -/
namespace DL
noncomputable section
open PySem PySem.Spec PyProof.Rows L2
open Sem (wp)
/-- how a comprehension's block ends: a value, or an error that goes on in the frame fr -/
def endX (M : Model) (A : Around) (E : Value → Shared → Prop) (use : Option (Value → Sem Unit)) (Q : Value → Shared → Prop) (acc : Value) (C : Addr) (fr : Option Addr) (r : Result) (s' : Shared) : Prop := match r with
  | .ok _ => compPost M A E use Q acc C (.ok .next) s'
  | .error x => ∃ m, s'.heap.Ns C m ∧ ∀ h', Heap.SameBut C s'.heap h' → ∀ cenv : Env, cenv.locals = C → cenv.frame = fr → wpAny M A (passOn "comprehension.variables-let-go" x cenv : Sem Value) (fun _ _ => False) E { s' with heap := h' }
section
variable {M : Model} {A : Around} {E : Value → Shared → Prop} {s : Shared} {env : Env}
theorem compr_x {e : Expr} {scope : Scope} {pos : Pos} {newAcc first : Sem Value} {g : Comprehension} {gs : List Comprehension} {cl : List (Str × Addr)} {use : Option (Value → Sem Unit)} {Q : Value → Shared → Prop}
    (hcl : clausesOf e = g :: gs) (hs : ∀ x, foldedSetIterable g.iter env x = pure x) (hclos : closureFor scope env = pure cl) (hkind : scope.kind = .function) (hnames : ∀ x ∈ scope.names, x.2 = .local → scope.names.lookup x.1 = some .local)
    (h : wpAny M A first (fun x s₁ => wpAny M A (pyIter x) (fun it s₂ => wpAny M A newAcc (fun acc s₃ =>
      wpAny M A (newFunctionEnv scope env.globals cl [] env.qual none .none (some env)) (fun cenv s₄ =>
        codeAny M A (.compStart e 0 it acc { cenv with scope := relabel scope env }) (endX M A E use Q acc cenv.locals cenv.frame) s₄) E s₃) E s₂) E s₁) E s) :
    wpAny M A (comprehension e scope env pos newAcc false first use) Q E s := by
  unfold comprehension
  rw [hclos, hcl]
  have out : ∀ {α : Type} {t : Sem α} {P P' : α → Shared → Prop} {s}, wpAny M A t P E s → (∀ a s, P a s → P' a s) → wpAny M A t P' E s := fun h k => wpAny_mono h k fun _ _ z => z
  refine wpAny_bind (out h fun x s₁ h₁ => wpAny_bind (wpAny_standAt (wpAny_bind (wpAny_of_eq (hs x) (wpAny_bind (wpAny_holding (out h₁ fun it s₂ h₂ => wpAny_standIf (wpAny_bind (out h₂ fun acc s₃ h₃ => wpAny_bind (wpAny_pure (wpAny_bind (out h₃ fun cenv s₄ h₄ => ?_))))))))))))
  dsimp only
  have loc : ∀ x ∈ (scope.names.filter fun x => (x.2 == .local || x.2 == .cell) && x.1 != (".0" : Str)).reverse, x.2 = .local → Env.kindOf { cenv with scope := relabel scope env } x.1 = some .local := fun x hx hl =>
    lookup_relabel_local (hnames x (List.mem_filter.mp (List.mem_reverse.mp hx)).1 hl)
  refine wpAny_holding (wpAny_bind (wpAny_attempt (wpAny_holding (wpAny_run (codeAny_mono h₄ fun r s' hr => ?_)))))
  cases r with
  | error x =>
    obtain ⟨m, hn, hr⟩ := hr
    exact wpAny_bind (wpAny_holding (wpAny_comp_letGo (cenv := { cenv with scope := relabel scope env }) hkind _ s' m loc hn fun h' m' _ hs' => wpAny_mono (hr h' hs' _ rfl rfl) (fun _ _ f => f.elim) fun _ _ y => y))
  | ok f =>
    have hr : compPost M A E use Q acc cenv.locals (.ok .next) s' := hr
    cases use with
    | none =>
      obtain ⟨m, hn, hr⟩ := hr
      exact wpAny_bind (wpAny_holding (wpAny_comp_letGo (cenv := { cenv with scope := relabel scope env }) hkind _ s' m loc hn fun h' m' _ hs' => wpAny_pure (hr h' hs')))
    | some u =>
      refine wpAny_bind (wpAny_rule (wpAny_bind (wpAny_holding (out hr fun _ s'' hr' => ?_))))
      obtain ⟨m, hn, hr'⟩ := hr'
      exact wpAny_bind (wpAny_comp_letGo (cenv := { cenv with scope := relabel scope env }) hkind _ s'' m (fun x hx hl => (List.mem_append.mp hx).elim (fun z => loc x (List.mem_of_mem_drop z) hl) fun z => loc x (List.mem_of_mem_take z) hl) hn fun h' m' _ hs' => wpAny_pure (hr' h' hs'))
end
/-- noteFrame looks at the frame alone -/
theorem note_same {e : Value} {env ce : Env} (h : ce.frame = env.frame) : noteFrame e ce = noteFrame e env := by
  unfold noteFrame PySem.frameOf
  rw [h]
theorem ff_change {h h' base base' : Heap} (k : ∀ b o, base.get? b = none → h.get? b = some o → h'.get? b = some o) (kb : ∀ b, base.get? b = none → base'.get? b = none) : ∀ {l : List Env}, h.FunFrames base l → h'.FunFrames base' l
  | [], _ => trivial
  | env :: l, ⟨h1, ⟨L, o, h2, h3, h4, h5⟩, h6⟩ => ⟨h1, ⟨L, o, h2, kb L h3, k L o h3 h4, h5⟩, ff_change k kb h6⟩
section
variable {X : Cx} {W : WX} {pins : List (Addr × Obj)} {σ : L2.St} {H : Hp} {s s' : Shared} {E : XK} {C : Addr} {ce : Env} {u : Value} {use : Option (Value → Sem Unit)} {Q : Value → Shared → Prop} {acc : Value} {m : Str → Option Value} {E₁ : Value → Shared → Prop}
/-- an error that a call in a comprehension's block let out: noted at the def's frame, the block's names let go, on it goes -/
theorem blk_err (hs : X.stack = X.env :: X.outer) (hf : X.env.frame = some X.env.locals) (tk : Takes X W) (hW : ∀ cls d H', E cls d H' → W cls d σ H') (I : Inv X pins σ H s) (fp : FpOk X pins H C) (hn : s.heap.Ns C m) (hce : ce.frame = X.env.frame)
    (c : L2.CX X.prog X.w X.stack H s E u s') : wpAny (model X.prog X.w) X.A (noteFrame u ce) (fun _ s'' => endX (model X.prog X.w) X.A X.xe use Q acc C ce.frame (.error u) s'') E₁ s' := by
  obtain ⟨a, B, H', cls, d, rfl, fl, hok, ub, na, os, ag, hE⟩ := c
  obtain ⟨fp0, fp1, fp2, fp3, fp4, fp5⟩ := fp
  have hfr : X.A.frames = some (X.env :: X.outer) := by rw [I.ok.frames, hs]
  obtain ⟨oC, es, ep, hoC, rC⟩ := _root_.id hn
  have nfs : C ∉ frs X.stack := fun z => by
    rcases List.mem_cons.mp (I.stkSub C z) with z | z
    · exact fp1 z
    · exact fp2 z
  have BC : ∃ o, B.get? C = some o := ⟨_, ub.keep C _ hoC fp0 nfs⟩
  have HC : H' C = none := ub.free C _ hoC fp0
  rw [note_same hce]
  rw [hs] at fl
  refine HandSPX.looks_onZ Zc.steady hfr hf fl fun h1 hh up => ?_
  obtain ⟨k1, k2, k3, k4⟩ := hh
  have h1C := k1 _ _ (ub.keep C _ hoC fp0 nfs)
  refine ⟨m, ⟨oC, es, ep, h1C, rC⟩, fun h2 sb cenv hl hcf => ?_⟩
  obtain ⟨B2, b1, b2⟩ := restrict B fun b => decide (b ≠ C)
  have hb2 : ∀ b o, B2.get? b = some o → b ≠ C ∧ B.get? b = some o := fun b o e => by
    by_cases z : b = C
    · rw [b2 b (by simp [z])] at e; cases e
    · exact ⟨z, (b1 b (by simp [z])) ▸ e⟩
  have nb2 : ∀ b, B.get? b = none → B2.get? b = none := fun b e => by
    cases q : B2.get? b with
    | none => rfl
    | some o => rw [(hb2 b o q).2] at e; cases e
  have neC : ∀ b, B.get? b = none → b ≠ C := fun b e z => by
    obtain ⟨o, q⟩ := BC
    rw [z, q] at e; cases e
  have st2 : B2.StaysIn h2 := fun b o e => by
    obtain ⟨z, q⟩ := hb2 b o e
    exact (sb.2 b z).trans (k1 b o q)
  have ff2 : h2.FunFrames B2 (X.env :: X.outer) := ff_change (fun b o e1 e2 => (sb.2 b (neC b e1)).trans e2) nb2 k3
  obtain ⟨oe, vs, T, oT, ts, t1, t2, t3, t4, t5, t6, t7, t8, t9⟩ := k4
  have tr2 : HandSPX.TracedZ h2 B2 a (Zc cls d) (rawInt X.env.locals) := ⟨oe, vs, T, oT, ts, (sb.2 a (neC a k2)).trans t1, t2, t3, t4, nb2 T t5, t6, (sb.2 T (neC T t5)).trans t7, t8, t9⟩
  unfold PySem.passOn
  refine wpAny_bind (wpAny_field ((sb.2 a (neC a k2)).trans t1) t3 t4 ?_)
  rw [if_neg (by simp)]
  refine wpAny_bind (HandSPX.setFlight_anyZ (base := B2) (l := X.env :: X.outer) (fr := cenv.frame) st2 ff2 tr2 fun h3 s1 s2 s3 s4 => ?_)
  refine wpAny_throw ?_
  rw [hcf, hce, hf] at s3
  -- what stands without the error, without the block's names
  obtain ⟨G, g1, g2⟩ := restrict s'.heap fun b => (B.get? b).isSome || decide (b ∈ frs X.stack)
  have st : B.StaysIn s'.heap := fl.1
  have gB : ∀ b o, B.get? b = some o → G.get? b = some o := fun b o e => by
    rw [g1 b (by simp [e])]
    exact st b o e
  have gF : ∀ b, b ∈ frs X.stack → G.get? b = s'.heap.get? b := fun b hb => g1 b (by simp [hb])
  have og : ∀ b o, G.get? b = some o → s'.heap.get? b = some o ∧ ((B.get? b).isSome = true ∨ b ∈ frs X.stack) := fun b o e => by
    cases q : ((B.get? b).isSome || decide (b ∈ frs X.stack)) with
    | false => rw [g2 b q] at e; cases e
    | true =>
      rw [g1 b q] at e
      exact ⟨e, by simpa [Bool.or_eq_true] using q⟩
  have I1 : Inv X pins σ H' { s with heap := G, gens := s'.gens, drawn := s'.drawn, toks := s'.toks } := by
    refine I.call (ch := []) ⟨fun b o e n hb _ => gB b o (ub.keep b o e n hb), fun b o e n hb _ => ?_, fun b o e n _ => ub.free b o e n, fun b o e _ => ?_, ub.tups, ub.frzs, ub.tbls⟩ (hok.kept gB) ag (fun _ z => nomatch z)
    · obtain ⟨sl, q⟩ := ub.slot b o e hb
      exact ⟨sl, by rw [gF b hb]; exact q⟩
    · by_cases hb : b ∈ frs X.stack
      · obtain ⟨sl, q⟩ := ub.slot b o e hb
        exact ⟨_, by rw [gF b hb]; exact q⟩
      · obtain ⟨o', q⟩ := ub.there b o e hb
        exact ⟨o', gB b o' q⟩
  obtain ⟨G2, c1, c2⟩ := restrict G fun b => decide (b ≠ C)
  have hg2 : ∀ b o, G2.get? b = some o → b ≠ C ∧ G.get? b = some o := fun b o e => by
    by_cases z : b = C
    · rw [c2 b (by simp [z])] at e; cases e
    · exact ⟨z, (c1 b (by simp [z])) ▸ e⟩
  have I2 := I1.turned (t' := s'.toks) (it := C) (h' := G2) (fun b o hb e => (c1 b (by simp [hb])).trans e) HC fp1 fp3 fp4 fp5
  refine tk _ _ ⟨a, B2, _, pins, σ, H', cls, d, rfl, I2, fun b o e hb => ?_, fun b o e hnf => ?_, .inr (.inr ?_), na, os, ag, hW _ _ _ hE⟩
  · obtain ⟨z, e1⟩ := hg2 b o e
    obtain ⟨e2, h⟩ := og b o e1
    rcases h with h | h
    · obtain ⟨o', q⟩ := Option.isSome_iff_exists.mp h
      have y := st b o' q
      rw [e2] at y; cases y
      exact (b1 b (by simp [z])).trans q
    · exact absurd h hb
  · obtain ⟨z, e1⟩ := hg2 b o e
    obtain ⟨e2, _⟩ := og b o e1
    obtain ⟨sl, e3⟩ := up b o e2 hnf
    have e4 := (sb.2 b z).trans e3
    obtain ⟨sl2, e5⟩ := s4 b _ e4 hnf
    exact ⟨sl2, e5⟩
  · rw [hs]
    refine ⟨s1, ?_, s2, s3⟩
    exact nb2 a k2
end
end
end DL
/-! DL41: the walk of a comprehension whose element may raise. -/
namespace DL
noncomputable section
open PySem PySem.Spec PyProof.Rows L2
open Sem (wp)
/-! ### the walk of a comprehension whose element may raise -/
/-- the block's context, its errors going to xe -/
abbrev blkX (X : Cx) (s : Shared) (H : Hp) (scope : Scope) (ce : Env) (fp : List Addr) (xe : Value → Shared → Prop) : Cx := { X.blk s H scope ce fp with xe := xe }
section
variable {X : Cx} {s0 s : Shared} {H0 H : Hp} {scope : Scope} {ce : Env} {fp : List Addr} {xe : Value → Shared → Prop} {pins : List (Addr × Obj)} {σ : L2.St}
theorem inv_in (I : Inv (X.blk s0 H0 scope ce fp) pins σ H s) : Inv (blkX X s0 H0 scope ce fp xe) pins σ H s := Inv.unwish (X := blkX X s0 H0 scope ce fp xe) (E := fun _ _ => False) I
theorem inv_out (I : Inv (blkX X s0 H0 scope ce fp xe) pins σ H s) : Inv (X.blk s0 H0 scope ce fp) pins σ H s := I.wish fun _ _ => False
end
section
variable {X : Cx} {W : WX} {elt tg iter : Expr} {ifs : List Expr} {scope : Scope} {own : List (Str × Nat)} {wi : TI} {g : TG} {tt : TT} {te : XK → TE}
theorem lc_x {pins : List (Addr × Obj)} {s : Shared} {σ : L2.St} {H : Hp} {Q : VK} {pos pos' : Pos} {use : Option (Value → Sem Unit)} {Qf : Value → Shared → Prop}
    (hst : X.stack = X.env :: X.outer) (hfr : X.env.frame = some X.env.locals) (tk : Takes X W) (hc : X.calm = true) (hN : X.N.Nodup) (I : Inv X pins σ H s) (hi : PI X tg iter wi) (ok : BlkOk X.N X.env.scope scope own)
    (hg : ∀ (s : Shared) (H : Hp) (C : Addr) (cl : List (Str × Addr)) (fp : List Addr), PG (X.blk s H scope (compEnvC scope cl C X.env) fp) tg g) (ht : ∀ (s : Shared) (H : Hp) (C : Addr) (cl : List (Str × Addr)) (fp : List Addr), PTs (X.blk s H scope (compEnvC scope cl C X.env) fp) ifs tt)
    (he : ∀ (s : Shared) (H : Hp) (C : Addr) (cl : List (Str × Addr)) (fp : List Addr) (xe : Value → Shared → Prop) (E : XK), (∀ σ', PassesAt (L2.CX X.prog X.w) (blkX X s H scope (compEnvC scope cl C X.env) fp xe) σ' E) → PE (blkX X s H scope (compEnvC scope cl C X.env) fp xe) elt (te E)) (hs : ∀ x, foldedSetIterable iter X.env x = pure x)
    (h : tLc wi g tt (te fun cls d H' => W cls d σ H') (own.map (·.2)) σ H Q)
    (hRR : ∀ D C s' m H', Inv X pins σ H' s' → Q (.ref D) H' → s'.heap.Ns C m → FpOk X pins H' C → compPost (model X.prog X.w) X.A X.xe use Qf (.ref D) C (.ok .next) s') :
    wpAny (model X.prog X.w) X.A (comprehension (.ListComp elt [⟨tg, iter, ifs, 0⟩] scope pos) scope X.env pos' (newList []) false (eval iter X.env) use) Qf X.xe s := by
  have free : ∀ y ∈ scope.names, y.2 = .free → ∃ c, X.env.cells.lookup y.1 = some c := fun y hy e => (ok.free y hy e).elim (fun k => I.ok.has _ (.inl k)) fun k => I.ok.has _ (.inr k)
  refine compr_x (use := use) rfl hs (closure_ok free) ok.kind (fun y hy e => by rw [ok.uniq y hy, e]) (thn (hi.run pins s σ H _ I h) fun xv s1 hx => thn hx fun itv s2 h2 => ?_)
  obtain ⟨it, fp, tn, J, H2, e, I2, T, st2, f2, q⟩ := h2
  subst e
  refine wpAny_newObj_type (newEnv_comp ?_) (by show 0 ≤ sizeLine; decide)
  generalize hD : s2.heap.objs.size = D
  have hDn : H2 D = none := I2.hok.fresh (Nat.le_of_eq hD)
  obtain ⟨V, ⟨m0, w0⟩, turn⟩ := q D hDn
  generalize hs3 : ({ s2 with heap := s2.heap.push { cls := .type "list", data := .seq ([] : List Value).toArray } } : Shared) = s3
  have h3 : s3.heap = s2.heap.push { cls := .type "list", data := .seq ([] : List Value).toArray } := by rw [← hs3]
  have I3 : Inv X pins σ (upd H2 D (.lst [])) s3 := by
    subst hs3
    refine I2.laid (t' := s2.toks) (fun b o e => Heap.get?_push_of_some _ e) (Nat.le_of_eq hD) ⟨Nat.zero_le _, [], 0, .nil, ?_⟩
    rw [← hD]
    exact Heap.get?_push_size _ rfl
  have old : ∀ b ∈ fp, b < s2.heap.objs.size := fun b hb => let ⟨o, e, _⟩ := T.obj _ _ st2 b hb; Heap.lt_size e
  have f3 : ∀ b ∈ fp, FpOk X pins (upd H2 D (.lst [])) b ∧ b < s3.heap.objs.size := fun b hb =>
    ⟨⟨(upd_ne (by rw [← hD]; exact Nat.ne_of_lt (old b hb))).trans (f2 b hb).1, (f2 b hb).2⟩, by rw [h3, Heap.size_push]; exact Nat.lt_succ_of_lt (old b hb)⟩
  have st3 : tn 0 s3.heap := T.keep _ _ _ st2 fun b _ o e => by rw [h3]; exact Heap.get?_push_of_some _ e
  have I4 := block_start I3 ok hN f3
  generalize hcl : cellsFrom (s3.heap.objs.size + 1) scope.names (cloFrom X.env.cells scope.names []) = cl at I4 ⊢
  have pg := hg s3 (upd H2 D (.lst [])) s3.heap.objs.size cl fp
  have pt := ht s3 (upd H2 D (.lst [])) s3.heap.objs.size cl fp
  have pe := he s3 (upd H2 D (.lst [])) s3.heap.objs.size cl fp
  show codeAny _ _ (.compStart (.ListComp elt [⟨tg, iter, ifs, 0⟩] scope pos) 0 (.ref it) (.ref D) (compEnvC scope cl s3.heap.objs.size X.env)) (endX (model X.prog X.w) X.A X.xe use Qf (.ref D) s3.heap.objs.size X.env.frame) { s3 with heap := pushCells (s3.heap.push { cls := .type "dict", data := .dict #[] }) scope.names }
  have nfp : ∀ b ∈ fp, (upd H2 D (.lst [])) b = none := fun b hb => (f3 b hb).1.1
  generalize hce : compEnvC scope cl s3.heap.objs.size X.env = ce at I4 pg pt pe ⊢
  have cL : ce.locals = s3.heap.objs.size := by subst hce; rfl
  have cF : ce.frame = X.env.frame := by subst hce; rfl
  generalize hH3 : upd H2 D (.lst []) = H3 at I3 I4 pg pt pe w0 nfp f3
  generalize hs4 : ({ s3 with heap := pushCells (s3.heap.push { cls := .type "dict", data := .dict #[] }) scope.names } : Shared) = s4 at I4 ⊢
  have st4 : tn 0 s4.heap := T.keep _ _ _ st3 fun b _ o e => by rw [← hs4]; exact pushCells_keeps _ _ _ _ (Heap.get?_push_of_some _ e)
  -- back from the block
  have back : ∀ {pins' : List (Addr × Obj)} {σ' : L2.St} {H' : Hp} {s' : Shared}, Inv (X.blk s3 H3 scope ce fp) pins' σ' H' s' → Inv X pins σ H' s' ∧ FpOk X pins H' s3.heap.objs.size ∧ ∃ m, s'.heap.Ns s3.heap.objs.size m := fun {pins' σ' H' s'} I' => by
    have nC : H' s3.heap.objs.size = none := by
      have z : H' ce.locals = none := I'.free
      rwa [cL] at z
    obtain ⟨m, hn, _⟩ := I'.loc
    have hn : s'.heap.Ns ce.locals m := hn
    rw [cL] at hn
    exact ⟨I3.call' (ch := fp) I'.os I'.base I'.hok I'.bare fun b hb => ⟨(f3 b hb).1.2.2.2.1, (f3 b hb).1.2.1, (f3 b hb).1.2.2.2.2.1, (f3 b hb).1.2.2.2.2.2⟩, I3.fpOk (Nat.le_refl _) nC, m, hn⟩
  have stat : ∀ {σ' : L2.St} {H' : Hp} {s' : Shared}, Inv (X.blk s3 H3 scope ce fp) [] σ' H' s' → (∀ b ∈ fp, H' b = none) → ∀ b ∈ fp, FpOk (X.blk s3 H3 scope ce fp) [] H' b := fun {σ' H' s'} I' hn b hb =>
    ⟨hn b hb, (I'.ok.exf b hb).1, I'.ok.exfs b hb, .inl hb, fun x c e => (I'.ok.exf b hb).2 x c e, fun p hp => absurd (show p ∈ ([] : List (Addr × Obj)) ++ [] from hp) (by simp)⟩
  have pass : ∀ σ', PassesAt (L2.CX X.prog X.w) (blkX X s3 H3 scope ce fp (notedBy (model X.prog X.w) X.A ce fun e s' => endX (model X.prog X.w) X.A X.xe use Qf (.ref D) s3.heap.objs.size X.env.frame (.error e) s')) σ' (fun cls d H' => W cls d σ H') := fun σ' pins' H' s5 e s6 I' c => by
    obtain ⟨I5, f5, m, hn⟩ := back (inv_out I')
    rw [← cF]
    exact blk_err hst hfr tk (fun _ _ _ h => h) I5 f5 hn cF c
  have peX := pe _ _ pass
  have loop : codeAny (model X.prog X.w) X.A (.compLoop (.ListComp elt [⟨tg, iter, ifs, 0⟩] scope pos) 0 (.ref it) (.ref D) ce) (endX (model X.prog X.w) X.A X.xe use Qf (.ref D) s3.heap.objs.size X.env.frame) s4 := by
    refine compLoop_any (fun n s' => ∃ i H', Inv (X.blk s3 H3 scope ce fp) [] (wipe σ (own.map (·.2))) H' s' ∧ tn i s'.heap ∧ (∀ b ∈ fp, H' b = none) ∧ V i n H') ?_ m0 ⟨0, H3, I4, st4, nfp, w0⟩
    rintro n s5 ⟨i, H5, I5, st5, n5, w5⟩
    rcases turn i n H5 w5 with ⟨stop, qq⟩ | ⟨go, Nx, hNx, step⟩
    · refine thnF (T.done (X.blk s3 H3 scope ce fp) rfl rfl rfl hc i [] s5 _ H5 (fun _ _ => False) I5 (stat I5 n5) st5 stop) fun r s6 ⟨hr, I6⟩ => ?_
      subst hr
      obtain ⟨I7, f7, m, hn⟩ := back I6
      exact hRR D s3.heap.objs.size s6 m H5 I7 qq hn f7
    · refine thnF (T.item (X.blk s3 H3 scope ce fp) rfl rfl rfl hc i [] s5 _ H5 (fun _ _ => False) I5 (stat I5 n5) st5 go) fun r s6 ⟨u, hr, h6⟩ => ?_
      subst hr
      refine thnF h6 fun _ s7 ⟨x, H7, I7, r7, y7, st7, n7⟩ => ?_
      refine thnF (pg.run _ s7 _ H7 x u _ (I7.pinned (stat I7 n7) (T.obj _ _ st7)) r7 (step x H7 y7)) fun _ s8 ⟨σ8, H8, I8, hw8, q8⟩ => ?_
      refine thnF (pt.run _ s8 σ8 H8 _ I8 q8) fun b s9 ⟨H9, I9, q9⟩ => ?_
      have fin : ∀ {s' : Shared} {H' : Hp}, Inv (X.blk s3 H3 scope ce fp) ([] ++ pinsAt fp s7.heap) σ8 H' s' → Nx H' → ∃ m, m < n ∧ ∃ i H', Inv (X.blk s3 H3 scope ce fp) [] (wipe σ (own.map (·.2))) H' s' ∧ tn i s'.heap ∧ (∀ b ∈ fp, H' b = none) ∧ V i m H' := fun {s' H'} I' nx => by
        obtain ⟨m', hm, w'⟩ := hNx H' nx
        have pin' : ∀ b ∈ fp, ∀ o, s7.heap.get? b = some o → s'.heap.get? b = some o ∧ H' b = none := fun b hb o e =>
          let z := I'.pin (b, o) (List.mem_append_right _ (List.mem_append_right _ (mem_pinsAt hb e)))
          ⟨z.1, z.2.1⟩
        refine ⟨m', hm, i + 1, H', (I'.unpinned (pins := [])).weak (by rw [← hw8, wipe_length]) (fun j v e => ?_), T.keep _ _ _ st7 fun b hb o e => (pin' b hb o e).1, fun b hb => ?_, w'⟩
        · rw [← hw8] at e
          exact (wipe_some e).1
        · obtain ⟨o, e, _⟩ := T.obj _ _ st7 b hb
          exact (pin' b hb o e).2
      cases b with
      | false =>
        simp only [Bool.false_eq_true, if_false] at q9 ⊢
        exact fin I9 q9
      | true =>
        simp only [if_true] at q9 ⊢
        refine wpAny_mono (peX.run _ s9 σ8 H9 _ (inv_in I9) q9) (fun z s10 ⟨yv, H10, I10, r10, acc, hD10, hz10, nx⟩ => ?_) fun _ _ z => z
        exact app_ok (X := X.blk s3 H3 scope ce fp) (inv_out I10) hD10 hz10 r10 fun s11 I11 => fin I11 nx
  exact codeAny_compStart_list loop (T.self X.A 0 _ _ _ st4 loop)
end
end
end DL
/-! DL42: comprehensions whose element may raise, over data. -/
namespace DL
noncomputable section
open PySem PySem.Spec PyProof.Rows L2
def lcMX (f : PyData → Out (Option PyData)) : List PyData → Out (List PyData)
  | [] => .ok []
  | d :: r => f d >>= fun o => lcMX f r >>= fun t => .ok (oCons o t)
def stpX (g : MG) (mt : MB) (me : MD) (ρ : Ro) (d : PyData) : Out (Option PyData) := match g d ρ with
  | some ρ1 => noEx (mt ρ1) >>= fun t => if t then me ρ1 >>= fun y => .ok (some y) else .ok none
  | none => .no
def lcX (mi : ML) (g : MG) (mt : MB) (me : MD) (vs : List Nat) : ML := fun ρ => mi ρ >>= fun ds => if ds.length ≤ sizeLine then lcMX (stpX g mt me (wipeR ρ vs)) ds else .no
section
variable {X : Cx} {W : WX} {elt tg iter : Expr} {ifs : List Expr} {mi : ML} {g : MG} {mt : MB} {me : MD} {ix : List Nat} {scope : Scope} {own : List (Str × Nat)} {pos : Pos}
theorem lcx_reading {vs : List Nat} (hix : ∀ j ∈ ix, j ∈ vs) {σ : L2.St} {H : Hp} {Q : VK} (h : tF X.K X.mg W (lcX mi g mt me vs) σ H Q) : tLc (tI X.K X.mg W mi) (tG X.K g ix) (tT X.K X.mg W0 mt) (tD X.K X.mg (wE fun cls d H' => W cls d σ H') me) vs σ H Q := by
  obtain ⟨H0, G0, G, ρ, r, h⟩ := h
  refine ⟨H0, G0, G, ρ, r, (PostO.bind h).mono fun ds G1 H1 _ x1 h1 J hJ D hD => ?_⟩
  have hz : ds.length ≤ sizeLine := by
    by_cases hz : ds.length ≤ sizeLine
    · exact hz
    · rw [if_neg hz] at h1; exact h1.elim
  rw [if_pos hz] at h1
  have r1 := r.step x1
  have g1D : G1 D = none := x1.gh.free hD
  have h0 : PostO X.mg W σ G1 H1 (rF X.K H Q) (lcMX (stpX g mt me (wipeR ρ vs)) (ds.drop 0) >>= fun t => .ok ([] ++ t)) := by
    rw [List.drop_zero]
    have : (lcMX (stpX g mt me (wipeR ρ vs)) ds >>= fun t => Out.ok ([] ++ t)) = lcMX (stpX g mt me (wipeR ρ vs)) ds := by
      cases lcMX (stpX g mt me (wipeR ρ vs)) ds <;> rfl
    rw [this]
    exact h1
  refine ⟨fun i m H2 => ∃ G2 acc accd, i ≤ ds.length ∧ m = ds.length - i ∧ Ext G1 H1 G2 H2 ∧ H2 D = some (.lst acc) ∧ G2 D = none ∧ DqAll X.K G2 acc accd ∧ accd.length ≤ i ∧ PostO X.mg W σ G1 H1 (rF X.K H Q) (lcMX (stpX g mt me (wipeR ρ vs)) (ds.drop i) >>= fun t => .ok (accd ++ t)),
    ⟨ds.length, G1, [], [], Nat.zero_le _, rfl, Ext.hid x1.gh hD, upd_same, g1D, .nil, Nat.le_refl _, h0⟩, ?_⟩
  rintro i m H2 ⟨G2, acc, accd, hi, rfl, x2, h2D, g2D, hacc, hlen, hP⟩
  by_cases hlt : i < ds.length
  · refine .inr ⟨hJ.go i H2 (x2.g.trans x2.gh) hlt, fun H' => ∃ G2 acc accd, i + 1 ≤ ds.length ∧ Ext G1 H1 G2 H' ∧ H' D = some (.lst acc) ∧ G2 D = none ∧ DqAll X.K G2 acc accd ∧ accd.length ≤ i + 1 ∧ PostO X.mg W σ G1 H1 (rF X.K H Q) (lcMX (stpX g mt me (wipeR ρ vs)) (ds.drop (i + 1)) >>= fun t => .ok (accd ++ t)),
      fun H' ⟨G3, a3, b3, k1, k2, k3⟩ => ⟨ds.length - (i + 1), by omega, G3, a3, b3, k1, rfl, k2, k3⟩, fun x H' y => ?_⟩
    obtain ⟨d, G3, hd, x3, dx⟩ := hJ.yld i H2 x H' G2 x2.g x2.gh y hlt
    have ed : ds.drop i = d :: ds.drop (i + 1) := by
      rw [List.getElem?_eq_getElem hlt] at hd
      cases hd
      exact List.drop_eq_getElem_cons hlt
    rw [ed] at hP
    have rr := ((r1.step x2).step x3)
    have eP : (lcMX (stpX g mt me (wipeR ρ vs)) (d :: ds.drop (i + 1)) >>= fun t => Out.ok (accd ++ t)) = stpX g mt me (wipeR ρ vs) d >>= fun o => lcMX (stpX g mt me (wipeR ρ vs)) (ds.drop (i + 1)) >>= fun t => .ok (accd ++ oCons o t) := by
      show ((stpX g mt me (wipeR ρ vs) d >>= fun o => lcMX (stpX g mt me (wipeR ρ vs)) (ds.drop (i + 1)) >>= fun t => .ok (oCons o t)) >>= fun t => Out.ok (accd ++ t)) = _
      cases stpX g mt me (wipeR ρ vs) d with
      | no => rfl
      | ex c => rfl
      | ok o =>
        show ((lcMX (stpX g mt me (wipeR ρ vs)) (ds.drop (i + 1)) >>= fun t => .ok (oCons o t)) >>= fun t => Out.ok (accd ++ t)) = _
        cases lcMX (stpX g mt me (wipeR ρ vs)) (ds.drop (i + 1)) <;> rfl
    rw [eP] at hP
    cases qg : g d (wipeR ρ vs) with
    | none => unfold stpX at hP; rw [qg] at hP; exact hP.elim
    | some ρ1 =>
    cases qt : mt ρ1 with
    | no => unfold stpX at hP; rw [qg] at hP; dsimp only at hP; rw [qt] at hP; exact hP.elim
    | ex c => unfold stpX at hP; rw [qg] at hP; dsimp only at hP; rw [qt] at hP; exact hP.elim
    | ok t =>
    refine ⟨H0, G0, G3, wipeR ρ vs, d, ρ1, wipe_rel rr vs, dx, qg, fun σ2 r2 b2 => ⟨(wipe_but b2 hix).trans (wipe_wipe σ vs), H0, G0, G3, ρ1, r2, ?_⟩⟩
    have g3D : G3 D = none := x3.fr D g2D (by rw [h2D]; simp)
    have h3D : H' D = some (.lst acc) := x3.h _ _ h2D
    rw [qt]
    intro G4 H4 x4
    have g4D : G4 D = none := x4.fr D g3D (by rw [h3D]; simp)
    have h4D : H4 D = some (.lst acc) := x4.h _ _ h3D
    cases t with
    | false =>
      have e1 : stpX g mt me (wipeR ρ vs) d = .ok none := by
        unfold stpX; rw [qg]; dsimp only; rw [qt]; rfl
      rw [e1] at hP
      simp only [rB, Bool.false_eq_true, if_false]
      exact ⟨G4, acc, accd, hlt, (x2.trans x3).trans x4, h4D, g4D, dpAll_mono (x3.g.trans x4.g) hacc, by omega, hP⟩
    | true =>
      have e1 : stpX g mt me (wipeR ρ vs) d = (me ρ1 >>= fun y => .ok (some y)) := by
        unfold stpX; rw [qg]; dsimp only; rw [qt]; rfl
      rw [e1] at hP
      simp only [rB, if_true]
      refine ⟨H0, G0, G4, ρ1, r2.step x4, ?_⟩
      cases qm : me ρ1 with
      | no => rw [qm] at hP; exact hP.elim
      | ex c =>
        rw [qm] at hP
        exact fun C G' H'' e x5 => hP C G' H'' e (((x2.trans x3).trans x4).trans x5)
      | ok y1 =>
        rw [qm] at hP
        intro G5 H5 x5 v hv
        have g5D : G5 D = none := x5.fr D g4D (by rw [h4D]; simp)
        have h5D : H5 D = some (.lst acc) := x5.h _ _ h4D
        refine ⟨acc, h5D, ?_, G5, acc ++ [v], accd ++ [y1], hlt, ?_, upd_same, g5D, dpAll_append (dpAll_mono ((x3.g.trans x4.g).trans x5.g) hacc) (.cons hv .nil), ?_, ?_⟩
        · rw [dpAll_len hacc]; omega
        · have x6 := ((x2.trans x3).trans x4).trans x5
          refine ⟨x6.g, fun b o e => ?_, fun b o e => ?_, x6.fr⟩
          · rw [upd_ne (ne_of_none e hD)]; exact x6.h b o e
          · rw [upd_ne (ne_of_none e g5D)]; exact x6.gh b o e
        · rw [List.length_append]; simp; omega
        · have e2 : (fun t => (Out.ok (accd ++ [y1] ++ t) : Out (List PyData))) = fun t => .ok (accd ++ oCons (some y1) t) := by
            funext t
            simp [oCons]
          rw [e2]
          exact hP
  · have e : i = ds.length := by omega
    subst e
    refine .inl ⟨hJ.stop _ H2 (x2.g.trans x2.gh) (Nat.le_refl _), ?_⟩
    rw [List.drop_length] at hP
    have hP2 : PostO X.mg W σ G1 H1 (rF X.K H Q) (.ok accd) := by
      have e3 : (lcMX (stpX g mt me (wipeR ρ vs)) [] >>= fun t => Out.ok (accd ++ t)) = .ok accd := by
        show Out.ok (accd ++ []) = _
        rw [List.append_nil]
      rwa [e3] at hP
    exact hP2 G2 H2 x2 D acc (x1.h.free hD) g2D h2D hacc
abbrev BY (X : Cx) (scope : Scope) (s : Shared) (H : Hp) (C : Addr) (cl : List (Str × Addr)) (fp : List Addr) (xe : Value → Shared → Prop) : Cx := blkX X s H scope (compEnvC scope cl C X.env) fp xe
theorem df_lcX (hN : X.N.Nodup) (tk : Takes X W) (hi : DI X W tg iter mi) (ok : blkC X.N X.env.scope scope own = true)
    (hg : ∀ s H C cl fp, DG (BX X scope s H C cl fp) tg g ix) (ht : ∀ s H C cl fp, PTs (BX X scope s H C cl fp) ifs (tT X.K X.mg W0 mt))
    (he : ∀ s H C cl fp xe (E : XK), (∀ σ', PassesAt (L2.CX X.prog X.w) (BY X scope s H C cl fp xe) σ' E) → DE (BY X scope s H C cl fp xe) (wE E) elt me) (hst : X.stack = X.env :: X.outer := by rfl) (hfr : X.env.frame = some X.env.locals := by rfl) (hix : ∀ j ∈ ix, j ∈ own.map (·.2) := by decide) (hs : ∀ x, foldedSetIterable iter X.env x = pure x := by intro _; rfl) (hc : X.calm = true := by rfl) :
    DF X W (.ListComp elt [⟨tg, iter, ifs, 0⟩] scope pos) (lcX mi g mt me (own.map (·.2))) := by
  refine ⟨fun pins s σ H Q I h => ?_⟩
  rw [eval_ListComp]
  refine lc_x (g := tG X.K g ix) (tt := tT X.K X.mg W0 mt) (te := fun E => tD X.K X.mg (wE E) me) hst hfr tk hc hN I hi (blkOk_by ok) hg ht (fun s H C cl fp xe E hx => he s H C cl fp xe E hx) hs (lcx_reading hix h) fun D C s' m H' I' q hn f => ⟨m, hn, fun h'' sb => ?_⟩
  obtain ⟨f0, f1, f2, f3, f4, f5⟩ := f
  exact ⟨.ref D, H', I'.turned (t' := s'.toks) (fun b o hb e => (sb.2 b hb).trans e) f0 f1 f3 f4 f5, rfl, q⟩
theorem ds_setLcX {y : Str} {py spos : Pos} (i : Nat) (hN : X.N.Nodup) (tk : Takes X W) (hi : DI X W tg iter mi) (ok : blkC X.N X.env.scope scope own = true)
    (hg : ∀ s H C cl fp, DG (BX X scope s H C cl fp) tg g ix) (ht : ∀ s H C cl fp, PTs (BX X scope s H C cl fp) ifs (tT X.K X.mg W0 mt))
    (he : ∀ s H C cl fp xe (E : XK), (∀ σ', PassesAt (L2.CX X.prog X.w) (BY X scope s H C cl fp xe) σ' E) → DE (BY X scope s H C cl fp xe) (wE E) elt me) (hsw : swapsWith (.ListComp elt [⟨tg, iter, ifs, 0⟩] scope pos) (some (.Name y py)) spos.line X.env = pure true)
    (hst : X.stack = X.env :: X.outer := by rfl) (hfr : X.env.frame = some X.env.locals := by rfl) (hix : ∀ j ∈ ix, j ∈ own.map (·.2) := by decide) (hy : X.N[i]? = some y := by rfl) (hyl : X.env.scope.names.lookup y = some .local := by rfl) (hs : ∀ x, foldedSetIterable iter X.env x = pure x := by intro _; rfl) (hc : X.calm = true := by rfl) :
    DS X W (.Assign [.Name y py] (.ListComp elt [⟨tg, iter, ifs, 0⟩] scope pos) spos) (setFS i (lcX mi g mt me (own.map (·.2)))) := by
  refine ⟨fun pins s σ H D I h => ?_⟩
  obtain ⟨H0, G0, G, ρ, r, h⟩ := h
  have h' : tF X.K X.mg W (lcX mi g mt me (own.map (·.2))) σ H (fun x H1 => gName i x σ H1 D.nx) :=
    ⟨H0, G0, G, ρ, r, thenF_post r h fun ds G1 H1 _ x1 h1 p vs hn hg hp hv => h1 _ G1 H1 (.refl _) ((r.step x1).setOwn (b := .lst ds) hp hv hg (r.ext.h.free hn) (r.fresh_ne hn))⟩
  rw [exec_Assign_Name_used _ _ _ _ hsw]
  refine wpAny_bind (wpAny_standAt (wpAny_bind ?_))
  show wpAny _ X.A (do let _ ← comprehension (.ListComp elt [⟨tg, iter, ifs, 0⟩] scope pos) scope X.env (firstIterPos [⟨tg, iter, ifs, 0⟩] pos) (newList []) false (eval iter X.env) (some (assign (.Name y py) X.env))) _ _ s
  refine wpAny_bind (thn (lc_x (Qf := fun _ s' => SP X pins D .next s') (g := tG X.K g ix) (tt := tT X.K X.mg W0 mt) (te := fun E => tD X.K X.mg (wE E) me) hst hfr tk hc hN I hi (blkOk_by ok) hg ht (fun s H C cl fp xe E hx => he s H C cl fp xe E hx) hs (lcx_reading hix h') fun L C s' m H' I' q hn f => ?_) fun _ s' hq => wpAny_pure (wpAny_pure hq))
  show wpAny _ _ (assign (.Name y py) X.env (.ref L)) _ _ _
  refine wpAny_assign_Name (store_ok2 (v := V.ref L) I' hN hy (.inl hyl) rfl (fun s2 I2 ⟨a, sb, ha⟩ => ?_) (.inr hyl))
  obtain ⟨f0, f1, f2, f3, f4, f5⟩ := f
  have haC : C ≠ a := ha.elim (fun z => by rw [z]; exact f1) fun z e => f4 y a z e.symm
  exact ⟨m, hn.sameBut sb haC, fun h3 sb3 => ⟨_, H', I2.turned (t' := s2.toks) (fun b o hb e => (sb3.2 b hb).trans e) f0 f1 f3 f4 f5, q⟩⟩
end
section
variable {X : Cx} {E : XK} {e : Expr} {es : List Expr} {ml : ML} {pos p : Pos} {x : Str} {k : Nat} {ps : List Str} {F : FD}
/-- a call in a block whose errors may leave -/
theorem de_callP (C : Cal X.prog X.w X.K X.mg X.base k x ps (spD X.K X.mg F)) (hr : Room k X.A) (hx : ∀ σ', PassesAt (L2.CX X.prog X.w) X σ' E) (ha : DA X (wE E) (e :: es) ml) (hg : Gl X x := by rfl) (hdb : (x == ("__debug__" : Str)) = false := by decide)
    (he : starEach (e :: es) X.env = (false, eval e X.env) :: starEach es X.env := by rfl) (hpl : (backTo pos (starEach es X.env)).any (·.1) = false := by rfl) : DE X (wE E) (.Call (.Name x p) (e :: es) [] pos) (cD F ml) := by
  obtain ⟨f, fd, hm, hk, hb, hF⟩ := C.ex
  refine pe_imp (pe_callS (E := fun _ => E) hF hr hg hm hk hb hx ha hdb he hpl) fun σ H Q ⟨H0, G0, G, ρ, r, h⟩ => ?_
  refine ⟨H0, G0, G, ρ, r, (PostO.bind h).mono fun ds G1 H1 _ x1 h1 vs hv => ⟨G1, ds, x1.gh, hv, ?_⟩⟩
  cases q : F ds with
  | no => rw [q] at h1; exact h1
  | ex c => rw [q] at h1; exact h1
  | ok d => rw [q] at h1; exact h1
end
end
end DL
/-! DL43: not e as a value, for any e of a plain truth. -/
namespace DL
noncomputable section
open PySem PySem.Spec PyProof.Rows L2 L2H
def notT (ma : MD) : MD := fun ρ => ma ρ >>= fun d => truD d >>= fun t => .ok (.bool (!t))
@[simp] theorem notT_eq (ma : MD) (ρ : Ro) : notT ma ρ = (ma ρ >>= fun d => truD d >>= fun t => .ok (.bool (!t))) := rfl
section
variable {X : Cx} {W : WX} {a : Expr} {ma : MD} {pos : Pos}
theorem truD_ex {d : PyData} {c : Str} (h : truD d = .ex c) : False := by
  unfold truD at h
  split at h <;> first | cases h | (split at h <;> cases h)
theorem de_notT (ha : DE X W a ma) : DE X W (.UnaryOp .Not a pos) (notT ma) := by
  refine pe_imp (pe_notT ha) fun σ H Q ⟨H0, G0, G, ρ, r, h⟩ => ⟨H0, G0, G, ρ, r, (PostO.bind h).mono fun d G1 H1 _ x1 h1 v hv => ?_⟩
  cases ht : truD d with
  | no => rw [ht] at h1; exact h1.elim
  | ex c => exact (truD_ex ht).elim
  | ok t =>
    rw [ht] at h1
    have fin : Q (.bl (!t)) H1 := (show PostO X.mg W σ G1 H1 (rD X.K Q) (.ok (.bool (!t))) from h1).now x1.gh _ (.bl _)
    unfold truD at ht
    split at ht
    · cases ht; obtain rfl := dp_none hv; exact ⟨_, rfl, fin⟩
    · cases ht; obtain rfl := dp_bool hv; exact ⟨_, rfl, fin⟩
    · cases ht; obtain rfl := dp_int hv; exact ⟨_, rfl, fin⟩
    · split at ht
      · rename_i hc
        cases ht
        obtain rfl := dp_str hv; exact ⟨_, ⟨hc, rfl⟩, fin⟩
      · cases ht
    · cases ht
      obtain ⟨a1, v1, rfl, r1, d1⟩ := dp_list hv
      exact ⟨_, .inl ⟨v1, .inl (rd_mono x1.gh r1), isEmpty_dq d1⟩, fin⟩
    · cases ht
      obtain ⟨a1, v1, rfl, r1, d1⟩ := dp_tuple hv
      exact ⟨_, .inr (.inl ⟨v1, Same.seqT x1.gh r1, isEmpty_dq d1⟩), fin⟩
    · cases ht
end
end
end DL
/-! DL44: a tactic that evaluates a mirror's straight lines. -/
namespace DL
noncomputable section
open PySem PySem.Spec PyProof.Rows L2
theorem modD_pos {i j : Int} (h : 0 < j) : modD (.int i) (.int j) = .ok (.int (i % j)) := by rw [modD_int, if_pos h]
theorem mulD_ok {i j : Int} (h : mulOk i j) : mulD (.int i) (.int j) = .ok (.int (i * j)) := by rw [mulD_int, if_pos h]
theorem fdivD_ok {i j : Int} (h : divOk j) : fdivD (.int i) (.int j) = .ok (.int (i / j)) := by rw [fdivD_int, if_pos h]
end
end DL
/-! the mirrors and walks of spotincommon_k72_fractions_fields_and_la, printed by gen.py -/
namespace Lw
noncomputable section
open PySem PySem.Spec PyProof.Rows L2 DL
def tp (i : Nat) : Stmt := PySem.Challenge.pw_spotincommon_k72_fractions_fields_and_la.main.body.getD i (.Pass ⟨0, 0, 0, 0⟩)
abbrev s_is_whole : Stmt := tp 7
abbrev N_is_whole : List Str := ["value"]
abbrev P_is_whole : List Str := ["value"]
theorem sc_is_whole : FnScope N_is_whole P_is_whole (defScope s_is_whole) := ⟨rfl, rfl, rfl, by decide +kernel, rfl, by decide +kernel, by decide +kernel⟩
abbrev s_is_fraction : Stmt := tp 8
abbrev N_is_fraction : List Str := ["value"]
abbrev P_is_fraction : List Str := ["value"]
theorem sc_is_fraction : FnScope N_is_fraction P_is_fraction (defScope s_is_fraction) := ⟨rfl, rfl, rfl, by decide +kernel, rfl, by decide +kernel, by decide +kernel⟩
abbrev s_is_stone : Stmt := tp 12
abbrev N_is_stone : List Str := ["stone", "number"]
abbrev P_is_stone : List Str := ["stone"]
theorem sc_is_stone : FnScope N_is_stone P_is_stone (defScope s_is_stone) := ⟨rfl, rfl, rfl, by decide +kernel, rfl, by decide +kernel, by decide +kernel⟩
abbrev s_check_field : Stmt := tp 13
abbrev N_check_field : List Str := ["field", "stone"]
abbrev P_check_field : List Str := ["field"]
theorem sc_check_field : FnScope N_check_field P_check_field (defScope s_check_field) := ⟨rfl, rfl, rfl, by decide +kernel, rfl, by decide +kernel, by decide +kernel⟩
abbrev s_demand : Stmt := tp 18
abbrev N_demand : List Str := ["good"]
abbrev P_demand : List Str := ["good"]
theorem sc_demand : FnScope N_demand P_demand (defScope s_demand) := ⟨rfl, rfl, rfl, by decide +kernel, rfl, by decide +kernel, by decide +kernel⟩
abbrev s_number_in : Stmt := tp 19
abbrev N_number_in : List Str := ["word", "digits", "sign"]
abbrev P_number_in : List Str := ["word"]
theorem sc_number_in : FnScope N_number_in P_number_in (defScope s_number_in) := ⟨rfl, rfl, rfl, by decide +kernel, rfl, by decide +kernel, by decide +kernel⟩
abbrev s_write_fraction : Stmt := tp 20
abbrev N_write_fraction : List Str := ["value", "top", "bottom"]
abbrev P_write_fraction : List Str := ["value"]
theorem sc_write_fraction : FnScope N_write_fraction P_write_fraction (defScope s_write_fraction) := ⟨rfl, rfl, rfl, by decide +kernel, rfl, by decide +kernel, by decide +kernel⟩
abbrev s_read_fraction : Stmt := tp 21
abbrev N_read_fraction : List Str := ["string", "parts", "numbers", "part"]
abbrev P_read_fraction : List Str := ["string"]
theorem sc_read_fraction : FnScope N_read_fraction P_read_fraction (defScope s_read_fraction) := ⟨rfl, rfl, rfl, by decide +kernel, rfl, by decide +kernel, by decide +kernel⟩
abbrev s_line_of : Stmt := tp 22
abbrev N_line_of : List Str := ["word", "items", "item"]
abbrev P_line_of : List Str := ["word", "items"]
theorem sc_line_of : FnScope N_line_of P_line_of (defScope s_line_of) := ⟨rfl, rfl, rfl, by decide +kernel, rfl, by decide +kernel, by decide +kernel⟩
abbrev s_lines_of : Stmt := tp 23
abbrev N_lines_of : List Str := ["string", "lines"]
abbrev P_lines_of : List Str := ["string"]
theorem sc_lines_of : FnScope N_lines_of P_lines_of (defScope s_lines_of) := ⟨rfl, rfl, rfl, by decide +kernel, rfl, by decide +kernel, by decide +kernel⟩
abbrev s_items_in : Stmt := tp 24
abbrev N_items_in : List Str := ["line", "word", "words"]
abbrev P_items_in : List Str := ["line", "word"]
theorem sc_items_in : FnScope N_items_in P_items_in (defScope s_items_in) := ⟨rfl, rfl, rfl, by decide +kernel, rfl, by decide +kernel, by decide +kernel⟩
abbrev s_numbers_in : Stmt := tp 25
abbrev N_numbers_in : List Str := ["line", "word", "count", "numbers", "item"]
abbrev P_numbers_in : List Str := ["line", "word", "count"]
theorem sc_numbers_in : FnScope N_numbers_in P_numbers_in (defScope s_numbers_in) := ⟨rfl, rfl, rfl, by decide +kernel, rfl, by decide +kernel, by decide +kernel⟩
abbrev s_write_field : Stmt := tp 26
abbrev N_write_field : List Str := ["field", "stone"]
abbrev P_write_field : List Str := ["field"]
theorem sc_write_field : FnScope N_write_field P_write_field (defScope s_write_field) := ⟨rfl, rfl, rfl, by decide +kernel, rfl, by decide +kernel, by decide +kernel⟩
abbrev s_write_land : Stmt := tp 27
abbrev N_write_land : List Str := ["land", "field"]
abbrev P_write_land : List Str := ["land"]
theorem sc_write_land : FnScope N_write_land P_write_land (defScope s_write_land) := ⟨rfl, rfl, rfl, by decide +kernel, rfl, by decide +kernel, by decide +kernel⟩
abbrev s_field_in : Stmt := tp 28
abbrev N_field_in : List Str := ["lines", "count", "field", "line"]
abbrev P_field_in : List Str := ["lines"]
theorem sc_field_in : FnScope N_field_in P_field_in (defScope s_field_in) := ⟨rfl, rfl, rfl, by decide +kernel, rfl, by decide +kernel, by decide +kernel⟩
abbrev s_read_field : Stmt := tp 29
abbrev N_read_field : List Str := ["string", "field", "rest"]
abbrev P_read_field : List Str := ["string"]
theorem sc_read_field : FnScope N_read_field P_read_field (defScope s_read_field) := ⟨rfl, rfl, rfl, by decide +kernel, rfl, by decide +kernel, by decide +kernel⟩
abbrev s_read_land : Stmt := tp 30
abbrev N_read_land : List Str := ["string", "lines", "count", "rest", "land", "_", "field"]
abbrev P_read_land : List Str := ["string"]
theorem sc_read_land : FnScope N_read_land P_read_land (defScope s_read_land) := ⟨rfl, rfl, rfl, by decide +kernel, rfl, by decide +kernel, by decide +kernel⟩
abbrev s__law_cell : Stmt := tp 32
abbrev N__law_cell : List Str := ["script", "k"]
abbrev P__law_cell : List Str := ["script", "k"]
theorem sc__law_cell : FnScope N__law_cell P__law_cell (defScope s__law_cell) := ⟨rfl, rfl, rfl, by decide +kernel, rfl, by decide +kernel, by decide +kernel⟩
abbrev s__law_numbers : Stmt := tp 33
abbrev N__law_numbers : List Str := ["cell", "count", "limit", "found", "k", "mixed"]
abbrev P__law_numbers : List Str := ["cell", "count", "limit"]
theorem sc__law_numbers : FnScope N__law_numbers P__law_numbers (defScope s__law_numbers) := ⟨rfl, rfl, rfl, by decide +kernel, rfl, by decide +kernel, by decide +kernel⟩
abbrev s__law_common : Stmt := tp 34
abbrev N__law_common : List Str := ["one", "other", "step"]
abbrev P__law_common : List Str := ["one", "other"]
theorem sc__law_common : FnScope N__law_common P__law_common (defScope s__law_common) := ⟨rfl, rfl, rfl, by decide +kernel, rfl, by decide +kernel, by decide +kernel⟩
abbrev s__law_frac : Stmt := tp 35
abbrev N__law_frac : List Str := ["top", "bottom", "common"]
abbrev P__law_frac : List Str := ["top", "bottom"]
theorem sc__law_frac : FnScope N__law_frac P__law_frac (defScope s__law_frac) := ⟨rfl, rfl, rfl, by decide +kernel, rfl, by decide +kernel, by decide +kernel⟩
abbrev s__law_field : Stmt := tp 36
abbrev N__law_field : List Str := ["script", "at", "most", "draws", "wide", "x", "y", "found", "k", "stone"]
abbrev P__law_field : List Str := ["script", "at", "most"]
theorem sc__law_field : FnScope N__law_field P__law_field (defScope s__law_field) := ⟨rfl, rfl, rfl, by decide +kernel, rfl, by decide +kernel, by decide +kernel⟩
abbrev s__law_same : Stmt := tp 37
abbrev N__law_same : List Str := ["told", "due", "k"]
abbrev P__law_same : List Str := ["told", "due"]
theorem sc__law_same : FnScope N__law_same P__law_same (defScope s__law_same) := ⟨rfl, rfl, rfl, by decide +kernel, rfl, by decide +kernel, by decide +kernel⟩
abbrev s__law_number : Stmt := tp 38
abbrev N__law_number : List Str := ["word", "digits", "sign"]
abbrev P__law_number : List Str := ["word"]
theorem sc__law_number : FnScope N__law_number P__law_number (defScope s__law_number) := ⟨rfl, rfl, rfl, by decide +kernel, rfl, by decide +kernel, by decide +kernel⟩
abbrev s__law_fraction_in : Stmt := tp 39
abbrev N__law_fraction_in : List Str := ["word", "parts", "part"]
abbrev P__law_fraction_in : List Str := ["word"]
theorem sc__law_fraction_in : FnScope N__law_fraction_in P__law_fraction_in (defScope s__law_fraction_in) := ⟨rfl, rfl, rfl, by decide +kernel, rfl, by decide +kernel, by decide +kernel⟩
abbrev s__law_fraction_text : Stmt := tp 40
abbrev N__law_fraction_text : List Str := ["value"]
abbrev P__law_fraction_text : List Str := ["value"]
theorem sc__law_fraction_text : FnScope N__law_fraction_text P__law_fraction_text (defScope s__law_fraction_text) := ⟨rfl, rfl, rfl, by decide +kernel, rfl, by decide +kernel, by decide +kernel⟩
abbrev s__law_lines_in : Stmt := tp 41
abbrev N__law_lines_in : List Str := ["text"]
abbrev P__law_lines_in : List Str := ["text"]
theorem sc__law_lines_in : FnScope N__law_lines_in P__law_lines_in (defScope s__law_lines_in) := ⟨rfl, rfl, rfl, by decide +kernel, rfl, by decide +kernel, by decide +kernel⟩
abbrev s__law_numbers_in : Stmt := tp 42
abbrev N__law_numbers_in : List Str := ["line", "word", "words", "found", "other"]
abbrev P__law_numbers_in : List Str := ["line", "word"]
theorem sc__law_numbers_in : FnScope N__law_numbers_in P__law_numbers_in (defScope s__law_numbers_in) := ⟨rfl, rfl, rfl, by decide +kernel, rfl, by decide +kernel, by decide +kernel⟩
abbrev s__law_text : Stmt := tp 43
abbrev N__law_text : List Str := ["word", "items", "item"]
abbrev P__law_text : List Str := ["word", "items"]
theorem sc__law_text : FnScope N__law_text P__law_text (defScope s__law_text) := ⟨rfl, rfl, rfl, by decide +kernel, rfl, by decide +kernel, by decide +kernel⟩
abbrev s__law_field_text : Stmt := tp 44
abbrev N__law_field_text : List Str := ["field", "stone"]
abbrev P__law_field_text : List Str := ["field"]
theorem sc__law_field_text : FnScope N__law_field_text P__law_field_text (defScope s__law_field_text) := ⟨rfl, rfl, rfl, by decide +kernel, rfl, by decide +kernel, by decide +kernel⟩
abbrev s__law_land_text : Stmt := tp 45
abbrev N__law_land_text : List Str := ["land", "field"]
abbrev P__law_land_text : List Str := ["land"]
theorem sc__law_land_text : FnScope N__law_land_text P__law_land_text (defScope s__law_land_text) := ⟨rfl, rfl, rfl, by decide +kernel, rfl, by decide +kernel, by decide +kernel⟩
abbrev s__law_field_in : Stmt := tp 46
abbrev N__law_field_in : List Str := ["lines", "head", "field", "line", "stone"]
abbrev P__law_field_in : List Str := ["lines"]
theorem sc__law_field_in : FnScope N__law_field_in P__law_field_in (defScope s__law_field_in) := ⟨rfl, rfl, rfl, by decide +kernel, rfl, by decide +kernel, by decide +kernel⟩
abbrev s__law_read_field : Stmt := tp 47
abbrev N__law_read_field : List Str := ["text", "lines", "found"]
abbrev P__law_read_field : List Str := ["text"]
theorem sc__law_read_field : FnScope N__law_read_field P__law_read_field (defScope s__law_read_field) := ⟨rfl, rfl, rfl, by decide +kernel, rfl, by decide +kernel, by decide +kernel⟩
abbrev s__law_read_land : Stmt := tp 48
abbrev N__law_read_land : List Str := ["text", "lines", "head", "land", "rest", "turn", "found"]
abbrev P__law_read_land : List Str := ["text"]
theorem sc__law_read_land : FnScope N__law_read_land P__law_read_land (defScope s__law_read_land) := ⟨rfl, rfl, rfl, by decide +kernel, rfl, by decide +kernel, by decide +kernel⟩
abbrev s__law_bent_string : Stmt := tp 49
abbrev N__law_bent_string : List Str := ["text", "draws", "at", "signs", "spot", "sign", "kind"]
abbrev P__law_bent_string : List Str := ["text", "draws", "at"]
theorem sc__law_bent_string : FnScope N__law_bent_string P__law_bent_string (defScope s__law_bent_string) := ⟨rfl, rfl, rfl, by decide +kernel, rfl, by decide +kernel, by decide +kernel⟩
abbrev s__law_told : Stmt := tp 50
abbrev N__law_told : List Str := ["form", "text", "e"]
abbrev P__law_told : List Str := ["form", "text"]
theorem sc__law_told : FnScope N__law_told P__law_told (defScope s__law_told) := ⟨rfl, rfl, rfl, by decide +kernel, rfl, by decide +kernel, by decide +kernel⟩
abbrev s__law_due : Stmt := tp 51
abbrev N__law_due : List Str := ["form", "text", "found"]
abbrev P__law_due : List Str := ["form", "text"]
theorem sc__law_due : FnScope N__law_due P__law_due (defScope s__law_due) := ⟨rfl, rfl, rfl, by decide +kernel, rfl, by decide +kernel, by decide +kernel⟩
abbrev s_law : Stmt := tp 52
abbrev N_law : List Str := ["script", "draws", "value", "land", "kept", "texts", "turn", "told", "cells", "odd", "bent", "text", "form", "k"]
abbrev P_law : List Str := ["script"]
theorem sc_law : FnScope N_law P_law (defScope s_law) := ⟨rfl, rfl, rfl, by decide +kernel, rfl, by decide +kernel, by decide +kernel⟩
abbrev dv_FARTHEST : PyData := .int 1000
abbrev dv_MOST_STONES : PyData := .int 12
abbrev dv_MOST_DIGITS : PyData := .int 30
abbrev dv_DIGITS : PyData := .str "0123456789"
abbrev dv_MOST_FIELDS : PyData := .int 8
structure Tx (K : PySem.W.Frag) (mg : Str → Option Value) : Prop where
  z_isinstance : mg "isinstance" = none
  z_int : mg "int" = none
  z_bool : mg "bool" = none
  z_tuple : mg "tuple" = none
  z_len : mg "len" = none
  z_all : mg "all" = none
  z_str : mg "str" = none
  z_range : mg "range" = none
  z_abs : mg "abs" = none
  z_list : mg "list" = none
  z_min : mg "min" = none
  z_max : mg "max" = none
  z_repr : mg "repr" = none
  m_gcd : mg "gcd" = some (.builtin "math.gcd")
  o_InvalidStone : ∃ C, OwnEx K mg "InvalidStone" C [.type "ValueError", .type "Exception", .type "BaseException", .type "object"] "ValueError.__new__"
  o_WrongCount : ∃ C, OwnEx K mg "WrongCount" C [.type "ValueError", .type "Exception", .type "BaseException", .type "object"] "ValueError.__new__"
  o_InvalidLine : ∃ C, OwnEx K mg "InvalidLine" C [.type "ValueError", .type "Exception", .type "BaseException", .type "object"] "ValueError.__new__"
  d_InvalidLine : ∃ C C1 C2 C3, CatchEx2 K mg "InvalidLine" "SpotError" "InvalidStone" "WrongCount" C C1 C2 C3 [.type "ValueError", .type "Exception", .type "BaseException", .type "object"] "ValueError.__new__"
  u_SpotError : ∃ CS, mg "SpotError" = some (.ref CS) ∧ ∀ c ∈ (["InvalidStone", "WrongCount"] : List Str), ∃ C, mg c = some (.ref C) ∧ PySem.W.exmOne K (.ref C) (.ref CS) = some true
  g_FARTHEST : Gb K mg "FARTHEST" (.int 1000)
  g_MOST_STONES : Gb K mg "MOST_STONES" (.int 12)
  g_MOST_DIGITS : Gb K mg "MOST_DIGITS" (.int 30)
  g_DIGITS : Gb K mg "DIGITS" (.str "0123456789")
  g_MOST_FIELDS : Gb K mg "MOST_FIELDS" (.int 8)
section
variable {P : Program} {w : World} {K : PySem.W.Frag} {mg : Str → Option Value} {base : Heap}
def m_is_whole : MS :=
    (retS (andD (m1 (isiD "int") (rd 0)) (notD (m1 (isiD "bool") (rd 0)))))
def F_is_whole : FD := runD 1 1 m_is_whole
theorem w_is_whole {f : Addr} {fd : FuncData} (T : Tx K mg) (Fu : Fun K "is_whole" "is_whole" s_is_whole f fd)  : FnOk P w K mg base (L2.CX P w) 1 f fd P_is_whole (spD K mg F_is_whole) := by
  refine fun_D (k := 0) (N := N_is_whole) (ps := P_is_whole) (m := m_is_whole) Fu sc_is_whole fun cdv A outer s H E hr => ?_
  have tk : Takes (cxOf (L2.CX P w) P w K mg base N_is_whole "is_whole" (defScope s_is_whole) f cdv A outer s H E) (wE E) := takes_of rfl rfl rfl rfl
  have hp := passes_of (X := cxOf (L2.CX P w) P w K mg base N_is_whole "is_whole" (defScope s_is_whole) f cdv A outer s H E) rfl
  exact (dss_one (ds_ret (de_and (de_isi T.z_isinstance T.z_int bt_int (de_var 0)) (de_one (de_not (de_isi T.z_isinstance T.z_bool bt_bool (de_var 0)))))))
def m_is_fraction : MS :=
    (seqS (ifS (orB (notB (tru (m1 (isiD "tuple") (rd 0)))) (orB (mB (m2 neD (cD lenD (consA (rd 0) nilA)) (cI 2))) (orB (notB (tru (cD F_is_whole (consA (m2 ixD (rd 0) (cI 0)) nilA)))) (notB (tru (cD F_is_whole (consA (m2 ixD (rd 0) (cI 1)) nilA)))))))
    (retS (cB false))
    .nx)
    (retS (andD (m2 geD (m2 ixD (rd 0) (cI 1)) (cI 1)) (m2 eqD (cD gcdD (consA (m2 ixD (rd 0) (cI 0)) (consA (m2 ixD (rd 0) (cI 1)) nilA))) (cI 1)))))
def F_is_fraction : FD := runD 1 1 m_is_fraction
theorem w_is_fraction {f : Addr} {fd : FuncData} (T : Tx K mg) (Fu : Fun K "is_fraction" "is_fraction" s_is_fraction f fd) (c_is_whole : Cal P w K mg base 1 "is_whole" P_is_whole (spD K mg F_is_whole)) : FnOk P w K mg base (L2.CX P w) 2 f fd P_is_fraction (spD K mg F_is_fraction) := by
  refine fun_D (k := 1) (N := N_is_fraction) (ps := P_is_fraction) (m := m_is_fraction) Fu sc_is_fraction fun cdv A outer s H E hr => ?_
  have tk : Takes (cxOf (L2.CX P w) P w K mg base N_is_fraction "is_fraction" (defScope s_is_fraction) f cdv A outer s H E) (wE E) := takes_of rfl rfl rfl rfl
  have hp := passes_of (X := cxOf (L2.CX P w) P w K mg base N_is_fraction "is_fraction" (defScope s_is_fraction) f cdv A outer s H E) rfl
  have hl_is_whole : 1 ≤ 1 := by decide
  exact (dss_cons (ds_if (dt_w (dw_or (dt_not (dt_val (de_isi T.z_isinstance T.z_tuple bt_tuple (de_var 0)))) (dw_or (dt_ne hr (de_callB rlen call_lenD T.z_len bt_len (da_cons (de_var 0) da_nil)) de_int) (dw_or (dt_not (dt_val (de_call c_is_whole (hr.mono hl_is_whole) tk (da_cons (de_ix (de_var 0) de_int) da_nil)))) (dw_or1 (dt_not (dt_val (de_call c_is_whole (hr.mono hl_is_whole) tk (da_cons (de_ix (de_var 0) de_int) da_nil)))))))))
    (dss_one (ds_ret de_bool))
    dss_nil)
    (dss_one (ds_ret (de_and (de_ge hr (de_ix (de_var 0) de_int) de_int) (de_one (de_eq hr (de_callM cr_gcd call_gcdD T.m_gcd (da_cons (de_ix (de_var 0) de_int) (da_cons (de_ix (de_var 0) de_int) da_nil))) de_int))))))
def m_is_stone : MS :=
    (seqS (ifS (orB (notB (tru (m1 (isiD "tuple") (rd 0)))) (mB (m2 neD (cD lenD (consA (rd 0) nilA)) (cI 2))))
    (retS (cB false))
    .nx)
    (retS (cD allD (consA (asL (lcF (seqM (rd 0)) (gN 1) yesB (andD (cD F_is_whole (consA (rd 1) nilA)) (chD leD leD (m1 negD (cG dv_FARTHEST)) (rd 1) (cG dv_FARTHEST))) [1])) nilA))))
def F_is_stone : FD := runD 1 2 m_is_stone
theorem w_is_stone {f : Addr} {fd : FuncData} (T : Tx K mg) (Fu : Fun K "is_stone" "is_stone" s_is_stone f fd) (c_is_whole : Cal P w K mg base 1 "is_whole" P_is_whole (spD K mg F_is_whole)) : FnOk P w K mg base (L2.CX P w) 2 f fd P_is_stone (spD K mg F_is_stone) := by
  refine fun_D (k := 1) (N := N_is_stone) (ps := P_is_stone) (m := m_is_stone) Fu sc_is_stone fun cdv A outer s H E hr => ?_
  have tk : Takes (cxOf (L2.CX P w) P w K mg base N_is_stone "is_stone" (defScope s_is_stone) f cdv A outer s H E) (wE E) := takes_of rfl rfl rfl rfl
  have hp := passes_of (X := cxOf (L2.CX P w) P w K mg base N_is_stone "is_stone" (defScope s_is_stone) f cdv A outer s H E) rfl
  have hl_is_whole : 1 ≤ 1 := by decide
  exact (dss_cons (ds_if (dt_w (dw_or (dt_not (dt_val (de_isi T.z_isinstance T.z_tuple bt_tuple (de_var 0)))) (dw_or1 (dt_ne hr (de_callB rlen call_lenD T.z_len bt_len (da_cons (de_var 0) da_nil)) de_int))))
    (dss_one (ds_ret de_bool))
    dss_nil)
    (dss_one (ds_ret (de_callB (cr_all rfl) call_allD T.z_all bt_all (da_cons (de_fr (df_lc (own := [("number", 1)]) sc_is_stone.nd (di_seq (de_var 0)) (blkB N_is_stone (defScope s_is_stone) (by decide +kernel)) (fun _ _ _ _ _ => (dg_name 1 sc_is_stone.nd)) (fun _ _ _ _ _ => dts_nil) (fun _ _ _ _ _ => (de_and (de_call c_is_whole (hr.mono hl_is_whole) takes0 (da_cons (de_var 1) da_nil)) (de_one (de_chain (op_le.or op_le_str) (op_le.or op_le_str) op2_le op2_le (de_neg (de_gl T.g_FARTHEST)) (de_var 1) (de_gl T.g_FARTHEST))))))) da_nil)))))
def m_check_field : MS :=
    (seqS (forS (seqM (rd 0)) (gN 1)
    (ifS (notB (tru (cDq F_is_stone (consA (rd 1) nilA))))
    (raiseS "InvalidStone")
    .nx))
    (ifS (notB (mB (chD leD leD (cI 1) (cD lenD (consA (rd 0) nilA)) (cG dv_MOST_STONES))))
    (raiseS "WrongCount")
    .nx))
def F_check_field : FD := runD 1 2 m_check_field
theorem w_check_field {f : Addr} {fd : FuncData} (T : Tx K mg) (Fu : Fun K "check_field" "check_field" s_check_field f fd) (c_is_stone : Cal P w K mg base 2 "is_stone" P_is_stone (spD K mg F_is_stone)) : FnOk P w K mg base (L2N.CX P w) 3 f fd P_check_field (spD K mg F_check_field) := by
  refine fun_DN (k := 2) (N := N_check_field) (ps := P_check_field) (m := m_check_field) Fu sc_check_field fun cdv A outer s H E hr => ?_
  have tk : L2N.Takes (cxOf (L2N.CX P w) P w K mg base N_check_field "check_field" (defScope s_check_field) f cdv A outer s H E) (wE E) := L2N.takes_of rfl rfl rfl rfl
  have hp := passes_of (X := cxOf (L2N.CX P w) P w K mg base N_check_field "check_field" (defScope s_check_field) f cdv A outer s H E) rfl
  have hl_is_stone : 2 ≤ 2 := by decide
  exact (dss_cons (ds_for hp (di_seq (de_var 0)) (dg_name 1 sc_check_field.nd)
    (dss_one (ds_if (dt_not (dt_val (de_callQ c_is_stone (hr.mono hl_is_stone) (da_cons (de_var 1) da_nil))))
    (dss_one (ds_raiseN PySem.F.excBase_ValueError T.o_InvalidStone.choose_spec rfl tk))
    dss_nil)))
    (dss_one (ds_if (dt_not (dt_chain (op_le.or op_le_str) (op_le.or op_le_str) op2_le op2_le de_int (de_callB rlen call_lenD T.z_len bt_len (da_cons (de_var 0) da_nil)) (de_gl T.g_MOST_STONES)))
    (dss_one (ds_raiseN PySem.F.excBase_ValueError T.o_WrongCount.choose_spec rfl tk))
    dss_nil)))
def m_demand : MS :=
    (ifS (notB (tru (rd 0)))
    (raiseS "InvalidLine")
    .nx)
def F_demand : FD := runD 1 1 m_demand
theorem w_demand {f : Addr} {fd : FuncData} (T : Tx K mg) (Fu : Fun K "demand" "demand" s_demand f fd)  : FnOk P w K mg base (L2.CX P w) 1 f fd P_demand (spD K mg F_demand) := by
  refine fun_D (k := 0) (N := N_demand) (ps := P_demand) (m := m_demand) Fu sc_demand fun cdv A outer s H E hr => ?_
  have tk : Takes (cxOf (L2.CX P w) P w K mg base N_demand "demand" (defScope s_demand) f cdv A outer s H E) (wE E) := takes_of rfl rfl rfl rfl
  have hp := passes_of (X := cxOf (L2.CX P w) P w K mg base N_demand "demand" (defScope s_demand) f cdv A outer s H E) rfl
  exact (dss_one (ds_if (dt_not (dt_val (de_var 0)))
    (dss_one (ds_raise PySem.F.excBase_ValueError T.o_InvalidLine.choose_spec rfl tk))
    dss_nil))
def m_number_in : MS :=
    (seqS (setS 1 (m3S slD (rd 0) (someP (cD intT (consA (m2 eqD (m3S slD (rd 0) noP (someP (cI 1))) (cS "-")) nilA))) noP))
    (seqS (exprS (cD F_demand (consA (andD (chD leD leD (cI 1) (cD lenD (consA (rd 1) nilA)) (cG dv_MOST_DIGITS)) (cD allD (consA (asL (lcF (seqM (rd 1)) (gN 2) yesB (m2 (inD false) (rd 2) (cG dv_DIGITS)) [2])) nilA))) nilA)))
    (seqS (exprS (cD F_demand (consA (orD (m2 neD (m2 ixD (rd 1) (cI 0)) (cS "0")) (m2 eqD (rd 0) (cS "0"))) nilA)))
    (retS (ifD (mB (m2 eqD (m2 ixD (rd 0) (cI 0)) (cS "-"))) (m1 negD (cD intT (consA (rd 1) nilA))) (cD intT (consA (rd 1) nilA)))))))
def F_number_in : FD := runD 1 3 m_number_in
theorem w_number_in {f : Addr} {fd : FuncData} (T : Tx K mg) (Fu : Fun K "number_in" "number_in" s_number_in f fd) (c_demand : Cal P w K mg base 1 "demand" P_demand (spD K mg F_demand)) : FnOk P w K mg base (L2.CX P w) 2 f fd P_number_in (spD K mg F_number_in) := by
  refine fun_D (k := 1) (N := N_number_in) (ps := P_number_in) (m := m_number_in) Fu sc_number_in fun cdv A outer s H E hr => ?_
  have tk : Takes (cxOf (L2.CX P w) P w K mg base N_number_in "number_in" (defScope s_number_in) f cdv A outer s H E) (wE E) := takes_of rfl rfl rfl rfl
  have hp := passes_of (X := cxOf (L2.CX P w) P w K mg base N_number_in "number_in" (defScope s_number_in) f cdv A outer s H E) rfl
  have hl_demand : 1 ≤ 1 := by decide
  exact (dss_cons (ds_set 1 sc_number_in.nd (de_sl (de_var 0) (do_some (de_callT cr_intT call_intT T.z_int bt_int (da_cons (de_eq hr (de_sl (de_var 0) do_none (do_some de_int)) de_str) da_nil))) do_none))
    (dss_cons (ds_expr (de_call c_demand (hr.mono hl_demand) tk (da_cons (de_and (de_chain (op_le.or op_le_str) (op_le.or op_le_str) op2_le op2_le de_int (de_callB rlen call_lenD T.z_len bt_len (da_cons (de_var 1) da_nil)) (de_gl T.g_MOST_DIGITS)) (de_one (de_callB (cr_all rfl) call_allD T.z_all bt_all (da_cons (de_fr (df_lc (own := [("sign", 2)]) sc_number_in.nd (di_seq (de_var 1)) (blkB N_number_in (defScope s_number_in) (by decide +kernel)) (fun _ _ _ _ _ => (dg_name 2 sc_number_in.nd)) (fun _ _ _ _ _ => dts_nil) (fun _ _ _ _ _ => (de_in hr (de_var 2) (de_gl T.g_DIGITS))))) da_nil)))) da_nil)))
    (dss_cons (ds_expr (de_call c_demand (hr.mono hl_demand) tk (da_cons (de_or (de_ne hr (de_ix (de_var 1) de_int) de_str) (de_one (de_eq hr (de_var 0) de_str))) da_nil)))
    (dss_one (ds_ret (de_if (dt_eq hr (de_ix (de_var 0) de_int) de_str) (de_neg (de_callT cr_intT call_intT T.z_int bt_int (da_cons (de_var 1) da_nil))) (de_callT cr_intT call_intT T.z_int bt_int (da_cons (de_var 1) da_nil))))))))
def m_write_fraction : MS :=
    (seqS (unpS (rd 0) (gT (gConsD (gN 1) (gConsD (gN 2) gNilD))))
    (retS (ifD (mB (m2 eqD (rd 2) (cI 1))) (cD strD (consA (rd 1) nilA)) (fstrM [(m1 fmtD (rd 1)), (cS "/"), (m1 fmtD (rd 2))]))))
def F_write_fraction : FD := runD 1 3 m_write_fraction
theorem w_write_fraction {f : Addr} {fd : FuncData} (T : Tx K mg) (Fu : Fun K "write_fraction" "write_fraction" s_write_fraction f fd)  : FnOk P w K mg base (L2.CX P w) 1 f fd P_write_fraction (spD K mg F_write_fraction) := by
  refine fun_D (k := 0) (N := N_write_fraction) (ps := P_write_fraction) (m := m_write_fraction) Fu sc_write_fraction fun cdv A outer s H E hr => ?_
  have tk : Takes (cxOf (L2.CX P w) P w K mg base N_write_fraction "write_fraction" (defScope s_write_fraction) f cdv A outer s H E) (wE E) := takes_of rfl rfl rfl rfl
  have hp := passes_of (X := cxOf (L2.CX P w) P w K mg base N_write_fraction "write_fraction" (defScope s_write_fraction) f cdv A outer s H E) rfl
  exact (dss_cons (ds_unp (de_var 0) (dg_tup (dgs_cons (dg_name 1 sc_write_fraction.nd) (dgs_cons (dg_name 2 sc_write_fraction.nd) dgs_nil)) (len_cons (len_cons len_nil))))
    (dss_one (ds_ret (de_if (dt_eq hr (de_var 2) de_int) (de_callT call_str_int call_strD T.z_str bt_str (da_cons (de_var 1) da_nil)) (de_fstr (dj_cons (de_fmt (de_var 1)) (dj_cons de_str (dj_cons (de_fmt (de_var 2)) dj_nil))))))))
def m_read_fraction : MS :=
    (seqS (setS 1 (asL (strM splitO (rd 0) (cS "/"))))
    (seqS (exprS (cD F_demand (consA (m2 leD (cD lenD (consA (rd 1) nilA)) (cI 2)) nilA)))
    (seqS (setLS 2 (lcX (seqM (rd 1)) (gN 3) yesB (cD F_number_in (consA (rd 3) nilA)) [3]))
    (seqS (ifS (mB (m2 eqD (cD lenD (consA (rd 2) nilA)) (cI 1)))
    (retS (tupD (consA (m2 ixD (rd 2) (cI 0)) (consA (cI 1) nilA))))
    .nx)
    (seqS (exprS (cD F_demand (consA (andD (m2 gtD (m2 ixD (rd 2) (cI 1)) (cI 1)) (cD F_is_fraction (consA (cD tupleD (consA (rd 2) nilA)) nilA))) nilA)))
    (retS (cD tupleD (consA (rd 2) nilA))))))))
def F_read_fraction : FD := runD 1 4 m_read_fraction
theorem w_read_fraction {f : Addr} {fd : FuncData} (T : Tx K mg) (Fu : Fun K "read_fraction" "read_fraction" s_read_fraction f fd) (c_demand : Cal P w K mg base 1 "demand" P_demand (spD K mg F_demand)) (c_number_in : Cal P w K mg base 2 "number_in" P_number_in (spD K mg F_number_in)) (c_is_fraction : Cal P w K mg base 2 "is_fraction" P_is_fraction (spD K mg F_is_fraction)) : FnOk P w K mg base (L2.CX P w) 3 f fd P_read_fraction (spD K mg F_read_fraction) := by
  refine fun_D (k := 2) (N := N_read_fraction) (ps := P_read_fraction) (m := m_read_fraction) Fu sc_read_fraction fun cdv A outer s H E hr => ?_
  have tk : Takes (cxOf (L2.CX P w) P w K mg base N_read_fraction "read_fraction" (defScope s_read_fraction) f cdv A outer s H E) (wE E) := takes_of rfl rfl rfl rfl
  have hp := passes_of (X := cxOf (L2.CX P w) P w K mg base N_read_fraction "read_fraction" (defScope s_read_fraction) f cdv A outer s H E) rfl
  have hl_demand : 1 ≤ 2 := by decide
  have hl_number_in : 2 ≤ 2 := by decide
  have hl_is_fraction : 2 ≤ 2 := by decide
  exact (dss_cons (ds_set 1 sc_read_fraction.nd (de_fr (df_split (de_var 0) de_str)))
    (dss_cons (ds_expr (de_call c_demand (hr.mono hl_demand) tk (da_cons (de_le hr (de_callB rlen call_lenD T.z_len bt_len (da_cons (de_var 1) da_nil)) de_int) da_nil)))
    (dss_cons (setL_of (ds_setLcX 2 sc_read_fraction.nd (own := [("part", 3)]) tk (di_seq (de_var 1)) (blkB N_read_fraction (defScope s_read_fraction) (by decide +kernel)) (fun _ _ _ _ _ => (dg_name 3 sc_read_fraction.nd)) (fun _ _ _ _ _ => dts_nil) (fun _ _ _ _ _ xe E pb => (de_callP c_number_in (hr.mono hl_number_in) pb (da_cons (de_var 3) da_nil))) (sw_true rfl rfl rfl (by decide +kernel))))
    (dss_cons (ds_if (dt_eq hr (de_callB rlen call_lenD T.z_len bt_len (da_cons (de_var 2) da_nil)) de_int)
    (dss_one (ds_ret (de_tup (da_cons (de_ix (de_var 2) de_int) (da_cons de_int da_nil)))))
    dss_nil)
    (dss_cons (ds_expr (de_call c_demand (hr.mono hl_demand) tk (da_cons (de_and (de_gt hr (de_ix (de_var 2) de_int) de_int) (de_one (de_call c_is_fraction (hr.mono hl_is_fraction) tk (da_cons (de_callT call_tuple_of call_tupleD T.z_tuple bt_tuple (da_cons (de_var 2) da_nil)) da_nil)))) da_nil)))
    (dss_one (ds_ret (de_callT call_tuple_of call_tupleD T.z_tuple bt_tuple (da_cons (de_var 2) da_nil)))))))))
def m_line_of : MS :=
    (retS (m2 addD (strM joinO (cS " ") (m2 addD (asL (lstF (consA (rd 0) nilA))) (asL (lcF (seqM (rd 1)) (gN 2) yesB (cD strD (consA (rd 2) nilA)) [2])))) (cS "\n")))
def F_line_of : FD := runD 2 3 m_line_of
theorem w_line_of {f : Addr} {fd : FuncData} (T : Tx K mg) (Fu : Fun K "line_of" "line_of" s_line_of f fd)  : FnOk P w K mg base (L2.CX P w) 1 f fd P_line_of (spD K mg F_line_of) := by
  refine fun_D (k := 0) (N := N_line_of) (ps := P_line_of) (m := m_line_of) Fu sc_line_of fun cdv A outer s H E hr => ?_
  have tk : Takes (cxOf (L2.CX P w) P w K mg base N_line_of "line_of" (defScope s_line_of) f cdv A outer s H E) (wE E) := takes_of rfl rfl rfl rfl
  have hp := passes_of (X := cxOf (L2.CX P w) P w K mg base N_line_of "line_of" (defScope s_line_of) f cdv A outer s H E) rfl
  exact (dss_one (ds_ret (de_add (de_join de_str (de_add (de_fr (df_lst (da_cons (de_var 0) da_nil))) (de_fr (df_lc (own := [("item", 2)]) sc_line_of.nd (di_seq (de_var 1)) (blkB N_line_of (defScope s_line_of) (by decide +kernel)) (fun _ _ _ _ _ => (dg_name 2 sc_line_of.nd)) (fun _ _ _ _ _ => dts_nil) (fun _ _ _ _ _ => (de_callT call_str_int call_strD T.z_str bt_str (da_cons (de_var 2) da_nil))))))) de_str)))
def m_lines_of : MS :=
    (seqS (setS 1 (asL (strM splitO (rd 0) (cS "\n"))))
    (seqS (exprS (cD F_demand (consA (andD (m2 gtD (cD lenD (consA (rd 1) nilA)) (cI 1)) (m2 eqD (m2 ixD (rd 1) (m1 negD (cI 1))) (cS ""))) nilA)))
    (retS (m3S slD (rd 1) noP (someP (m1 negD (cI 1)))))))
def F_lines_of : FD := runD 1 2 m_lines_of
theorem w_lines_of {f : Addr} {fd : FuncData} (T : Tx K mg) (Fu : Fun K "lines_of" "lines_of" s_lines_of f fd) (c_demand : Cal P w K mg base 1 "demand" P_demand (spD K mg F_demand)) : FnOk P w K mg base (L2.CX P w) 2 f fd P_lines_of (spD K mg F_lines_of) := by
  refine fun_D (k := 1) (N := N_lines_of) (ps := P_lines_of) (m := m_lines_of) Fu sc_lines_of fun cdv A outer s H E hr => ?_
  have tk : Takes (cxOf (L2.CX P w) P w K mg base N_lines_of "lines_of" (defScope s_lines_of) f cdv A outer s H E) (wE E) := takes_of rfl rfl rfl rfl
  have hp := passes_of (X := cxOf (L2.CX P w) P w K mg base N_lines_of "lines_of" (defScope s_lines_of) f cdv A outer s H E) rfl
  have hl_demand : 1 ≤ 1 := by decide
  exact (dss_cons (ds_set 1 sc_lines_of.nd (de_fr (df_split (de_var 0) de_str)))
    (dss_cons (ds_expr (de_call c_demand (hr.mono hl_demand) tk (da_cons (de_and (de_gt hr (de_callB rlen call_lenD T.z_len bt_len (da_cons (de_var 1) da_nil)) de_int) (de_one (de_eq hr (de_ix (de_var 1) (de_neg de_int)) de_str))) da_nil)))
    (dss_one (ds_ret (de_sl (de_var 1) do_none (do_some (de_neg de_int)))))))
def m_items_in : MS :=
    (seqS (setS 2 (asL (strM splitO (rd 0) (cS " "))))
    (seqS (exprS (cD F_demand (consA (m2 eqD (m2 ixD (rd 2) (cI 0)) (rd 1)) nilA)))
    (retS (m3S slD (rd 2) (someP (cI 1)) noP))))
def F_items_in : FD := runD 2 3 m_items_in
theorem w_items_in {f : Addr} {fd : FuncData} (T : Tx K mg) (Fu : Fun K "items_in" "items_in" s_items_in f fd) (c_demand : Cal P w K mg base 1 "demand" P_demand (spD K mg F_demand)) : FnOk P w K mg base (L2.CX P w) 2 f fd P_items_in (spD K mg F_items_in) := by
  refine fun_D (k := 1) (N := N_items_in) (ps := P_items_in) (m := m_items_in) Fu sc_items_in fun cdv A outer s H E hr => ?_
  have tk : Takes (cxOf (L2.CX P w) P w K mg base N_items_in "items_in" (defScope s_items_in) f cdv A outer s H E) (wE E) := takes_of rfl rfl rfl rfl
  have hp := passes_of (X := cxOf (L2.CX P w) P w K mg base N_items_in "items_in" (defScope s_items_in) f cdv A outer s H E) rfl
  have hl_demand : 1 ≤ 1 := by decide
  exact (dss_cons (ds_set 2 sc_items_in.nd (de_fr (df_split (de_var 0) de_str)))
    (dss_cons (ds_expr (de_call c_demand (hr.mono hl_demand) tk (da_cons (de_eq hr (de_ix (de_var 2) de_int) (de_var 1)) da_nil)))
    (dss_one (ds_ret (de_sl (de_var 2) (do_some de_int) do_none)))))
def m_numbers_in : MS :=
    (seqS (setLS 3 (lcX (seqM (cD F_items_in (consA (rd 0) (consA (rd 1) nilA)))) (gN 4) yesB (cD F_number_in (consA (rd 4) nilA)) [4]))
    (seqS (exprS (cD F_demand (consA (m2 eqD (cD lenD (consA (rd 3) nilA)) (rd 2)) nilA)))
    (retS (rd 3))))
def F_numbers_in : FD := runD 3 5 m_numbers_in
theorem w_numbers_in {f : Addr} {fd : FuncData} (T : Tx K mg) (Fu : Fun K "numbers_in" "numbers_in" s_numbers_in f fd) (c_items_in : Cal P w K mg base 2 "items_in" P_items_in (spD K mg F_items_in)) (c_number_in : Cal P w K mg base 2 "number_in" P_number_in (spD K mg F_number_in)) (c_demand : Cal P w K mg base 1 "demand" P_demand (spD K mg F_demand)) : FnOk P w K mg base (L2.CX P w) 3 f fd P_numbers_in (spD K mg F_numbers_in) := by
  refine fun_D (k := 2) (N := N_numbers_in) (ps := P_numbers_in) (m := m_numbers_in) Fu sc_numbers_in fun cdv A outer s H E hr => ?_
  have tk : Takes (cxOf (L2.CX P w) P w K mg base N_numbers_in "numbers_in" (defScope s_numbers_in) f cdv A outer s H E) (wE E) := takes_of rfl rfl rfl rfl
  have hp := passes_of (X := cxOf (L2.CX P w) P w K mg base N_numbers_in "numbers_in" (defScope s_numbers_in) f cdv A outer s H E) rfl
  have hl_items_in : 2 ≤ 2 := by decide
  have hl_number_in : 2 ≤ 2 := by decide
  have hl_demand : 1 ≤ 2 := by decide
  exact (dss_cons (setL_of (ds_setLcX 3 sc_numbers_in.nd (own := [("item", 4)]) tk (di_seq (de_call c_items_in (hr.mono hl_items_in) tk (da_cons (de_var 0) (da_cons (de_var 1) da_nil)))) (blkB N_numbers_in (defScope s_numbers_in) (by decide +kernel)) (fun _ _ _ _ _ => (dg_name 4 sc_numbers_in.nd)) (fun _ _ _ _ _ => dts_nil) (fun _ _ _ _ _ xe E pb => (de_callP c_number_in (hr.mono hl_number_in) pb (da_cons (de_var 4) da_nil))) (sw_true rfl rfl rfl (by decide +kernel))))
    (dss_cons (ds_expr (de_call c_demand (hr.mono hl_demand) tk (da_cons (de_eq hr (de_callB rlen call_lenD T.z_len bt_len (da_cons (de_var 3) da_nil)) (de_var 2)) da_nil)))
    (dss_one (ds_ret (de_var 3)))))
def m_write_field : MS :=
    (retS (m2 addD (cD F_line_of (consA (cS "field") (consA (asL (lstF (consA (cD lenD (consA (rd 0) nilA)) nilA))) nilA))) (strM joinO (cS "") (asL (lcF (seqM (rd 0)) (gN 1) yesB (cD F_line_of (consA (cS "stone") (consA (rd 1) nilA))) [1])))))
def F_write_field : FD := runD 1 2 m_write_field
theorem w_write_field {f : Addr} {fd : FuncData} (T : Tx K mg) (Fu : Fun K "write_field" "write_field" s_write_field f fd) (c_line_of : Cal P w K mg base 1 "line_of" P_line_of (spD K mg F_line_of)) : FnOk P w K mg base (L2.CX P w) 2 f fd P_write_field (spD K mg F_write_field) := by
  refine fun_D (k := 1) (N := N_write_field) (ps := P_write_field) (m := m_write_field) Fu sc_write_field fun cdv A outer s H E hr => ?_
  have tk : Takes (cxOf (L2.CX P w) P w K mg base N_write_field "write_field" (defScope s_write_field) f cdv A outer s H E) (wE E) := takes_of rfl rfl rfl rfl
  have hp := passes_of (X := cxOf (L2.CX P w) P w K mg base N_write_field "write_field" (defScope s_write_field) f cdv A outer s H E) rfl
  have hl_line_of : 1 ≤ 1 := by decide
  exact (dss_one (ds_ret (de_add (de_call c_line_of (hr.mono hl_line_of) tk (da_cons de_str (da_cons (de_fr (df_lst (da_cons (de_callB rlen call_lenD T.z_len bt_len (da_cons (de_var 0) da_nil)) da_nil))) da_nil))) (de_join de_str (de_fr (df_lc (own := [("stone", 1)]) sc_write_field.nd (di_seq (de_var 0)) (blkB N_write_field (defScope s_write_field) (by decide +kernel)) (fun _ _ _ _ _ => (dg_name 1 sc_write_field.nd)) (fun _ _ _ _ _ => dts_nil) (fun _ _ _ _ _ => (de_call c_line_of (hr.mono hl_line_of) takes0 (da_cons de_str (da_cons (de_var 1) da_nil))))))))))
def m_write_land : MS :=
    (retS (m2 addD (cD F_line_of (consA (cS "land") (consA (asL (lstF (consA (cD lenD (consA (rd 0) nilA)) nilA))) nilA))) (strM joinO (cS "") (asL (lcF (seqM (rd 0)) (gN 1) yesB (cD F_write_field (consA (rd 1) nilA)) [1])))))
def F_write_land : FD := runD 1 2 m_write_land
theorem w_write_land {f : Addr} {fd : FuncData} (T : Tx K mg) (Fu : Fun K "write_land" "write_land" s_write_land f fd) (c_line_of : Cal P w K mg base 1 "line_of" P_line_of (spD K mg F_line_of)) (c_write_field : Cal P w K mg base 2 "write_field" P_write_field (spD K mg F_write_field)) : FnOk P w K mg base (L2.CX P w) 3 f fd P_write_land (spD K mg F_write_land) := by
  refine fun_D (k := 2) (N := N_write_land) (ps := P_write_land) (m := m_write_land) Fu sc_write_land fun cdv A outer s H E hr => ?_
  have tk : Takes (cxOf (L2.CX P w) P w K mg base N_write_land "write_land" (defScope s_write_land) f cdv A outer s H E) (wE E) := takes_of rfl rfl rfl rfl
  have hp := passes_of (X := cxOf (L2.CX P w) P w K mg base N_write_land "write_land" (defScope s_write_land) f cdv A outer s H E) rfl
  have hl_line_of : 1 ≤ 2 := by decide
  have hl_write_field : 2 ≤ 2 := by decide
  exact (dss_one (ds_ret (de_add (de_call c_line_of (hr.mono hl_line_of) tk (da_cons de_str (da_cons (de_fr (df_lst (da_cons (de_callB rlen call_lenD T.z_len bt_len (da_cons (de_var 0) da_nil)) da_nil))) da_nil))) (de_join de_str (de_fr (df_lc (own := [("field", 1)]) sc_write_land.nd (di_seq (de_var 0)) (blkB N_write_land (defScope s_write_land) (by decide +kernel)) (fun _ _ _ _ _ => (dg_name 1 sc_write_land.nd)) (fun _ _ _ _ _ => dts_nil) (fun _ _ _ _ _ => (de_call c_write_field (hr.mono hl_write_field) takes0 (da_cons (de_var 1) da_nil)))))))))
def m_field_in : MY :=
    (seqY (exprS (cD F_demand (consA (m2 gtD (cD lenD (consA (rd 0) nilA)) (cI 0)) nilA)))
    (seqY (setS 1 (m2 ixD (cD F_numbers_in (consA (m2 ixD (rd 0) (cI 0)) (consA (cS "field") (consA (cI 1) nilA)))) (cI 0)))
    (seqY (exprS (cD F_demand (consA (chD ltD ltD (cI 0) (rd 1) (cD lenD (consA (rd 0) nilA))) nilA)))
    (seqY (setFS 2 (lcX (seqM (m3S slD (rd 0) (someP (cI 1)) (someP (m2 addD (rd 1) (cI 1))))) (gN 3) yesB (cD tupleD (consA (cD F_numbers_in (consA (rd 3) (consA (cS "stone") (consA (cI 2) nilA)))) nilA)) [3]))
    (seqY (tryN ["InvalidStone", "WrongCount"] "InvalidLine" (exprS (borD [2] (cD F_check_field (consA (rd 2) nilA)))))
    (retY 2 (m3S slD (rd 0) (someP (m2 addD (rd 1) (cI 1))) noP)))))))
def F_field_in : FP := runY 1 4 m_field_in
theorem w_field_in {f : Addr} {fd : FuncData} (T : Tx K mg) (Fu : Fun K "field_in" "field_in" s_field_in f fd) (c_demand : Cal P w K mg base 1 "demand" P_demand (spD K mg F_demand)) (c_numbers_in : Cal P w K mg base 3 "numbers_in" P_numbers_in (spD K mg F_numbers_in)) (c_check_field : CalN P w K mg base 3 "check_field" P_check_field (spD K mg F_check_field)) : FnOk P w K mg base (L2.CX P w) 4 f fd P_field_in (spP K mg F_field_in) := by
  refine fun_Y (k := 3) (N := N_field_in) (ps := P_field_in) (m := m_field_in) Fu sc_field_in fun cdv A outer s H E hr => ?_
  have tk : Takes (cxOf (L2.CX P w) P w K mg base N_field_in "field_in" (defScope s_field_in) f cdv A outer s H E) (wE E) := takes_of rfl rfl rfl rfl
  have hp := passes_of (X := cxOf (L2.CX P w) P w K mg base N_field_in "field_in" (defScope s_field_in) f cdv A outer s H E) rfl
  have hpa := fun hd => L2H.passesAt_of (X := cxOf (L2.CX P w) P w K mg base N_field_in "field_in" (defScope s_field_in) f cdv A outer s H E) rfl hd
  have hl_demand : 1 ≤ 3 := by decide
  have hl_numbers_in : 3 ≤ 3 := by decide
  have hl_check_field : 3 ≤ 3 := by decide
  exact (dsy_cons (ds_expr (de_call c_demand (hr.mono hl_demand) tk (da_cons (de_gt hr (de_callB rlen call_lenD T.z_len bt_len (da_cons (de_var 0) da_nil)) de_int) da_nil)))
    (dsy_cons (ds_set 1 sc_field_in.nd (de_ix (de_call c_numbers_in (hr.mono hl_numbers_in) tk (da_cons (de_ix (de_var 0) de_int) (da_cons de_str (da_cons de_int da_nil)))) de_int))
    (dsy_cons (ds_expr (de_call c_demand (hr.mono hl_demand) tk (da_cons (de_chain (cLt hr) (cLt hr) op2_lt op2_lt de_int (de_var 1) (de_callB rlen call_lenD T.z_len bt_len (da_cons (de_var 0) da_nil))) da_nil)))
    (dsy_cons (ds_setLcX 2 sc_field_in.nd (own := [("line", 3)]) tk (di_seq (de_sl (de_var 0) (do_some de_int) (do_some (de_add (de_var 1) de_int)))) (blkB N_field_in (defScope s_field_in) (by decide +kernel)) (fun _ _ _ _ _ => (dg_name 3 sc_field_in.nd)) (fun _ _ _ _ _ => dts_nil) (fun _ _ _ _ _ xe E pb => (de_callT call_tuple_of call_tupleD T.z_tuple bt_tuple (da_cons (de_callP c_numbers_in (hr.mono hl_numbers_in) pb (da_cons (de_var 3) (da_cons de_str (da_cons de_int da_nil)))) da_nil))) (sw_true rfl rfl rfl (by decide +kernel)))
    (dsy_cons (ds_tryN PySem.F.excBase_ValueError T.o_InvalidLine.choose_spec T.u_SpotError.choose_spec.1 T.u_SpotError.choose_spec.2 tk hpa (fun W pn xe tkn hp => (dss_one (ds_expr (de_bor [2] (de_callN c_check_field (hr.mono hl_check_field) tkn (da_cons (de_var 2) da_nil)))))))
    (dsy_ret 2 (de_sl (de_var 0) (do_some (de_add (de_var 1) de_int)) do_none)))))))
def m_read_field : MS :=
    (seqS (unpY 1 2 F_field_in (consA (cD F_lines_of (consA (rd 0) nilA)) nilA))
    (seqS (exprS (cD F_demand (consA (notT (rd 2)) nilA)))
    (retO 1)))
def F_read_field : FF := runF 1 3 m_read_field
theorem w_read_field {f : Addr} {fd : FuncData} (T : Tx K mg) (Fu : Fun K "read_field" "read_field" s_read_field f fd) (c_lines_of : Cal P w K mg base 2 "lines_of" P_lines_of (spD K mg F_lines_of)) (c_field_in : Cal P w K mg base 4 "field_in" P_field_in (spP K mg F_field_in)) (c_demand : Cal P w K mg base 1 "demand" P_demand (spD K mg F_demand)) : FnOk P w K mg base (L2.CX P w) 5 f fd P_read_field (spF K mg F_read_field) := by
  refine fun_F (k := 4) (N := N_read_field) (ps := P_read_field) (m := m_read_field) Fu sc_read_field fun cdv A outer s H E hr => ?_
  have tk : Takes (cxOf (L2.CX P w) P w K mg base N_read_field "read_field" (defScope s_read_field) f cdv A outer s H E) (wE E) := takes_of rfl rfl rfl rfl
  have hp := passes_of (X := cxOf (L2.CX P w) P w K mg base N_read_field "read_field" (defScope s_read_field) f cdv A outer s H E) rfl
  have hl_lines_of : 2 ≤ 4 := by decide
  have hl_field_in : 4 ≤ 4 := by decide
  have hl_demand : 1 ≤ 4 := by decide
  exact (dss_cons (ds_unpY 1 2 c_field_in (hr.mono hl_field_in) tk (da_cons (de_call c_lines_of (hr.mono hl_lines_of) tk (da_cons (de_var 0) da_nil)) da_nil) sc_read_field.nd)
    (dss_cons (ds_expr (de_call c_demand (hr.mono hl_demand) tk (da_cons (de_notT (de_var 2)) da_nil)))
    (dss_one (ds_retO 1))))
def m_read_land : MS :=
    (seqS (setS 1 (cD F_lines_of (consA (rd 0) nilA)))
    (seqS (setS 2 (m2 ixD (cD F_numbers_in (consA (m2 ixD (rd 1) (cI 0)) (consA (cS "land") (consA (cI 1) nilA)))) (cI 0)))
    (seqS (exprS (cD F_demand (consA (chD leD leD (cI 1) (rd 2) (cG dv_MOST_FIELDS)) nilA)))
    (seqS (setS 3 (m3S slD (rd 1) (someP (cI 1)) noP))
    (seqS (setFS 4 (lstF nilA))
    (seqS (forS (cF rng1 (consA (rd 2) nilA)) (gN 5)
    (seqS (unpY 6 3 F_field_in (consA (rd 3) nilA))
    (frzS [6] (appS 4 (rd 6)))))
    (seqS (exprS (cD F_demand (consA (notT (rd 3)) nilA)))
    (retO 4))))))))
def F_read_land : FF := runF 1 7 m_read_land
theorem w_read_land {f : Addr} {fd : FuncData} (T : Tx K mg) (Fu : Fun K "read_land" "read_land" s_read_land f fd) (c_lines_of : Cal P w K mg base 2 "lines_of" P_lines_of (spD K mg F_lines_of)) (c_numbers_in : Cal P w K mg base 3 "numbers_in" P_numbers_in (spD K mg F_numbers_in)) (c_demand : Cal P w K mg base 1 "demand" P_demand (spD K mg F_demand)) (c_field_in : Cal P w K mg base 4 "field_in" P_field_in (spP K mg F_field_in)) : FnOk P w K mg base (L2.CX P w) 5 f fd P_read_land (spF K mg F_read_land) := by
  refine fun_F (k := 4) (N := N_read_land) (ps := P_read_land) (m := m_read_land) Fu sc_read_land fun cdv A outer s H E hr => ?_
  have tk : Takes (cxOf (L2.CX P w) P w K mg base N_read_land "read_land" (defScope s_read_land) f cdv A outer s H E) (wE E) := takes_of rfl rfl rfl rfl
  have hp := passes_of (X := cxOf (L2.CX P w) P w K mg base N_read_land "read_land" (defScope s_read_land) f cdv A outer s H E) rfl
  have hl_lines_of : 2 ≤ 4 := by decide
  have hl_numbers_in : 3 ≤ 4 := by decide
  have hl_demand : 1 ≤ 4 := by decide
  have hl_field_in : 4 ≤ 4 := by decide
  exact (dss_cons (ds_set 1 sc_read_land.nd (de_call c_lines_of (hr.mono hl_lines_of) tk (da_cons (de_var 0) da_nil)))
    (dss_cons (ds_set 2 sc_read_land.nd (de_ix (de_call c_numbers_in (hr.mono hl_numbers_in) tk (da_cons (de_ix (de_var 1) de_int) (da_cons de_str (da_cons de_int da_nil)))) de_int))
    (dss_cons (ds_expr (de_call c_demand (hr.mono hl_demand) tk (da_cons (de_chain (op_le.or op_le_str) (op_le.or op_le_str) op2_le op2_le de_int (de_var 2) (de_gl T.g_MOST_FIELDS)) da_nil)))
    (dss_cons (ds_set 3 sc_read_land.nd (de_sl (de_var 1) (do_some de_int) do_none))
    (dss_cons (ds_setF 4 sc_read_land.nd (df_lst da_nil))
    (dss_cons (ds_for hp (di_range1 T.z_range (da_cons (de_var 2) da_nil)) (dg_name 5 sc_read_land.nd)
    (dss_cons (ds_unpY 6 3 c_field_in (hr.mono hl_field_in) tk (da_cons (de_var 3) da_nil) sc_read_land.nd)
    (dss_one (ds_frz [6] (ds_app 4 (de_var 6))))))
    (dss_cons (ds_expr (de_call c_demand (hr.mono hl_demand) tk (da_cons (de_notT (de_var 3)) da_nil)))
    (dss_one (ds_retO 4)))))))))
def m__law_cell : MS :=
    (seqS (ifS (mB (m2 ltD (rd 1) (cD lenD (consA (rd 0) nilA))))
    (retS (cD intD (consA (m2 ixD (rd 0) (rd 1)) nilA)))
    .nx)
    (retS (cI 0)))
def F__law_cell : FD := runD 2 2 m__law_cell
theorem w__law_cell {f : Addr} {fd : FuncData} (T : Tx K mg) (Fu : Fun K "_law_cell" "_law_cell" s__law_cell f fd)  : FnOk P w K mg base (L2.CX P w) 1 f fd P__law_cell (spD K mg F__law_cell) := by
  refine fun_D (k := 0) (N := N__law_cell) (ps := P__law_cell) (m := m__law_cell) Fu sc__law_cell fun cdv A outer s H E hr => ?_
  have tk : Takes (cxOf (L2.CX P w) P w K mg base N__law_cell "_law_cell" (defScope s__law_cell) f cdv A outer s H E) (wE E) := takes_of rfl rfl rfl rfl
  have hp := passes_of (X := cxOf (L2.CX P w) P w K mg base N__law_cell "_law_cell" (defScope s__law_cell) f cdv A outer s H E) rfl
  exact (dss_cons (ds_if (dt_lt hr (de_var 1) (de_callB rlen call_lenD T.z_len bt_len (da_cons (de_var 0) da_nil)))
    (dss_one (ds_ret (de_callT call_int1 call_int T.z_int bt_int (da_cons (de_ix (de_var 0) (de_var 1)) da_nil))))
    dss_nil)
    (dss_one (ds_ret de_int)))
def m__law_numbers : MS :=
    (seqS (setFS 3 (lstF nilA))
    (seqS (ifS (mB (m2 geD (rd 0) (m2 powD (cI 10) (cI 18))))
    (seqS (forS (cF rng1 (consA (rd 1) nilA)) (gN 4)
    (seqS (appS 3 (m2 modD (cD intD (consA (rd 0) nilA)) (rd 2)))
    (setS 0 (m2 fdivD (cD intD (consA (rd 0) nilA)) (rd 2)))))
    (retO 3))
    .nx)
    (seqS (forS (cF rng1 (consA (rd 1) nilA)) (gN 4)
    (seqS (setS 5 (m2 modD (cD intD (consA (m2 addD (m2 addD (m2 mulD (rd 0) (cI 48271)) (m2 mulD (rd 4) (cI 69621))) (cI 7)) nilA)) (cI 2147483647)))
    (seqS (setS 5 (m2 modD (cD intD (consA (m2 addD (m2 addD (m2 addD (m2 mulD (rd 5) (rd 5)) (m2 mulD (rd 5) (cI 40692))) (m2 mulD (rd 4) (cI 16807))) (cI 11)) nilA)) (cI 2147483399)))
    (appS 3 (m2 modD (cD intD (consA (m2 fdivD (rd 5) (cI 32)) nilA)) (rd 2))))))
    (retO 3))))
def F__law_numbers : FF := runF 3 6 m__law_numbers
theorem w__law_numbers {f : Addr} {fd : FuncData} (T : Tx K mg) (Fu : Fun K "_law_numbers" "_law_numbers" s__law_numbers f fd)  : FnOk P w K mg base (L2.CX P w) 1 f fd P__law_numbers (spF K mg F__law_numbers) := by
  refine fun_F (k := 0) (N := N__law_numbers) (ps := P__law_numbers) (m := m__law_numbers) Fu sc__law_numbers fun cdv A outer s H E hr => ?_
  have tk : Takes (cxOf (L2.CX P w) P w K mg base N__law_numbers "_law_numbers" (defScope s__law_numbers) f cdv A outer s H E) (wE E) := takes_of rfl rfl rfl rfl
  have hp := passes_of (X := cxOf (L2.CX P w) P w K mg base N__law_numbers "_law_numbers" (defScope s__law_numbers) f cdv A outer s H E) rfl
  exact (dss_cons (ds_setF 3 sc__law_numbers.nd (df_lst da_nil))
    (dss_cons (ds_if (dt_ge hr (de_var 0) (de_pow de_int de_int))
    (dss_cons (ds_for hp (di_range1 T.z_range (da_cons (de_var 1) da_nil)) (dg_name 4 sc__law_numbers.nd)
    (dss_cons (ds_app 3 (de_mod (de_callT call_int1 call_int T.z_int bt_int (da_cons (de_var 0) da_nil)) (de_var 2)))
    (dss_one (ds_set 0 sc__law_numbers.nd (de_fdiv (de_callT call_int1 call_int T.z_int bt_int (da_cons (de_var 0) da_nil)) (de_var 2))))))
    (dss_one (ds_retO 3)))
    dss_nil)
    (dss_cons (ds_for hp (di_range1 T.z_range (da_cons (de_var 1) da_nil)) (dg_name 4 sc__law_numbers.nd)
    (dss_cons (ds_set 5 sc__law_numbers.nd (de_mod (de_callT call_int1 call_int T.z_int bt_int (da_cons (de_add (de_add (de_mul (de_var 0) de_int) (de_mul (de_var 4) de_int)) de_int) da_nil)) de_int))
    (dss_cons (ds_set 5 sc__law_numbers.nd (de_mod (de_callT call_int1 call_int T.z_int bt_int (da_cons (de_add (de_add (de_add (de_mul (de_var 5) (de_var 5)) (de_mul (de_var 5) de_int)) (de_mul (de_var 4) de_int)) de_int) da_nil)) de_int))
    (dss_one (ds_app 3 (de_mod (de_callT call_int1 call_int T.z_int bt_int (da_cons (de_fdiv (de_var 5) de_int) da_nil)) (de_var 2)))))))
    (dss_one (ds_retO 3)))))
def m__law_common : MS :=
    (seqS (setS 0 (cD absD (consA (rd 0) nilA)))
    (seqS (setS 1 (cD absD (consA (rd 1) nilA)))
    (seqS (forS (cF rng1 (consA (cI 900) nilA)) (gN 2)
    (seqS (ifS (mB (m2 eqD (rd 1) (cI 0)))
    (retS (rd 0))
    .nx)
    (parS 0 1 (consA (rd 1) (consA (m2 modD (cD intD (consA (rd 0) nilA)) (rd 1)) nilA)))))
    (retS (rd 0)))))
def F__law_common : FD := runD 2 3 m__law_common
theorem w__law_common {f : Addr} {fd : FuncData} (T : Tx K mg) (Fu : Fun K "_law_common" "_law_common" s__law_common f fd)  : FnOk P w K mg base (L2.CX P w) 1 f fd P__law_common (spD K mg F__law_common) := by
  refine fun_D (k := 0) (N := N__law_common) (ps := P__law_common) (m := m__law_common) Fu sc__law_common fun cdv A outer s H E hr => ?_
  have tk : Takes (cxOf (L2.CX P w) P w K mg base N__law_common "_law_common" (defScope s__law_common) f cdv A outer s H E) (wE E) := takes_of rfl rfl rfl rfl
  have hp := passes_of (X := cxOf (L2.CX P w) P w K mg base N__law_common "_law_common" (defScope s__law_common) f cdv A outer s H E) rfl
  exact (dss_cons (ds_set 0 sc__law_common.nd (de_callB call_abs call_absD T.z_abs bt_abs (da_cons (de_var 0) da_nil)))
    (dss_cons (ds_set 1 sc__law_common.nd (de_callB call_abs call_absD T.z_abs bt_abs (da_cons (de_var 1) da_nil)))
    (dss_cons (ds_for hp (di_range1 T.z_range (da_cons de_int da_nil)) (dg_name 2 sc__law_common.nd)
    (dss_cons (ds_if (dt_eq hr (de_var 1) de_int)
    (dss_one (ds_ret (de_var 0)))
    dss_nil)
    (dss_one (ds_par 0 1 sc__law_common.nd (da_cons (de_var 1) (da_cons (de_mod (de_callT call_int1 call_int T.z_int bt_int (da_cons (de_var 0) da_nil)) (de_var 1)) da_nil))))))
    (dss_one (ds_ret (de_var 0))))))
def m__law_frac : MS :=
    (seqS (ifS (mB (m2 ltD (rd 1) (cI 0)))
    (seqS (setS 0 (m2 subD (cI 0) (rd 0)))
    (setS 1 (m2 subD (cI 0) (rd 1))))
    .nx)
    (seqS (setS 2 (cD F__law_common (consA (rd 0) (consA (rd 1) nilA))))
    (retS (tupD (consA (m2 fdivD (rd 0) (rd 2)) (consA (m2 fdivD (rd 1) (rd 2)) nilA))))))
def F__law_frac : FD := runD 2 3 m__law_frac
theorem w__law_frac {f : Addr} {fd : FuncData} (T : Tx K mg) (Fu : Fun K "_law_frac" "_law_frac" s__law_frac f fd) (c__law_common : Cal P w K mg base 1 "_law_common" P__law_common (spD K mg F__law_common)) : FnOk P w K mg base (L2.CX P w) 2 f fd P__law_frac (spD K mg F__law_frac) := by
  refine fun_D (k := 1) (N := N__law_frac) (ps := P__law_frac) (m := m__law_frac) Fu sc__law_frac fun cdv A outer s H E hr => ?_
  have tk : Takes (cxOf (L2.CX P w) P w K mg base N__law_frac "_law_frac" (defScope s__law_frac) f cdv A outer s H E) (wE E) := takes_of rfl rfl rfl rfl
  have hp := passes_of (X := cxOf (L2.CX P w) P w K mg base N__law_frac "_law_frac" (defScope s__law_frac) f cdv A outer s H E) rfl
  have hl__law_common : 1 ≤ 1 := by decide
  exact (dss_cons (ds_if (dt_lt hr (de_var 1) de_int)
    (dss_cons (ds_set 0 sc__law_frac.nd (de_sub de_int (de_var 0)))
    (dss_one (ds_set 1 sc__law_frac.nd (de_sub de_int (de_var 1)))))
    dss_nil)
    (dss_cons (ds_set 2 sc__law_frac.nd (de_call c__law_common (hr.mono hl__law_common) tk (da_cons (de_var 0) (da_cons (de_var 1) da_nil))))
    (dss_one (ds_ret (de_tup (da_cons (de_fdiv (de_var 0) (de_var 2)) (da_cons (de_fdiv (de_var 1) (de_var 2)) da_nil)))))))
def m__law_field : MS :=
    (seqS (setS 3 (asL (cF F__law_numbers (consA (cD F__law_cell (consA (rd 0) (consA (rd 1) nilA))) (consA (m2 addD (cI 6) (m2 mulD (cI 2) (rd 2))) (consA (cI 5040) nilA))))))
    (seqS (setS 4 (m2 ixD (asL (lstF (consA (cI 2) (consA (cI 5) (consA (cI 12) (consA (cI 400) nilA)))))) (m2 modD (m2 ixD (rd 3) (cI 0)) (cI 4))))
    (seqS (setS 5 (m2 subD (m2 modD (m2 ixD (rd 3) (cI 1)) (m2 addD (m2 mulD (cI 2) (rd 4)) (cI 1))) (rd 4)))
    (seqS (setS 6 (m2 subD (m2 modD (m2 ixD (rd 3) (cI 2)) (m2 addD (m2 mulD (cI 2) (rd 4)) (cI 1))) (rd 4)))
    (seqS (setFS 7 (lstF nilA))
    (seqS (forS (cF rng1 (consA (m2 addD (cI 1) (m2 modD (m2 ixD (rd 3) (cI 3)) (rd 2))) nilA)) (gN 8)
    (seqS (setS 9 (tupD (consA (m2 addD (rd 5) (m2 modD (m2 ixD (rd 3) (m2 addD (cI 6) (m2 mulD (cI 2) (rd 8)))) (m2 addD (rd 4) (cI 1)))) (consA (m2 addD (rd 6) (m2 modD (m2 ixD (rd 3) (m2 addD (cI 7) (m2 mulD (cI 2) (rd 8)))) (m2 addD (rd 4) (cI 1)))) nilA))))
    (seqS (ifS (mB (m2 eqD (m2 modD (m2 ixD (rd 3) (cI 4)) (cI 6)) (cI 0)))
    (setS 9 (tupD (consA (m2 addD (rd 5) (m2 modD (m2 ixD (rd 3) (m2 addD (cI 6) (m2 mulD (cI 2) (rd 8)))) (m2 addD (rd 4) (cI 1)))) (consA (m2 addD (rd 6) (m2 modD (m2 ixD (rd 3) (m2 addD (cI 6) (m2 mulD (cI 2) (rd 8)))) (m2 addD (rd 4) (cI 1)))) nilA))))
    .nx)
    (appS 7 (rd 9)))))
    (seqS (ifS (mB (m2 eqD (m2 modD (m2 ixD (rd 3) (cI 5)) (cI 5)) (cI 0)))
    (appS 7 (ownIx 7 (cI 0)))
    .nx)
    (frzS [7] (retS (m3S slD (rd 7) (someP (cI 0)) (someP (rd 2))))))))))))
def F__law_field : FD := runD 3 10 m__law_field
theorem w__law_field {f : Addr} {fd : FuncData} (T : Tx K mg) (Fu : Fun K "_law_field" "_law_field" s__law_field f fd) (c__law_cell : Cal P w K mg base 1 "_law_cell" P__law_cell (spD K mg F__law_cell)) (c__law_numbers : Cal P w K mg base 1 "_law_numbers" P__law_numbers (spF K mg F__law_numbers)) : FnOk P w K mg base (L2.CX P w) 2 f fd P__law_field (spD K mg F__law_field) := by
  refine fun_D (k := 1) (N := N__law_field) (ps := P__law_field) (m := m__law_field) Fu sc__law_field fun cdv A outer s H E hr => ?_
  have tk : Takes (cxOf (L2.CX P w) P w K mg base N__law_field "_law_field" (defScope s__law_field) f cdv A outer s H E) (wE E) := takes_of rfl rfl rfl rfl
  have hp := passes_of (X := cxOf (L2.CX P w) P w K mg base N__law_field "_law_field" (defScope s__law_field) f cdv A outer s H E) rfl
  have hl__law_cell : 1 ≤ 1 := by decide
  have hl__law_numbers : 1 ≤ 1 := by decide
  exact (dss_cons (ds_set 3 sc__law_field.nd (de_fr (df_call c__law_numbers (hr.mono hl__law_numbers) tk (da_cons (de_call c__law_cell (hr.mono hl__law_cell) tk (da_cons (de_var 0) (da_cons (de_var 1) da_nil))) (da_cons (de_add de_int (de_mul de_int (de_var 2))) (da_cons de_int da_nil))))))
    (dss_cons (ds_set 4 sc__law_field.nd (de_ix (de_fr (df_lst (da_cons de_int (da_cons de_int (da_cons de_int (da_cons de_int da_nil)))))) (de_mod (de_ix (de_var 3) de_int) de_int)))
    (dss_cons (ds_set 5 sc__law_field.nd (de_sub (de_mod (de_ix (de_var 3) de_int) (de_add (de_mul de_int (de_var 4)) de_int)) (de_var 4)))
    (dss_cons (ds_set 6 sc__law_field.nd (de_sub (de_mod (de_ix (de_var 3) de_int) (de_add (de_mul de_int (de_var 4)) de_int)) (de_var 4)))
    (dss_cons (ds_setF 7 sc__law_field.nd (df_lst da_nil))
    (dss_cons (ds_for hp (di_range1 T.z_range (da_cons (de_add de_int (de_mod (de_ix (de_var 3) de_int) (de_var 2))) da_nil)) (dg_name 8 sc__law_field.nd)
    (dss_cons (ds_set 9 sc__law_field.nd (de_tup (da_cons (de_add (de_var 5) (de_mod (de_ix (de_var 3) (de_add de_int (de_mul de_int (de_var 8)))) (de_add (de_var 4) de_int))) (da_cons (de_add (de_var 6) (de_mod (de_ix (de_var 3) (de_add de_int (de_mul de_int (de_var 8)))) (de_add (de_var 4) de_int))) da_nil))))
    (dss_cons (ds_if (dt_eq hr (de_mod (de_ix (de_var 3) de_int) de_int) de_int)
    (dss_one (ds_set 9 sc__law_field.nd (de_tup (da_cons (de_add (de_var 5) (de_mod (de_ix (de_var 3) (de_add de_int (de_mul de_int (de_var 8)))) (de_add (de_var 4) de_int))) (da_cons (de_add (de_var 6) (de_mod (de_ix (de_var 3) (de_add de_int (de_mul de_int (de_var 8)))) (de_add (de_var 4) de_int))) da_nil)))))
    dss_nil)
    (dss_one (ds_app 7 (de_var 9))))))
    (dss_cons (ds_if (dt_eq hr (de_mod (de_ix (de_var 3) de_int) de_int) de_int)
    (dss_one (ds_app 7 (de_ownIx 7 de_int)))
    dss_nil)
    (dss_one (ds_frz [7] (ds_ret (de_sl (de_var 7) (do_some de_int) (do_some (de_var 2)))))))))))))
def m__law_same (Fs__law_same : FD) : MS :=
    (seqS (ifS (tru (m1 (isiD "list") (rd 1)))
    (ifS (orB (notB (tru (m1 (isiD "list") (rd 0)))) (mB (m2 neD (cD lenD (consA (rd 0) nilA)) (cD lenD (consA (rd 1) nilA)))))
    (retS (cB false))
    .nx)
    (ifS (tru (m1 (isiD "tuple") (rd 1)))
    (ifS (orB (notB (tru (m1 (isiD "tuple") (rd 0)))) (mB (m2 neD (cD lenD (consA (rd 0) nilA)) (cD lenD (consA (rd 1) nilA)))))
    (retS (cB false))
    .nx)
    (ifS (mB (m2 isND (rd 1) cN))
    (retS (m2 isND (rd 0) cN))
    (ifS (tru (m1 (isiD "bool") (rd 1)))
    (retS (andD (m1 (isiD "bool") (rd 0)) (m2 eqD (rd 0) (rd 1))))
    (ifS (tru (m1 (isiD "int") (rd 1)))
    (retS (andD (m1 (isiD "int") (rd 0)) (andD (notD (m1 (isiD "bool") (rd 0))) (m2 eqD (rd 0) (rd 1)))))
    (retS (andD (m1 (isiD "str") (rd 0)) (m2 eqD (rd 0) (rd 1)))))))))
    (seqS (forS (cF rng1 (consA (cD lenD (consA (rd 1) nilA)) nilA)) (gN 2)
    (ifS (notB (tru (cD Fs__law_same (consA (m2 ixD (rd 0) (rd 2)) (consA (m2 ixD (rd 1) (rd 2)) nilA)))))
    (retS (cB false))
    .nx))
    (retS (cB true))))
def F__law_same : Nat → FD
  | 0 => fun _ => .no
  | k + 1 => runD 2 3 (m__law_same (F__law_same k))
theorem w__law_same {f : Addr} {fd : FuncData} {k : Nat} {Fs : FD} (T : Tx K mg) (Fu : Fun K "_law_same" "_law_same" s__law_same f fd) (c__law_same : Cal P w K mg base k "_law_same" P__law_same (spD K mg Fs))  (hk : 0 ≤ k + 1) : FnOk P w K mg base (L2.CX P w) (k + 1) f fd P__law_same (spD K mg (runD 2 3 (m__law_same Fs))) := by
  refine fun_D Fu sc__law_same fun cdv A outer s H E hr => ?_
  have tk : Takes (cxOf (L2.CX P w) P w K mg base N__law_same "_law_same" (defScope s__law_same) f cdv A outer s H E) (wE E) := takes_of rfl rfl rfl rfl
  have hp := passes_of (X := cxOf (L2.CX P w) P w K mg base N__law_same "_law_same" (defScope s__law_same) f cdv A outer s H E) rfl
  have hl__law_same : k ≤ k := Nat.le_refl k
  exact (dss_cons (ds_if (dt_val (de_isi T.z_isinstance T.z_list bt_list (de_var 1)))
    (dss_one (ds_if (dt_w (dw_or (dt_not (dt_val (de_isi T.z_isinstance T.z_list bt_list (de_var 0)))) (dw_or1 (dt_ne hr (de_callB rlen call_lenD T.z_len bt_len (da_cons (de_var 0) da_nil)) (de_callB rlen call_lenD T.z_len bt_len (da_cons (de_var 1) da_nil))))))
    (dss_one (ds_ret de_bool))
    dss_nil))
    (dss_one (ds_if (dt_val (de_isi T.z_isinstance T.z_tuple bt_tuple (de_var 1)))
    (dss_one (ds_if (dt_w (dw_or (dt_not (dt_val (de_isi T.z_isinstance T.z_tuple bt_tuple (de_var 0)))) (dw_or1 (dt_ne hr (de_callB rlen call_lenD T.z_len bt_len (da_cons (de_var 0) da_nil)) (de_callB rlen call_lenD T.z_len bt_len (da_cons (de_var 1) da_nil))))))
    (dss_one (ds_ret de_bool))
    dss_nil))
    (dss_one (ds_if (dt_is hr (de_var 1) de_none)
    (dss_one (ds_ret (de_is hr (de_var 0) de_none)))
    (dss_one (ds_if (dt_val (de_isi T.z_isinstance T.z_bool bt_bool (de_var 1)))
    (dss_one (ds_ret (de_and (de_isi T.z_isinstance T.z_bool bt_bool (de_var 0)) (de_one (de_eq hr (de_var 0) (de_var 1))))))
    (dss_one (ds_if (dt_val (de_isi T.z_isinstance T.z_int bt_int (de_var 1)))
    (dss_one (ds_ret (de_and (de_isi T.z_isinstance T.z_int bt_int (de_var 0)) (de_and (de_not (de_isi T.z_isinstance T.z_bool bt_bool (de_var 0))) (de_one (de_eq hr (de_var 0) (de_var 1)))))))
    (dss_one (ds_ret (de_and (de_isi T.z_isinstance T.z_str bt_str (de_var 0)) (de_one (de_eq hr (de_var 0) (de_var 1)))))))))))))))
    (dss_cons (ds_for hp (di_range1 T.z_range (da_cons (de_callB rlen call_lenD T.z_len bt_len (da_cons (de_var 1) da_nil)) da_nil)) (dg_name 2 sc__law_same.nd)
    (dss_one (ds_if (dt_not (dt_val (de_call c__law_same (hr.mono hl__law_same) tk (da_cons (de_ix (de_var 0) (de_var 2)) (da_cons (de_ix (de_var 1) (de_var 2)) da_nil)))))
    (dss_one (ds_ret de_bool))
    dss_nil)))
    (dss_one (ds_ret de_bool))))
theorem c__law_same {f : Addr} {fd : FuncData} (T : Tx K mg) (Fu : Fun K "_law_same" "_law_same" s__law_same f fd) (hm : mg "_law_same" = some (.ref f)) (hb : Binds K fd P__law_same [])  : ∀ k : Nat, Cal P w K mg base (k + 0) "_law_same" P__law_same (spD K mg (F__law_same k))
  | 0 => (cal_no Fu hm hb).up (Nat.zero_le _)
  | k + 1 => .mk' Fu hm hb ((w__law_same T Fu (c__law_same T Fu hm hb  k)  (by omega)).mono (by omega))
def m__law_number : MS :=
    (seqS (setS 1 (m3S slD (rd 0) (someP (cD intT (consA (m2 eqD (m3S slD (rd 0) (someP (cI 0)) (someP (cI 1))) (cS "-")) nilA))) noP))
    (seqS (ifS (orB (mB (m2 ltD (cD lenD (consA (rd 1) nilA)) (cI 1))) (orB (mB (m2 gtD (cD lenD (consA (rd 1) nilA)) (cI 30))) (mB (m2 gtD (cD lenD (consA (asL (lcF (seqM (rd 1)) (gN 2) (mB (m2 (inD true) (rd 2) (cS "0123456789"))) (rd 2) [2])) nilA)) (cI 0)))))
    (retS cN)
    .nx)
    (seqS (ifS (andB (mB (m2 eqD (m2 ixD (rd 1) (cI 0)) (cS "0"))) (mB (m2 neD (rd 0) (cS "0"))))
    (retS cN)
    .nx)
    (seqS (ifS (mB (m2 eqD (m2 ixD (rd 0) (cI 0)) (cS "-")))
    (retS (m2 subD (cI 0) (cD intT (consA (rd 1) nilA))))
    .nx)
    (retS (cD intT (consA (rd 1) nilA)))))))
def F__law_number : FD := runD 1 3 m__law_number
theorem w__law_number {f : Addr} {fd : FuncData} (T : Tx K mg) (Fu : Fun K "_law_number" "_law_number" s__law_number f fd)  : FnOk P w K mg base (L2.CX P w) 1 f fd P__law_number (spD K mg F__law_number) := by
  refine fun_D (k := 0) (N := N__law_number) (ps := P__law_number) (m := m__law_number) Fu sc__law_number fun cdv A outer s H E hr => ?_
  have tk : Takes (cxOf (L2.CX P w) P w K mg base N__law_number "_law_number" (defScope s__law_number) f cdv A outer s H E) (wE E) := takes_of rfl rfl rfl rfl
  have hp := passes_of (X := cxOf (L2.CX P w) P w K mg base N__law_number "_law_number" (defScope s__law_number) f cdv A outer s H E) rfl
  exact (dss_cons (ds_set 1 sc__law_number.nd (de_sl (de_var 0) (do_some (de_callT cr_intT call_intT T.z_int bt_int (da_cons (de_eq hr (de_sl (de_var 0) (do_some de_int) (do_some de_int)) de_str) da_nil))) do_none))
    (dss_cons (ds_if (dt_w (dw_or (dt_lt hr (de_callB rlen call_lenD T.z_len bt_len (da_cons (de_var 1) da_nil)) de_int) (dw_or (dt_gt hr (de_callB rlen call_lenD T.z_len bt_len (da_cons (de_var 1) da_nil)) de_int) (dw_or1 (dt_gt hr (de_callB rlen call_lenD T.z_len bt_len (da_cons (de_fr (df_lc (own := [("sign", 2)]) sc__law_number.nd (di_seq (de_var 1)) (blkB N__law_number (defScope s__law_number) (by decide +kernel)) (fun _ _ _ _ _ => (dg_name 2 sc__law_number.nd)) (fun _ _ _ _ _ => (pts_one (dt_notin hr (de_var 2) de_str))) (fun _ _ _ _ _ => (de_var 2)))) da_nil)) de_int)))))
    (dss_one (ds_ret de_none))
    dss_nil)
    (dss_cons (ds_if (dt_w (dw_and (dt_eq hr (de_ix (de_var 1) de_int) de_str) (dw_and1 (dt_ne hr (de_var 0) de_str))))
    (dss_one (ds_ret de_none))
    dss_nil)
    (dss_cons (ds_if (dt_eq hr (de_ix (de_var 0) de_int) de_str)
    (dss_one (ds_ret (de_sub de_int (de_callT cr_intT call_intT T.z_int bt_int (da_cons (de_var 1) da_nil)))))
    dss_nil)
    (dss_one (ds_ret (de_callT cr_intT call_intT T.z_int bt_int (da_cons (de_var 1) da_nil))))))))
def m__law_fraction_in : MS :=
    (seqS (setLS 1 (lcF (seqM (asL (strM splitO (rd 0) (cS "/")))) (gN 2) yesB (cD F__law_number (consA (rd 2) nilA)) [2]))
    (seqS (ifS (orB (mB (m2 (inD false) cN (rd 1))) (mB (m2 gtD (cD lenD (consA (rd 1) nilA)) (cI 2))))
    (retS cN)
    .nx)
    (seqS (ifS (mB (m2 eqD (cD lenD (consA (rd 1) nilA)) (cI 1)))
    (retS (tupD (consA (m2 ixD (rd 1) (cI 0)) (consA (cI 1) nilA))))
    .nx)
    (seqS (ifS (orB (mB (m2 ltD (m2 ixD (rd 1) (cI 1)) (cI 2))) (mB (m2 neD (cD F__law_common (consA (m2 ixD (rd 1) (cI 0)) (consA (m2 ixD (rd 1) (cI 1)) nilA))) (cI 1))))
    (retS cN)
    .nx)
    (retS (tupD (consA (m2 ixD (rd 1) (cI 0)) (consA (m2 ixD (rd 1) (cI 1)) nilA))))))))
def F__law_fraction_in : FD := runD 1 3 m__law_fraction_in
theorem w__law_fraction_in {f : Addr} {fd : FuncData} (T : Tx K mg) (Fu : Fun K "_law_fraction_in" "_law_fraction_in" s__law_fraction_in f fd) (c__law_number : Cal P w K mg base 1 "_law_number" P__law_number (spD K mg F__law_number)) (c__law_common : Cal P w K mg base 1 "_law_common" P__law_common (spD K mg F__law_common)) : FnOk P w K mg base (L2.CX P w) 2 f fd P__law_fraction_in (spD K mg F__law_fraction_in) := by
  refine fun_D (k := 1) (N := N__law_fraction_in) (ps := P__law_fraction_in) (m := m__law_fraction_in) Fu sc__law_fraction_in fun cdv A outer s H E hr => ?_
  have tk : Takes (cxOf (L2.CX P w) P w K mg base N__law_fraction_in "_law_fraction_in" (defScope s__law_fraction_in) f cdv A outer s H E) (wE E) := takes_of rfl rfl rfl rfl
  have hp := passes_of (X := cxOf (L2.CX P w) P w K mg base N__law_fraction_in "_law_fraction_in" (defScope s__law_fraction_in) f cdv A outer s H E) rfl
  have hl__law_number : 1 ≤ 1 := by decide
  have hl__law_common : 1 ≤ 1 := by decide
  exact (dss_cons (setL_of (ds_setLc 1 sc__law_fraction_in.nd (own := [("part", 2)]) (di_seq (de_fr (df_split (de_var 0) de_str))) (blkB N__law_fraction_in (defScope s__law_fraction_in) (by decide +kernel)) (fun _ _ _ _ _ => (dg_name 2 sc__law_fraction_in.nd)) (fun _ _ _ _ _ => dts_nil) (fun _ _ _ _ _ => (de_call c__law_number (hr.mono hl__law_number) takes0 (da_cons (de_var 2) da_nil))) (sw_true rfl rfl rfl (by decide +kernel))))
    (dss_cons (ds_if (dt_w (dw_or (dt_in hr de_none (de_var 1)) (dw_or1 (dt_gt hr (de_callB rlen call_lenD T.z_len bt_len (da_cons (de_var 1) da_nil)) de_int))))
    (dss_one (ds_ret de_none))
    dss_nil)
    (dss_cons (ds_if (dt_eq hr (de_callB rlen call_lenD T.z_len bt_len (da_cons (de_var 1) da_nil)) de_int)
    (dss_one (ds_ret (de_tup (da_cons (de_ix (de_var 1) de_int) (da_cons de_int da_nil)))))
    dss_nil)
    (dss_cons (ds_if (dt_w (dw_or (dt_lt hr (de_ix (de_var 1) de_int) de_int) (dw_or1 (dt_ne hr (de_call c__law_common (hr.mono hl__law_common) tk (da_cons (de_ix (de_var 1) de_int) (da_cons (de_ix (de_var 1) de_int) da_nil))) de_int))))
    (dss_one (ds_ret de_none))
    dss_nil)
    (dss_one (ds_ret (de_tup (da_cons (de_ix (de_var 1) de_int) (da_cons (de_ix (de_var 1) de_int) da_nil)))))))))
def m__law_fraction_text : MS :=
    (seqS (ifS (mB (m2 eqD (m2 ixD (rd 0) (cI 1)) (cI 1)))
    (retS (cD strD (consA (m2 ixD (rd 0) (cI 0)) nilA)))
    .nx)
    (retS (m2 addD (m2 addD (cD strD (consA (m2 ixD (rd 0) (cI 0)) nilA)) (cS "/")) (cD strD (consA (m2 ixD (rd 0) (cI 1)) nilA)))))
def F__law_fraction_text : FD := runD 1 1 m__law_fraction_text
theorem w__law_fraction_text {f : Addr} {fd : FuncData} (T : Tx K mg) (Fu : Fun K "_law_fraction_text" "_law_fraction_text" s__law_fraction_text f fd)  : FnOk P w K mg base (L2.CX P w) 1 f fd P__law_fraction_text (spD K mg F__law_fraction_text) := by
  refine fun_D (k := 0) (N := N__law_fraction_text) (ps := P__law_fraction_text) (m := m__law_fraction_text) Fu sc__law_fraction_text fun cdv A outer s H E hr => ?_
  have tk : Takes (cxOf (L2.CX P w) P w K mg base N__law_fraction_text "_law_fraction_text" (defScope s__law_fraction_text) f cdv A outer s H E) (wE E) := takes_of rfl rfl rfl rfl
  have hp := passes_of (X := cxOf (L2.CX P w) P w K mg base N__law_fraction_text "_law_fraction_text" (defScope s__law_fraction_text) f cdv A outer s H E) rfl
  exact (dss_cons (ds_if (dt_eq hr (de_ix (de_var 0) de_int) de_int)
    (dss_one (ds_ret (de_callT call_str_int call_strD T.z_str bt_str (da_cons (de_ix (de_var 0) de_int) da_nil))))
    dss_nil)
    (dss_one (ds_ret (de_add (de_add (de_callT call_str_int call_strD T.z_str bt_str (da_cons (de_ix (de_var 0) de_int) da_nil)) de_str) (de_callT call_str_int call_strD T.z_str bt_str (da_cons (de_ix (de_var 0) de_int) da_nil))))))
def m__law_lines_in : MS :=
    (seqS (ifS (orB (mB (m2 eqD (rd 0) (cS ""))) (mB (m2 neD (m2 ixD (rd 0) (m2 subD (cD lenD (consA (rd 0) nilA)) (cI 1))) (cS "\n"))))
    (retS cN)
    .nx)
    (retS (asL (strM splitO (m3S slD (rd 0) (someP (cI 0)) (someP (m2 subD (cD lenD (consA (rd 0) nilA)) (cI 1)))) (cS "\n")))))
def F__law_lines_in : FD := runD 1 1 m__law_lines_in
theorem w__law_lines_in {f : Addr} {fd : FuncData} (T : Tx K mg) (Fu : Fun K "_law_lines_in" "_law_lines_in" s__law_lines_in f fd)  : FnOk P w K mg base (L2.CX P w) 1 f fd P__law_lines_in (spD K mg F__law_lines_in) := by
  refine fun_D (k := 0) (N := N__law_lines_in) (ps := P__law_lines_in) (m := m__law_lines_in) Fu sc__law_lines_in fun cdv A outer s H E hr => ?_
  have tk : Takes (cxOf (L2.CX P w) P w K mg base N__law_lines_in "_law_lines_in" (defScope s__law_lines_in) f cdv A outer s H E) (wE E) := takes_of rfl rfl rfl rfl
  have hp := passes_of (X := cxOf (L2.CX P w) P w K mg base N__law_lines_in "_law_lines_in" (defScope s__law_lines_in) f cdv A outer s H E) rfl
  exact (dss_cons (ds_if (dt_w (dw_or (dt_eq hr (de_var 0) de_str) (dw_or1 (dt_ne hr (de_ix (de_var 0) (de_sub (de_callB rlen call_lenD T.z_len bt_len (da_cons (de_var 0) da_nil)) de_int)) de_str))))
    (dss_one (ds_ret de_none))
    dss_nil)
    (dss_one (ds_ret (de_fr (df_split (de_sl (de_var 0) (do_some de_int) (do_some (de_sub (de_callB rlen call_lenD T.z_len bt_len (da_cons (de_var 0) da_nil)) de_int))) de_str)))))
def m__law_numbers_in : MS :=
    (seqS (setS 2 (asL (strM splitO (rd 0) (cS " "))))
    (seqS (setLS 3 (lcF (seqM (m3S slD (rd 2) (someP (cI 1)) noP)) (gN 4) yesB (cD F__law_number (consA (rd 4) nilA)) [4]))
    (seqS (ifS (orB (mB (m2 neD (m2 ixD (rd 2) (cI 0)) (rd 1))) (mB (m2 (inD false) cN (rd 3))))
    (retS cN)
    .nx)
    (retS (rd 3)))))
def F__law_numbers_in : FD := runD 2 5 m__law_numbers_in
theorem w__law_numbers_in {f : Addr} {fd : FuncData} (T : Tx K mg) (Fu : Fun K "_law_numbers_in" "_law_numbers_in" s__law_numbers_in f fd) (c__law_number : Cal P w K mg base 1 "_law_number" P__law_number (spD K mg F__law_number)) : FnOk P w K mg base (L2.CX P w) 2 f fd P__law_numbers_in (spD K mg F__law_numbers_in) := by
  refine fun_D (k := 1) (N := N__law_numbers_in) (ps := P__law_numbers_in) (m := m__law_numbers_in) Fu sc__law_numbers_in fun cdv A outer s H E hr => ?_
  have tk : Takes (cxOf (L2.CX P w) P w K mg base N__law_numbers_in "_law_numbers_in" (defScope s__law_numbers_in) f cdv A outer s H E) (wE E) := takes_of rfl rfl rfl rfl
  have hp := passes_of (X := cxOf (L2.CX P w) P w K mg base N__law_numbers_in "_law_numbers_in" (defScope s__law_numbers_in) f cdv A outer s H E) rfl
  have hl__law_number : 1 ≤ 1 := by decide
  exact (dss_cons (ds_set 2 sc__law_numbers_in.nd (de_fr (df_split (de_var 0) de_str)))
    (dss_cons (setL_of (ds_setLc 3 sc__law_numbers_in.nd (own := [("other", 4)]) (di_seq (de_sl (de_var 2) (do_some de_int) do_none)) (blkB N__law_numbers_in (defScope s__law_numbers_in) (by decide +kernel)) (fun _ _ _ _ _ => (dg_name 4 sc__law_numbers_in.nd)) (fun _ _ _ _ _ => dts_nil) (fun _ _ _ _ _ => (de_call c__law_number (hr.mono hl__law_number) takes0 (da_cons (de_var 4) da_nil))) (sw_true rfl rfl rfl (by decide +kernel))))
    (dss_cons (ds_if (dt_w (dw_or (dt_ne hr (de_ix (de_var 2) de_int) (de_var 1)) (dw_or1 (dt_in hr de_none (de_var 3)))))
    (dss_one (ds_ret de_none))
    dss_nil)
    (dss_one (ds_ret (de_var 3))))))
def m__law_text : MS :=
    (retS (m2 addD (strM joinO (cS " ") (m2 addD (asL (lstF (consA (rd 0) nilA))) (asL (lcF (seqM (rd 1)) (gN 2) yesB (cD strD (consA (rd 2) nilA)) [2])))) (cS "\n")))
def F__law_text : FD := runD 2 3 m__law_text
theorem w__law_text {f : Addr} {fd : FuncData} (T : Tx K mg) (Fu : Fun K "_law_text" "_law_text" s__law_text f fd)  : FnOk P w K mg base (L2.CX P w) 1 f fd P__law_text (spD K mg F__law_text) := by
  refine fun_D (k := 0) (N := N__law_text) (ps := P__law_text) (m := m__law_text) Fu sc__law_text fun cdv A outer s H E hr => ?_
  have tk : Takes (cxOf (L2.CX P w) P w K mg base N__law_text "_law_text" (defScope s__law_text) f cdv A outer s H E) (wE E) := takes_of rfl rfl rfl rfl
  have hp := passes_of (X := cxOf (L2.CX P w) P w K mg base N__law_text "_law_text" (defScope s__law_text) f cdv A outer s H E) rfl
  exact (dss_one (ds_ret (de_add (de_join de_str (de_add (de_fr (df_lst (da_cons (de_var 0) da_nil))) (de_fr (df_lc (own := [("item", 2)]) sc__law_text.nd (di_seq (de_var 1)) (blkB N__law_text (defScope s__law_text) (by decide +kernel)) (fun _ _ _ _ _ => (dg_name 2 sc__law_text.nd)) (fun _ _ _ _ _ => dts_nil) (fun _ _ _ _ _ => (de_callT call_str_int call_strD T.z_str bt_str (da_cons (de_var 2) da_nil))))))) de_str)))
def m__law_field_text : MS :=
    (retS (m2 addD (cD F__law_text (consA (cS "field") (consA (asL (lstF (consA (cD lenD (consA (rd 0) nilA)) nilA))) nilA))) (strM joinO (cS "") (asL (lcF (seqM (rd 0)) (gN 1) yesB (cD F__law_text (consA (cS "stone") (consA (rd 1) nilA))) [1])))))
def F__law_field_text : FD := runD 1 2 m__law_field_text
theorem w__law_field_text {f : Addr} {fd : FuncData} (T : Tx K mg) (Fu : Fun K "_law_field_text" "_law_field_text" s__law_field_text f fd) (c__law_text : Cal P w K mg base 1 "_law_text" P__law_text (spD K mg F__law_text)) : FnOk P w K mg base (L2.CX P w) 2 f fd P__law_field_text (spD K mg F__law_field_text) := by
  refine fun_D (k := 1) (N := N__law_field_text) (ps := P__law_field_text) (m := m__law_field_text) Fu sc__law_field_text fun cdv A outer s H E hr => ?_
  have tk : Takes (cxOf (L2.CX P w) P w K mg base N__law_field_text "_law_field_text" (defScope s__law_field_text) f cdv A outer s H E) (wE E) := takes_of rfl rfl rfl rfl
  have hp := passes_of (X := cxOf (L2.CX P w) P w K mg base N__law_field_text "_law_field_text" (defScope s__law_field_text) f cdv A outer s H E) rfl
  have hl__law_text : 1 ≤ 1 := by decide
  exact (dss_one (ds_ret (de_add (de_call c__law_text (hr.mono hl__law_text) tk (da_cons de_str (da_cons (de_fr (df_lst (da_cons (de_callB rlen call_lenD T.z_len bt_len (da_cons (de_var 0) da_nil)) da_nil))) da_nil))) (de_join de_str (de_fr (df_lc (own := [("stone", 1)]) sc__law_field_text.nd (di_seq (de_var 0)) (blkB N__law_field_text (defScope s__law_field_text) (by decide +kernel)) (fun _ _ _ _ _ => (dg_name 1 sc__law_field_text.nd)) (fun _ _ _ _ _ => dts_nil) (fun _ _ _ _ _ => (de_call c__law_text (hr.mono hl__law_text) takes0 (da_cons de_str (da_cons (de_var 1) da_nil))))))))))
def m__law_land_text : MS :=
    (retS (m2 addD (cD F__law_text (consA (cS "land") (consA (asL (lstF (consA (cD lenD (consA (rd 0) nilA)) nilA))) nilA))) (strM joinO (cS "") (asL (lcF (seqM (rd 0)) (gN 1) yesB (cD F__law_field_text (consA (rd 1) nilA)) [1])))))
def F__law_land_text : FD := runD 1 2 m__law_land_text
theorem w__law_land_text {f : Addr} {fd : FuncData} (T : Tx K mg) (Fu : Fun K "_law_land_text" "_law_land_text" s__law_land_text f fd) (c__law_text : Cal P w K mg base 1 "_law_text" P__law_text (spD K mg F__law_text)) (c__law_field_text : Cal P w K mg base 2 "_law_field_text" P__law_field_text (spD K mg F__law_field_text)) : FnOk P w K mg base (L2.CX P w) 3 f fd P__law_land_text (spD K mg F__law_land_text) := by
  refine fun_D (k := 2) (N := N__law_land_text) (ps := P__law_land_text) (m := m__law_land_text) Fu sc__law_land_text fun cdv A outer s H E hr => ?_
  have tk : Takes (cxOf (L2.CX P w) P w K mg base N__law_land_text "_law_land_text" (defScope s__law_land_text) f cdv A outer s H E) (wE E) := takes_of rfl rfl rfl rfl
  have hp := passes_of (X := cxOf (L2.CX P w) P w K mg base N__law_land_text "_law_land_text" (defScope s__law_land_text) f cdv A outer s H E) rfl
  have hl__law_text : 1 ≤ 2 := by decide
  have hl__law_field_text : 2 ≤ 2 := by decide
  exact (dss_one (ds_ret (de_add (de_call c__law_text (hr.mono hl__law_text) tk (da_cons de_str (da_cons (de_fr (df_lst (da_cons (de_callB rlen call_lenD T.z_len bt_len (da_cons (de_var 0) da_nil)) da_nil))) da_nil))) (de_join de_str (de_fr (df_lc (own := [("field", 1)]) sc__law_land_text.nd (di_seq (de_var 0)) (blkB N__law_land_text (defScope s__law_land_text) (by decide +kernel)) (fun _ _ _ _ _ => (dg_name 1 sc__law_land_text.nd)) (fun _ _ _ _ _ => dts_nil) (fun _ _ _ _ _ => (de_call c__law_field_text (hr.mono hl__law_field_text) takes0 (da_cons (de_var 1) da_nil)))))))))
def m__law_field_in : MS :=
    (seqS (ifS (mB (m2 eqD (cD lenD (consA (rd 0) nilA)) (cI 0)))
    (retS cN)
    .nx)
    (seqS (setS 1 (cD F__law_numbers_in (consA (m2 ixD (rd 0) (cI 0)) (consA (cS "field") nilA))))
    (seqS (ifS (orB (mB (m2 isND (rd 1) cN)) (orB (mB (m2 neD (cD lenD (consA (rd 1) nilA)) (cI 1))) (orB (mB (m2 ltD (m2 ixD (rd 1) (cI 0)) (cI 1))) (orB (mB (m2 gtD (m2 ixD (rd 1) (cI 0)) (cI 12))) (mB (m2 geD (m2 ixD (rd 1) (cI 0)) (cD lenD (consA (rd 0) nilA))))))))
    (retS cN)
    .nx)
    (seqS (setFS 2 (lstF nilA))
    (seqS (forS (seqM (m3S slD (rd 0) (someP (cI 1)) (someP (m2 addD (m2 ixD (rd 1) (cI 0)) (cI 1))))) (gN 3)
    (seqS (setS 4 (cD F__law_numbers_in (consA (rd 3) (consA (cS "stone") nilA))))
    (seqS (ifS (orB (mB (m2 isND (rd 4) cN)) (orB (mB (m2 neD (cD lenD (consA (rd 4) nilA)) (cI 2))) (orB (mB (m2 ltD (cD minG (consA (rd 4) nilA)) (m1 negD (cI 1000)))) (mB (m2 gtD (cD maxG (consA (rd 4) nilA)) (cI 1000))))))
    (retS cN)
    .nx)
    (appS 2 (tupD (consA (m2 ixD (rd 4) (cI 0)) (consA (m2 ixD (rd 4) (cI 1)) nilA)))))))
    (frzS [2] (retS (tupD (consA (rd 2) (consA (m3S slD (rd 0) (someP (m2 addD (m2 ixD (rd 1) (cI 0)) (cI 1))) noP) nilA))))))))))
def F__law_field_in : FD := runD 1 5 m__law_field_in
theorem w__law_field_in {f : Addr} {fd : FuncData} (T : Tx K mg) (Fu : Fun K "_law_field_in" "_law_field_in" s__law_field_in f fd) (c__law_numbers_in : Cal P w K mg base 2 "_law_numbers_in" P__law_numbers_in (spD K mg F__law_numbers_in)) : FnOk P w K mg base (L2.CX P w) 3 f fd P__law_field_in (spD K mg F__law_field_in) := by
  refine fun_D (k := 2) (N := N__law_field_in) (ps := P__law_field_in) (m := m__law_field_in) Fu sc__law_field_in fun cdv A outer s H E hr => ?_
  have tk : Takes (cxOf (L2.CX P w) P w K mg base N__law_field_in "_law_field_in" (defScope s__law_field_in) f cdv A outer s H E) (wE E) := takes_of rfl rfl rfl rfl
  have hp := passes_of (X := cxOf (L2.CX P w) P w K mg base N__law_field_in "_law_field_in" (defScope s__law_field_in) f cdv A outer s H E) rfl
  have hl__law_numbers_in : 2 ≤ 2 := by decide
  exact (dss_cons (ds_if (dt_eq hr (de_callB rlen call_lenD T.z_len bt_len (da_cons (de_var 0) da_nil)) de_int)
    (dss_one (ds_ret de_none))
    dss_nil)
    (dss_cons (ds_set 1 sc__law_field_in.nd (de_call c__law_numbers_in (hr.mono hl__law_numbers_in) tk (da_cons (de_ix (de_var 0) de_int) (da_cons de_str da_nil))))
    (dss_cons (ds_if (dt_w (dw_or (dt_is hr (de_var 1) de_none) (dw_or (dt_ne hr (de_callB rlen call_lenD T.z_len bt_len (da_cons (de_var 1) da_nil)) de_int) (dw_or (dt_lt hr (de_ix (de_var 1) de_int) de_int) (dw_or (dt_gt hr (de_ix (de_var 1) de_int) de_int) (dw_or1 (dt_ge hr (de_ix (de_var 1) de_int) (de_callB rlen call_lenD T.z_len bt_len (da_cons (de_var 0) da_nil)))))))))
    (dss_one (ds_ret de_none))
    dss_nil)
    (dss_cons (ds_setF 2 sc__law_field_in.nd (df_lst da_nil))
    (dss_cons (ds_for hp (di_seq (de_sl (de_var 0) (do_some de_int) (do_some (de_add (de_ix (de_var 1) de_int) de_int)))) (dg_name 3 sc__law_field_in.nd)
    (dss_cons (ds_set 4 sc__law_field_in.nd (de_call c__law_numbers_in (hr.mono hl__law_numbers_in) tk (da_cons (de_var 3) (da_cons de_str da_nil))))
    (dss_cons (ds_if (dt_w (dw_or (dt_is hr (de_var 4) de_none) (dw_or (dt_ne hr (de_callB rlen call_lenD T.z_len bt_len (da_cons (de_var 4) da_nil)) de_int) (dw_or (dt_lt hr (de_callB (rminG hr) call_minG T.z_min bt_min (da_cons (de_var 4) da_nil)) (de_neg de_int)) (dw_or1 (dt_gt hr (de_callB (rmaxG hr) call_maxG T.z_max bt_max (da_cons (de_var 4) da_nil)) de_int))))))
    (dss_one (ds_ret de_none))
    dss_nil)
    (dss_one (ds_app 2 (de_tup (da_cons (de_ix (de_var 4) de_int) (da_cons (de_ix (de_var 4) de_int) da_nil))))))))
    (dss_one (ds_frz [2] (ds_ret (de_tup (da_cons (de_var 2) (da_cons (de_sl (de_var 0) (do_some (de_add (de_ix (de_var 1) de_int) de_int)) do_none) da_nil)))))))))))
def m__law_read_field : MS :=
    (seqS (setS 1 (cD F__law_lines_in (consA (rd 0) nilA)))
    (seqS (ifS (mB (m2 isND (rd 1) cN))
    (retS cN)
    .nx)
    (seqS (setS 2 (cD F__law_field_in (consA (rd 1) nilA)))
    (seqS (ifS (orB (mB (m2 isND (rd 2) cN)) (mB (m2 gtD (cD lenD (consA (m2 ixD (rd 2) (cI 1)) nilA)) (cI 0))))
    (retS cN)
    .nx)
    (retS (m2 ixD (rd 2) (cI 0)))))))
def F__law_read_field : FD := runD 1 3 m__law_read_field
theorem w__law_read_field {f : Addr} {fd : FuncData} (T : Tx K mg) (Fu : Fun K "_law_read_field" "_law_read_field" s__law_read_field f fd) (c__law_lines_in : Cal P w K mg base 1 "_law_lines_in" P__law_lines_in (spD K mg F__law_lines_in)) (c__law_field_in : Cal P w K mg base 3 "_law_field_in" P__law_field_in (spD K mg F__law_field_in)) : FnOk P w K mg base (L2.CX P w) 4 f fd P__law_read_field (spD K mg F__law_read_field) := by
  refine fun_D (k := 3) (N := N__law_read_field) (ps := P__law_read_field) (m := m__law_read_field) Fu sc__law_read_field fun cdv A outer s H E hr => ?_
  have tk : Takes (cxOf (L2.CX P w) P w K mg base N__law_read_field "_law_read_field" (defScope s__law_read_field) f cdv A outer s H E) (wE E) := takes_of rfl rfl rfl rfl
  have hp := passes_of (X := cxOf (L2.CX P w) P w K mg base N__law_read_field "_law_read_field" (defScope s__law_read_field) f cdv A outer s H E) rfl
  have hl__law_lines_in : 1 ≤ 3 := by decide
  have hl__law_field_in : 3 ≤ 3 := by decide
  exact (dss_cons (ds_set 1 sc__law_read_field.nd (de_call c__law_lines_in (hr.mono hl__law_lines_in) tk (da_cons (de_var 0) da_nil)))
    (dss_cons (ds_if (dt_is hr (de_var 1) de_none)
    (dss_one (ds_ret de_none))
    dss_nil)
    (dss_cons (ds_set 2 sc__law_read_field.nd (de_call c__law_field_in (hr.mono hl__law_field_in) tk (da_cons (de_var 1) da_nil)))
    (dss_cons (ds_if (dt_w (dw_or (dt_is hr (de_var 2) de_none) (dw_or1 (dt_gt hr (de_callB rlen call_lenD T.z_len bt_len (da_cons (de_ix (de_var 2) de_int) da_nil)) de_int))))
    (dss_one (ds_ret de_none))
    dss_nil)
    (dss_one (ds_ret (de_ix (de_var 2) de_int)))))))
def m__law_read_land : MS :=
    (seqS (setS 1 (cD F__law_lines_in (consA (rd 0) nilA)))
    (seqS (ifS (mB (m2 isND (rd 1) cN))
    (retS cN)
    .nx)
    (seqS (setS 2 (cD F__law_numbers_in (consA (m2 ixD (rd 1) (cI 0)) (consA (cS "land") nilA))))
    (seqS (ifS (orB (mB (m2 isND (rd 2) cN)) (orB (mB (m2 neD (cD lenD (consA (rd 2) nilA)) (cI 1))) (orB (mB (m2 ltD (m2 ixD (rd 2) (cI 0)) (cI 1))) (mB (m2 gtD (m2 ixD (rd 2) (cI 0)) (cI 8))))))
    (retS cN)
    .nx)
    (seqS (setFS 3 (lstF nilA))
    (seqS (setS 4 (m3S slD (rd 1) (someP (cI 1)) noP))
    (seqS (forS (cF rng1 (consA (m2 ixD (rd 2) (cI 0)) nilA)) (gN 5)
    (seqS (setS 6 (cD F__law_field_in (consA (rd 4) nilA)))
    (seqS (ifS (mB (m2 isND (rd 6) cN))
    (retS cN)
    .nx)
    (seqS (appS 3 (m2 ixD (rd 6) (cI 0)))
    (setS 4 (m2 ixD (rd 6) (cI 1)))))))
    (seqS (ifS (mB (m2 gtD (cD lenD (consA (rd 4) nilA)) (cI 0)))
    (retS cN)
    .nx)
    (retO 3)))))))))
def F__law_read_land : FD := runD 1 7 m__law_read_land
theorem w__law_read_land {f : Addr} {fd : FuncData} (T : Tx K mg) (Fu : Fun K "_law_read_land" "_law_read_land" s__law_read_land f fd) (c__law_lines_in : Cal P w K mg base 1 "_law_lines_in" P__law_lines_in (spD K mg F__law_lines_in)) (c__law_numbers_in : Cal P w K mg base 2 "_law_numbers_in" P__law_numbers_in (spD K mg F__law_numbers_in)) (c__law_field_in : Cal P w K mg base 3 "_law_field_in" P__law_field_in (spD K mg F__law_field_in)) : FnOk P w K mg base (L2.CX P w) 4 f fd P__law_read_land (spD K mg F__law_read_land) := by
  refine fun_D (k := 3) (N := N__law_read_land) (ps := P__law_read_land) (m := m__law_read_land) Fu sc__law_read_land fun cdv A outer s H E hr => ?_
  have tk : Takes (cxOf (L2.CX P w) P w K mg base N__law_read_land "_law_read_land" (defScope s__law_read_land) f cdv A outer s H E) (wE E) := takes_of rfl rfl rfl rfl
  have hp := passes_of (X := cxOf (L2.CX P w) P w K mg base N__law_read_land "_law_read_land" (defScope s__law_read_land) f cdv A outer s H E) rfl
  have hl__law_lines_in : 1 ≤ 3 := by decide
  have hl__law_numbers_in : 2 ≤ 3 := by decide
  have hl__law_field_in : 3 ≤ 3 := by decide
  exact (dss_cons (ds_set 1 sc__law_read_land.nd (de_call c__law_lines_in (hr.mono hl__law_lines_in) tk (da_cons (de_var 0) da_nil)))
    (dss_cons (ds_if (dt_is hr (de_var 1) de_none)
    (dss_one (ds_ret de_none))
    dss_nil)
    (dss_cons (ds_set 2 sc__law_read_land.nd (de_call c__law_numbers_in (hr.mono hl__law_numbers_in) tk (da_cons (de_ix (de_var 1) de_int) (da_cons de_str da_nil))))
    (dss_cons (ds_if (dt_w (dw_or (dt_is hr (de_var 2) de_none) (dw_or (dt_ne hr (de_callB rlen call_lenD T.z_len bt_len (da_cons (de_var 2) da_nil)) de_int) (dw_or (dt_lt hr (de_ix (de_var 2) de_int) de_int) (dw_or1 (dt_gt hr (de_ix (de_var 2) de_int) de_int))))))
    (dss_one (ds_ret de_none))
    dss_nil)
    (dss_cons (ds_setF 3 sc__law_read_land.nd (df_lst da_nil))
    (dss_cons (ds_set 4 sc__law_read_land.nd (de_sl (de_var 1) (do_some de_int) do_none))
    (dss_cons (ds_for hp (di_range1 T.z_range (da_cons (de_ix (de_var 2) de_int) da_nil)) (dg_name 5 sc__law_read_land.nd)
    (dss_cons (ds_set 6 sc__law_read_land.nd (de_call c__law_field_in (hr.mono hl__law_field_in) tk (da_cons (de_var 4) da_nil)))
    (dss_cons (ds_if (dt_is hr (de_var 6) de_none)
    (dss_one (ds_ret de_none))
    dss_nil)
    (dss_cons (ds_app 3 (de_ix (de_var 6) de_int))
    (dss_one (ds_set 4 sc__law_read_land.nd (de_ix (de_var 6) de_int)))))))
    (dss_cons (ds_if (dt_gt hr (de_callB rlen call_lenD T.z_len bt_len (da_cons (de_var 4) da_nil)) de_int)
    (dss_one (ds_ret de_none))
    dss_nil)
    (dss_one (ds_retO 3))))))))))
def m__law_bent_string : MS :=
    (seqS (setS 3 (cS "0123456789 \n-/abfilnostu"))
    (seqS (setS 4 (m2 modD (m2 ixD (rd 1) (rd 2)) (m2 addD (cD lenD (consA (rd 0) nilA)) (cI 1))))
    (seqS (setS 5 (m2 ixD (rd 3) (m2 modD (m2 ixD (rd 1) (m2 addD (rd 2) (cI 1))) (cD lenD (consA (rd 3) nilA)))))
    (seqS (setS 6 (m2 modD (m2 ixD (rd 1) (m2 addD (rd 2) (cI 2))) (cI 8)))
    (seqS (ifS (mB (m2 eqD (rd 6) (cI 0)))
    (retS (m2 addD (m3S slD (rd 0) (someP (cI 0)) (someP (rd 4))) (m3S slD (rd 0) (someP (m2 addD (rd 4) (cI 1))) noP)))
    .nx)
    (seqS (ifS (mB (m2 eqD (rd 6) (cI 1)))
    (retS (m2 addD (m2 addD (m3S slD (rd 0) (someP (cI 0)) (someP (rd 4))) (rd 5)) (m3S slD (rd 0) (someP (m2 addD (rd 4) (cI 1))) noP)))
    .nx)
    (seqS (ifS (mB (m2 eqD (rd 6) (cI 2)))
    (retS (m3S slD (rd 0) (someP (cI 0)) (someP (rd 4))))
    .nx)
    (seqS (ifS (mB (m2 eqD (rd 6) (cI 3)))
    (retS (m2 addD (rd 0) (rd 5)))
    .nx)
    (seqS (ifS (mB (m2 eqD (rd 6) (cI 4)))
    (retS (m2 addD (rd 5) (rd 0)))
    .nx)
    (seqS (ifS (mB (m2 eqD (rd 6) (cI 5)))
    (retS (m2 addD (m3S slD (rd 0) (someP (cI 0)) (someP (rd 4))) (m3S slD (rd 0) (someP (m2 modD (m2 ixD (rd 1) (m2 addD (rd 2) (cI 1))) (m2 addD (cD lenD (consA (rd 0) nilA)) (cI 1)))) noP)))
    .nx)
    (seqS (ifS (mB (m2 eqD (rd 6) (cI 6)))
    (retS (m2 addD (m2 addD (m3S slD (rd 0) (someP (cI 0)) (someP (rd 4))) (m2 ixD (asL (lstF (consA (cS " 0") (consA (cS " 12") (consA (cS "\n") (consA (cS "stone 1 2\n") (consA (cS "field 1\n") (consA (cS "/2") (consA (cS "-") (consA (cS "  ") nilA)))))))))) (m2 modD (m2 ixD (rd 1) (m2 addD (rd 2) (cI 1))) (cI 8)))) (m3S slD (rd 0) (someP (rd 4)) noP)))
    .nx)
    (retS (m2 addD (m2 addD (m3S slD (rd 0) (someP (cI 0)) (someP (rd 4))) (rd 5)) (m3S slD (rd 0) (someP (rd 4)) noP))))))))))))))
def F__law_bent_string : FD := runD 3 7 m__law_bent_string
theorem w__law_bent_string {f : Addr} {fd : FuncData} (T : Tx K mg) (Fu : Fun K "_law_bent_string" "_law_bent_string" s__law_bent_string f fd)  : FnOk P w K mg base (L2.CX P w) 1 f fd P__law_bent_string (spD K mg F__law_bent_string) := by
  refine fun_D (k := 0) (N := N__law_bent_string) (ps := P__law_bent_string) (m := m__law_bent_string) Fu sc__law_bent_string fun cdv A outer s H E hr => ?_
  have tk : Takes (cxOf (L2.CX P w) P w K mg base N__law_bent_string "_law_bent_string" (defScope s__law_bent_string) f cdv A outer s H E) (wE E) := takes_of rfl rfl rfl rfl
  have hp := passes_of (X := cxOf (L2.CX P w) P w K mg base N__law_bent_string "_law_bent_string" (defScope s__law_bent_string) f cdv A outer s H E) rfl
  exact (dss_cons (ds_set 3 sc__law_bent_string.nd de_str)
    (dss_cons (ds_set 4 sc__law_bent_string.nd (de_mod (de_ix (de_var 1) (de_var 2)) (de_add (de_callB rlen call_lenD T.z_len bt_len (da_cons (de_var 0) da_nil)) de_int)))
    (dss_cons (ds_set 5 sc__law_bent_string.nd (de_ix (de_var 3) (de_mod (de_ix (de_var 1) (de_add (de_var 2) de_int)) (de_callB rlen call_lenD T.z_len bt_len (da_cons (de_var 3) da_nil)))))
    (dss_cons (ds_set 6 sc__law_bent_string.nd (de_mod (de_ix (de_var 1) (de_add (de_var 2) de_int)) de_int))
    (dss_cons (ds_if (dt_eq hr (de_var 6) de_int)
    (dss_one (ds_ret (de_add (de_sl (de_var 0) (do_some de_int) (do_some (de_var 4))) (de_sl (de_var 0) (do_some (de_add (de_var 4) de_int)) do_none))))
    dss_nil)
    (dss_cons (ds_if (dt_eq hr (de_var 6) de_int)
    (dss_one (ds_ret (de_add (de_add (de_sl (de_var 0) (do_some de_int) (do_some (de_var 4))) (de_var 5)) (de_sl (de_var 0) (do_some (de_add (de_var 4) de_int)) do_none))))
    dss_nil)
    (dss_cons (ds_if (dt_eq hr (de_var 6) de_int)
    (dss_one (ds_ret (de_sl (de_var 0) (do_some de_int) (do_some (de_var 4)))))
    dss_nil)
    (dss_cons (ds_if (dt_eq hr (de_var 6) de_int)
    (dss_one (ds_ret (de_add (de_var 0) (de_var 5))))
    dss_nil)
    (dss_cons (ds_if (dt_eq hr (de_var 6) de_int)
    (dss_one (ds_ret (de_add (de_var 5) (de_var 0))))
    dss_nil)
    (dss_cons (ds_if (dt_eq hr (de_var 6) de_int)
    (dss_one (ds_ret (de_add (de_sl (de_var 0) (do_some de_int) (do_some (de_var 4))) (de_sl (de_var 0) (do_some (de_mod (de_ix (de_var 1) (de_add (de_var 2) de_int)) (de_add (de_callB rlen call_lenD T.z_len bt_len (da_cons (de_var 0) da_nil)) de_int))) do_none))))
    dss_nil)
    (dss_cons (ds_if (dt_eq hr (de_var 6) de_int)
    (dss_one (ds_ret (de_add (de_add (de_sl (de_var 0) (do_some de_int) (do_some (de_var 4))) (de_ix (de_fr (df_lst (da_cons de_str (da_cons de_str (da_cons de_str (da_cons de_str (da_cons de_str (da_cons de_str (da_cons de_str (da_cons de_str da_nil)))))))))) (de_mod (de_ix (de_var 1) (de_add (de_var 2) de_int)) de_int))) (de_sl (de_var 0) (do_some (de_var 4)) do_none))))
    dss_nil)
    (dss_one (ds_ret (de_add (de_add (de_sl (de_var 0) (do_some de_int) (do_some (de_var 4))) (de_var 5)) (de_sl (de_var 0) (do_some (de_var 4)) do_none)))))))))))))))
def m__law_told : MS :=
    (tryS "InvalidLine" 2 (.str "refused") (seqS (ifS (mB (m2 eqD (rd 0) (cI 0)))
    (retS (asL (lstF (consA (cD F_read_fraction (consA (rd 1) nilA)) nilA))))
    .nx)
    (seqS (ifS (mB (m2 eqD (rd 0) (cI 1)))
    (retS (asL (lstF (consA (asL (cF F_read_field (consA (rd 1) nilA))) nilA))))
    .nx)
    (retS (asL (lstF (consA (asL (cF F_read_land (consA (rd 1) nilA))) nilA)))))))
def F__law_told : FD := runD 2 3 m__law_told
theorem w__law_told {f : Addr} {fd : FuncData} (T : Tx K mg) (Fu : Fun K "_law_told" "_law_told" s__law_told f fd) (c_read_fraction : Cal P w K mg base 3 "read_fraction" P_read_fraction (spD K mg F_read_fraction)) (c_read_field : Cal P w K mg base 5 "read_field" P_read_field (spF K mg F_read_field)) (c_read_land : Cal P w K mg base 5 "read_land" P_read_land (spF K mg F_read_land)) : FnOk P w K mg base (L2.CX P w) 6 f fd P__law_told (spD K mg F__law_told) := by
  refine fun_D (k := 5) (N := N__law_told) (ps := P__law_told) (m := m__law_told) Fu sc__law_told fun cdv A outer s H E hr => ?_
  have tk : Takes (cxOf (L2.CX P w) P w K mg base N__law_told "_law_told" (defScope s__law_told) f cdv A outer s H E) (wE E) := takes_of rfl rfl rfl rfl
  have hp := passes_of (X := cxOf (L2.CX P w) P w K mg base N__law_told "_law_told" (defScope s__law_told) f cdv A outer s H E) rfl
  have hl_read_fraction : 3 ≤ 5 := by decide
  have hl_read_field : 5 ≤ 5 := by decide
  have hl_read_land : 5 ≤ 5 := by decide
  exact (dss_one (ds_try2 2 T.d_InvalidLine.choose_spec.choose_spec.choose_spec.choose_spec T.z_isinstance T.z_int sc__law_told.nd tk (fun W pn xe tk hp =>
    (dss_cons (ds_if (dt_eq hr (de_var 0) de_int)
    (dss_one (ds_ret (de_fr (df_lst (da_cons (de_call c_read_fraction (hr.mono hl_read_fraction) tk (da_cons (de_var 1) da_nil)) da_nil)))))
    dss_nil)
    (dss_cons (ds_if (dt_eq hr (de_var 0) de_int)
    (dss_one (ds_ret (de_fr (df_lst (da_cons (de_fr (df_call c_read_field (hr.mono hl_read_field) tk (da_cons (de_var 1) da_nil))) da_nil)))))
    dss_nil)
    (dss_one (ds_ret (de_fr (df_lst (da_cons (de_fr (df_call c_read_land (hr.mono hl_read_land) tk (da_cons (de_var 1) da_nil))) da_nil))))))))))
def m__law_due : MS :=
    (seqS (setS 2 cN)
    (seqS (ifS (mB (m2 eqD (rd 0) (cI 0)))
    (setS 2 (cD F__law_fraction_in (consA (rd 1) nilA)))
    (ifS (mB (m2 eqD (rd 0) (cI 1)))
    (setS 2 (cD F__law_read_field (consA (rd 1) nilA)))
    (setS 2 (cD F__law_read_land (consA (rd 1) nilA)))))
    (seqS (ifS (mB (m2 isND (rd 2) cN))
    (retS (cS "refused"))
    .nx)
    (retS (asL (lstF (consA (rd 2) nilA)))))))
def F__law_due : FD := runD 2 3 m__law_due
theorem w__law_due {f : Addr} {fd : FuncData} (T : Tx K mg) (Fu : Fun K "_law_due" "_law_due" s__law_due f fd) (c__law_fraction_in : Cal P w K mg base 2 "_law_fraction_in" P__law_fraction_in (spD K mg F__law_fraction_in)) (c__law_read_field : Cal P w K mg base 4 "_law_read_field" P__law_read_field (spD K mg F__law_read_field)) (c__law_read_land : Cal P w K mg base 4 "_law_read_land" P__law_read_land (spD K mg F__law_read_land)) : FnOk P w K mg base (L2.CX P w) 5 f fd P__law_due (spD K mg F__law_due) := by
  refine fun_D (k := 4) (N := N__law_due) (ps := P__law_due) (m := m__law_due) Fu sc__law_due fun cdv A outer s H E hr => ?_
  have tk : Takes (cxOf (L2.CX P w) P w K mg base N__law_due "_law_due" (defScope s__law_due) f cdv A outer s H E) (wE E) := takes_of rfl rfl rfl rfl
  have hp := passes_of (X := cxOf (L2.CX P w) P w K mg base N__law_due "_law_due" (defScope s__law_due) f cdv A outer s H E) rfl
  have hl__law_fraction_in : 2 ≤ 4 := by decide
  have hl__law_read_field : 4 ≤ 4 := by decide
  have hl__law_read_land : 4 ≤ 4 := by decide
  exact (dss_cons (ds_set 2 sc__law_due.nd de_none)
    (dss_cons (ds_if (dt_eq hr (de_var 0) de_int)
    (dss_one (ds_set 2 sc__law_due.nd (de_call c__law_fraction_in (hr.mono hl__law_fraction_in) tk (da_cons (de_var 1) da_nil))))
    (dss_one (ds_if (dt_eq hr (de_var 0) de_int)
    (dss_one (ds_set 2 sc__law_due.nd (de_call c__law_read_field (hr.mono hl__law_read_field) tk (da_cons (de_var 1) da_nil))))
    (dss_one (ds_set 2 sc__law_due.nd (de_call c__law_read_land (hr.mono hl__law_read_land) tk (da_cons (de_var 1) da_nil)))))))
    (dss_cons (ds_if (dt_is hr (de_var 2) de_none)
    (dss_one (ds_ret de_str))
    dss_nil)
    (dss_one (ds_ret (de_fr (df_lst (da_cons (de_var 2) da_nil))))))))
def m_law : MS :=
    (seqS (setS 1 (asL (cF F__law_numbers (consA (cD F__law_cell (consA (rd 0) (consA (cI 0) nilA))) (consA (cI 8) (consA (cI 5040) nilA))))))
    (seqS (setS 2 (cD F__law_frac (consA (m2 mulD (m2 subD (m2 modD (m2 ixD (rd 1) (cI 0)) (cI 81)) (cI 40)) (m2 ixD (asL (lstF (consA (cI 1) (consA (m2 powD (cI 10) (cI 9)) nilA)))) (m2 modD (m2 ixD (rd 1) (cI 1)) (cI 2)))) (consA (m2 ixD (asL (lstF (consA (cI 1) (consA (m2 addD (cI 1) (m2 modD (m2 ixD (rd 1) (cI 2)) (cI 30))) (consA (m2 addD (m2 powD (cI 10) (cI 9)) (m2 ixD (rd 1) (cI 3))) nilA))))) (m2 modD (m2 ixD (rd 1) (cI 4)) (cI 3))) nilA))))
    (seqS (setLS 3 (lcF (cF rng1 (consA (m2 addD (cI 1) (m2 modD (m2 ixD (rd 1) (cI 5)) (cI 3))) nilA)) (gN 13) yesB (cD F__law_field (consA (rd 0) (consA (m2 addD (cI 1) (rd 13)) (consA (cI 5) nilA)))) [13]))
    (seqS (setS 4 (cD reprD (consA (tupD (consA (rd 2) (consA (rd 3) nilA))) nilA)))
    (seqS (setS 5 (asL (lstF (consA (cD F__law_fraction_text (consA (rd 2) nilA)) (consA (cD F__law_field_text (consA (m2 ixD (rd 3) (cI 0)) nilA)) (consA (cD F__law_land_text (consA (rd 3) nilA)) nilA))))))
    (seqS (ifS (orB (notB (tru (cD (F__law_same 6) (consA (asL (lstF (consA (cD F_write_fraction (consA (rd 2) nilA)) (consA (cD F_write_field (consA (m2 ixD (rd 3) (cI 0)) nilA)) (consA (cD F_write_land (consA (rd 3) nilA)) nilA))))) (consA (rd 5) nilA))))) (mB (m2 neD (cD reprD (consA (tupD (consA (rd 2) (consA (rd 3) nilA))) nilA)) (rd 4))))
    (retS (cB false))
    .nx)
    (seqS (forS (cF rng1 (consA (cI 2) nilA)) (gN 6)
    (told3S 7 (cD F_read_fraction (consA (m2 ixD (rd 5) (cI 0)) nilA)) (fun ρ => (consA (m2 ixD (rd 5) (cI 1)) nilA) ρ >>= F_read_field) (fun ρ => (consA (m2 ixD (rd 5) (cI 2)) nilA) ρ >>= F_read_land) (notB (tru (cD (F__law_same 6) (consA (rd 7) (consA (asL (lstF (consA (rd 2) (consA (m2 ixD (rd 3) (cI 0)) (consA (rd 3) nilA))))) nilA))))) (retS (cB false))))
    (seqS (setS 8 (asL (cF F__law_numbers (consA (cD F__law_cell (consA (rd 0) (consA (cI 4) nilA))) (consA (cI 60) (consA (cI 5040) nilA))))))
    (seqS (setS 9 (asL (lstF (consA (cS "") (consA (cS "\n") (consA (cS "0") (consA (cS "-0") (consA (cS "00") (consA (cS "1/1") (consA (cS "2/4") (consA (cS "3/2") (consA (cS "-3/2") (consA (cS "3/-2") (consA (cS "0/5") (consA (cS "1/0") (consA (cS "1/2/3") (consA (cS "/") (consA (cS "1/") (consA (cS "/2") (consA (cS " 1") (consA (cS "1 ") (consA (cS "field 0\n") (consA (cS "field 1\n") (consA (cS "field 1\nstone 0 0\n") nilA))))))))))))))))))))))))
    (seqS (setS 9 (m2 addD (rd 9) (asL (lstF (consA (cS "field 1\nstone 0 0") (consA (cS "field 1\nstone 0\n") (consA (cS "field 1\nstone 0 0 0\n") nilA)))))))
    (seqS (setS 9 (m2 addD (rd 9) (asL (lstF (consA (cS "field 1\nstone 1001 0\n") (consA (cS "field 1\nstone -1000 1000\n") (consA (cS "field 2\nstone 0 0\n") (consA (cS "field 1\nstone 0 0\nstone 0 0\n") (consA (m2 addD (cS "field 12\n") (m2 mulT (cS "stone 0 0\n") (cI 12))) nilA)))))))))
    (seqS (setS 9 (m2 addD (rd 9) (asL (lstF (consA (m2 addD (cS "field 13\n") (m2 mulT (cS "stone 0 0\n") (cI 13))) (consA (cS "land 0\n") (consA (cS "land 1\n") (consA (cS "land 1\nfield 1\nstone 0 0\n") (consA (cS "land 2\nfield 1\nstone 0 0\n") nilA)))))))))
    (seqS (setS 9 (m2 addD (rd 9) (asL (lstF (consA (m2 addD (cS "land 8\n") (m2 mulT (cS "field 1\nstone 0 0\n") (cI 8))) (consA (m2 addD (cS "land 9\n") (m2 mulT (cS "field 1\nstone 0 0\n") (cI 9))) (consA (cS "land 01\nfield 1\nstone 0 0\n") (consA (cS "land 1\nfield 1\nstone 0 0\n\n") nilA))))))))
    (seqS (setLS 10 (lcF (cF rng1 (consA (cI 19) nilA)) (gN 13) yesB (cD F__law_bent_string (consA (m2 ixD (rd 5) (m2 modD (rd 13) (cI 3))) (consA (rd 8) (consA (m2 mulD (cI 3) (rd 13)) nilA)))) [13]))
    (seqS (forS (seqM (m2 addD (m2 addD (rd 5) (rd 9)) (rd 10))) (gN 11)
    (forS (cF rng1 (consA (cI 3) nilA)) (gN 12)
    (ifS (notB (tru (cD (F__law_same 6) (consA (cD F__law_told (consA (rd 12) (consA (rd 11) nilA))) (consA (cD F__law_due (consA (rd 12) (consA (rd 11) nilA))) nilA)))))
    (retS (cB false))
    .nx)))
    (retS (cB true)))))))))))))))))
def F_law : FD := runD 1 14 m_law
theorem w_law {f : Addr} {fd : FuncData} (T : Tx K mg) (Fu : Fun K "law" "law" s_law f fd) (c__law_cell : Cal P w K mg base 1 "_law_cell" P__law_cell (spD K mg F__law_cell)) (c__law_numbers : Cal P w K mg base 1 "_law_numbers" P__law_numbers (spF K mg F__law_numbers)) (c__law_frac : Cal P w K mg base 2 "_law_frac" P__law_frac (spD K mg F__law_frac)) (c__law_field : Cal P w K mg base 2 "_law_field" P__law_field (spD K mg F__law_field)) (c__law_land_text : Cal P w K mg base 3 "_law_land_text" P__law_land_text (spD K mg F__law_land_text)) (c__law_field_text : Cal P w K mg base 2 "_law_field_text" P__law_field_text (spD K mg F__law_field_text)) (c__law_fraction_text : Cal P w K mg base 1 "_law_fraction_text" P__law_fraction_text (spD K mg F__law_fraction_text)) (c_write_land : Cal P w K mg base 3 "write_land" P_write_land (spD K mg F_write_land)) (c_write_field : Cal P w K mg base 2 "write_field" P_write_field (spD K mg F_write_field)) (c_write_fraction : Cal P w K mg base 1 "write_fraction" P_write_fraction (spD K mg F_write_fraction)) (c__law_same : Cal P w K mg base 6 "_law_same" P__law_same (spD K mg (F__law_same 6))) (c_read_fraction : Cal P w K mg base 3 "read_fraction" P_read_fraction (spD K mg F_read_fraction)) (c_read_field : Cal P w K mg base 5 "read_field" P_read_field (spF K mg F_read_field)) (c_read_land : Cal P w K mg base 5 "read_land" P_read_land (spF K mg F_read_land)) (c__law_bent_string : Cal P w K mg base 1 "_law_bent_string" P__law_bent_string (spD K mg F__law_bent_string)) (c__law_due : Cal P w K mg base 5 "_law_due" P__law_due (spD K mg F__law_due)) (c__law_told : Cal P w K mg base 6 "_law_told" P__law_told (spD K mg F__law_told)) : GOk P w K mg base (L2.CX P w) 7 f fd P_law (spD K mg F_law) := by
  refine fun_DG (k := 6) (N := N_law) (ps := P_law) (m := m_law) Fu sc_law fun cdv A outer s H E hgu hr => ?_
  have tk : Takes (cxOf (L2.CX P w) P w K mg base N_law "law" (defScope s_law) f cdv A outer s H E) (wE E) := takes_of rfl rfl rfl rfl
  have hp := passes_of (X := cxOf (L2.CX P w) P w K mg base N_law "law" (defScope s_law) f cdv A outer s H E) rfl
  have hl__law_cell : 1 ≤ 6 := by decide
  have hl__law_numbers : 1 ≤ 6 := by decide
  have hl__law_frac : 2 ≤ 6 := by decide
  have hl__law_field : 2 ≤ 6 := by decide
  have hl__law_land_text : 3 ≤ 6 := by decide
  have hl__law_field_text : 2 ≤ 6 := by decide
  have hl__law_fraction_text : 1 ≤ 6 := by decide
  have hl_write_land : 3 ≤ 6 := by decide
  have hl_write_field : 2 ≤ 6 := by decide
  have hl_write_fraction : 1 ≤ 6 := by decide
  have hl__law_same : 6 ≤ 6 := by decide
  have hl_read_fraction : 3 ≤ 6 := by decide
  have hl_read_field : 5 ≤ 6 := by decide
  have hl_read_land : 5 ≤ 6 := by decide
  have hl__law_bent_string : 1 ≤ 6 := by decide
  have hl__law_due : 5 ≤ 6 := by decide
  have hl__law_told : 6 ≤ 6 := by decide
  exact (dss_cons (ds_set 1 sc_law.nd (de_fr (df_call c__law_numbers (hr.mono hl__law_numbers) tk (da_cons (de_call c__law_cell (hr.mono hl__law_cell) tk (da_cons (de_var 0) (da_cons de_int da_nil))) (da_cons de_int (da_cons de_int da_nil))))))
    (dss_cons (ds_set 2 sc_law.nd (de_call c__law_frac (hr.mono hl__law_frac) tk (da_cons (de_mul (de_sub (de_mod (de_ix (de_var 1) de_int) de_int) de_int) (de_ix (de_fr (df_lst (da_cons de_int (da_cons (de_pow de_int de_int) da_nil)))) (de_mod (de_ix (de_var 1) de_int) de_int))) (da_cons (de_ix (de_fr (df_lst (da_cons de_int (da_cons (de_add de_int (de_mod (de_ix (de_var 1) de_int) de_int)) (da_cons (de_add (de_pow de_int de_int) (de_ix (de_var 1) de_int)) da_nil))))) (de_mod (de_ix (de_var 1) de_int) de_int)) da_nil))))
    (dss_cons (setL_of (ds_setLc 3 sc_law.nd (own := [("k", 13)]) (di_range1 T.z_range (da_cons (de_add de_int (de_mod (de_ix (de_var 1) de_int) de_int)) da_nil)) (blkB N_law (defScope s_law) (by decide +kernel)) (fun _ _ _ _ _ => (dg_name 13 sc_law.nd)) (fun _ _ _ _ _ => dts_nil) (fun _ _ _ _ _ => (de_call c__law_field (hr.mono hl__law_field) takes0 (da_cons (de_var 0) (da_cons (de_add de_int (de_var 13)) (da_cons de_int da_nil))))) (sw_true rfl rfl rfl (by decide +kernel))))
    (dss_cons (ds_set 4 sc_law.nd (de_callB (rrepr hgu hr) call_reprD T.z_repr bt_repr (da_cons (de_tup (da_cons (de_var 2) (da_cons (de_var 3) da_nil))) da_nil)))
    (dss_cons (ds_set 5 sc_law.nd (de_fr (df_lst (da_cons (de_call c__law_fraction_text (hr.mono hl__law_fraction_text) tk (da_cons (de_var 2) da_nil)) (da_cons (de_call c__law_field_text (hr.mono hl__law_field_text) tk (da_cons (de_ix (de_var 3) de_int) da_nil)) (da_cons (de_call c__law_land_text (hr.mono hl__law_land_text) tk (da_cons (de_var 3) da_nil)) da_nil))))))
    (dss_cons (ds_if (dt_w (dw_or (dt_not (dt_val (de_call c__law_same (hr.mono hl__law_same) tk (da_cons (de_fr (df_lst (da_cons (de_call c_write_fraction (hr.mono hl_write_fraction) tk (da_cons (de_var 2) da_nil)) (da_cons (de_call c_write_field (hr.mono hl_write_field) tk (da_cons (de_ix (de_var 3) de_int) da_nil)) (da_cons (de_call c_write_land (hr.mono hl_write_land) tk (da_cons (de_var 3) da_nil)) da_nil))))) (da_cons (de_var 5) da_nil))))) (dw_or1 (dt_ne hr (de_callB (rrepr hgu hr) call_reprD T.z_repr bt_repr (da_cons (de_tup (da_cons (de_var 2) (da_cons (de_var 3) da_nil))) da_nil)) (de_var 4)))))
    (dss_one (ds_ret de_bool))
    dss_nil)
    (dss_cons (ds_for hp (di_range1 T.z_range (da_cons de_int da_nil)) (dg_name 6 sc_law.nd)
    (dss_told3 7 (de_call c_read_fraction (hr.mono hl_read_fraction) tk (da_cons (de_ix (de_var 5) de_int) da_nil)) c_read_field (hr.mono hl_read_field) c_read_land (hr.mono hl_read_land) tk (da_cons (de_ix (de_var 5) de_int) da_nil) (da_cons (de_ix (de_var 5) de_int) da_nil) (dt_not (dt_val (de_call c__law_same (hr.mono hl__law_same) tk (da_cons (de_var 7) (da_cons (de_fr (df_lst (da_cons (de_var 2) (da_cons (de_ix (de_var 3) de_int) (da_cons (de_var 3) da_nil))))) da_nil))))) (dss_one (ds_ret de_bool)) sc_law.nd))
    (dss_cons (ds_set 8 sc_law.nd (de_fr (df_call c__law_numbers (hr.mono hl__law_numbers) tk (da_cons (de_call c__law_cell (hr.mono hl__law_cell) tk (da_cons (de_var 0) (da_cons de_int da_nil))) (da_cons de_int (da_cons de_int da_nil))))))
    (dss_cons (ds_set 9 sc_law.nd (de_fr (df_lst (da_cons de_str (da_cons de_str (da_cons de_str (da_cons de_str (da_cons de_str (da_cons de_str (da_cons de_str (da_cons de_str (da_cons de_str (da_cons de_str (da_cons de_str (da_cons de_str (da_cons de_str (da_cons de_str (da_cons de_str (da_cons de_str (da_cons de_str (da_cons de_str (da_cons de_str (da_cons de_str (da_cons de_str da_nil))))))))))))))))))))))))
    (dss_cons (ds_set 9 sc_law.nd (de_add (de_var 9) (de_fr (df_lst (da_cons de_str (da_cons de_str (da_cons de_str da_nil)))))))
    (dss_cons (ds_set 9 sc_law.nd (de_add (de_var 9) (de_fr (df_lst (da_cons de_str (da_cons de_str (da_cons de_str (da_cons de_str (da_cons (de_add de_str (de_mulT de_str de_int)) da_nil)))))))))
    (dss_cons (ds_set 9 sc_law.nd (de_add (de_var 9) (de_fr (df_lst (da_cons (de_add de_str (de_mulT de_str de_int)) (da_cons de_str (da_cons de_str (da_cons de_str (da_cons de_str da_nil)))))))))
    (dss_cons (ds_set 9 sc_law.nd (de_add (de_var 9) (de_fr (df_lst (da_cons (de_add de_str (de_mulT de_str de_int)) (da_cons (de_add de_str (de_mulT de_str de_int)) (da_cons de_str (da_cons de_str da_nil))))))))
    (dss_cons (setL_of (ds_setLc 10 sc_law.nd (own := [("k", 13)]) (di_range1 T.z_range (da_cons de_int da_nil)) (blkB N_law (defScope s_law) (by decide +kernel)) (fun _ _ _ _ _ => (dg_name 13 sc_law.nd)) (fun _ _ _ _ _ => dts_nil) (fun _ _ _ _ _ => (de_call c__law_bent_string (hr.mono hl__law_bent_string) takes0 (da_cons (de_ix (de_var 5) (de_mod (de_var 13) de_int)) (da_cons (de_var 8) (da_cons (de_mul de_int (de_var 13)) da_nil))))) (sw_true rfl rfl rfl (by decide +kernel))))
    (dss_cons (ds_for hp (di_seq (de_add (de_add (de_var 5) (de_var 9)) (de_var 10))) (dg_name 11 sc_law.nd)
    (dss_one (ds_for hp (di_range1 T.z_range (da_cons de_int da_nil)) (dg_name 12 sc_law.nd)
    (dss_one (ds_if (dt_not (dt_val (de_call c__law_same (hr.mono hl__law_same) tk (da_cons (de_call c__law_told (hr.mono hl__law_told) tk (da_cons (de_var 12) (da_cons (de_var 11) da_nil))) (da_cons (de_call c__law_due (hr.mono hl__law_due) tk (da_cons (de_var 12) (da_cons (de_var 11) da_nil))) da_nil)))))
    (dss_one (ds_ret de_bool))
    dss_nil)))))
    (dss_one (ds_ret de_bool)))))))))))))))))
end
end
end Lw
namespace Lw
noncomputable section
open PySem PySem.Spec PyProof.Rows L2 DL
/-! the laws' own helpers: a cell of the script, drawn numbers, sameness -/
section help
def cellOf (ns : List Int) (k : Nat) : Int := ns.getD k 0
theorem F_cell (ns : List Int) (k : Nat) : F__law_cell [roD (ns.map .int), .int k] = .ok (.int (cellOf ns k)) := by
  unfold F__law_cell runD cellOf
  by_cases h : k < ns.length
  · simp [m__law_cell, start0, rd, h]
  · have h' : ns[k]? = none := List.getElem?_eq_none (by omega)
    simp [m__law_cell, start0, rd, h]
/-- what is drawn: below the limit -/
def Drawn (l : List Int) (n : Nat) (limit : Int) : Prop := l.length = n ∧ ∀ x ∈ l, 0 ≤ x ∧ x < limit
theorem Drawn.more {l : List Int} {n : Nat} {limit x : Int} (h : Drawn l n limit) (h1 : 0 ≤ x) (h2 : x < limit) : Drawn (l ++ [x]) (n + 1) limit := by
  refine ⟨by simp [h.1], fun y hy => ?_⟩
  rcases List.mem_append.mp hy with hy | hy
  · exact h.2 y hy
  · rcases List.mem_singleton.mp hy with rfl
    exact ⟨h1, h2⟩
theorem drawn_one {limit : Int} (h0 : 0 < limit) (hl : limit < 1000000000000) : ∀ (ks : List Nat) (c : Int) (n : Nat) (acc : List Int) (s5 s6 : Sl) (k : Int), Drawn acc n limit → n + ks.length ≤ 100000 → ∃ c' l s', Drawn l (n + ks.length) limit ∧
    forD (gN 4) (seqS (appS 3 (m2 modD (cD intD (consA (rd 0) nilA)) (rd 2))) (setS 0 (m2 fdivD (cD intD (consA (rd 0) nilA)) (rd 2)))) (ks.map fun (i : Nat) => PyData.int (i : Int))
      [.sh (.int c), .sh (.int k), .sh (.int limit), .own (.lst (acc.map .int)), s5, s6] = .nx [.sh (.int c'), .sh (.int k), .sh (.int limit), .own (.lst (l.map .int)), s', s6]
  | [], c, n, acc, s5, s6, k, hd, _ => ⟨c, acc, s5, hd, rfl⟩
  | i :: ks, c, n, acc, s5, s6, k, hd, hn => by
    have hdiv : divOk limit := divOk_s h0 (by omega)
    have hz : acc.length < sizeLine := sizes' (by rw [hd.1]; simp at hn; omega)
    obtain ⟨c', l, s', h1, h2⟩ := drawn_one h0 hl ks (c / limit) (n + 1) (acc ++ [c % limit]) (.sh (.int (i : Int))) s6 k (hd.more (Int.emod_nonneg _ (by omega)) (Int.emod_lt_of_pos _ h0)) (by simp at hn; omega)
    refine ⟨c', l, s', by rw [List.length_cons]; have e : n + (ks.length + 1) = n + 1 + ks.length := by omega
                          rw [e]; exact h1, ?_⟩
    rw [List.map_append, List.map_singleton] at h2
    simpa [rd, appS, h0, hdiv, hz] using h2
theorem mix_turn {limit c m1 m2' k i : Int} {acc : List Int} {s5 : Sl} (h0 : 0 < limit) (hz : acc.length < sizeLine) (e1 : (c * 48271 + i * 69621 + 7) % 2147483647 = m1) (e2 : (m1 * m1 + m1 * 40692 + i * 16807 + 11) % 2147483399 = m2') (b1 : 0 ≤ m1 ∧ m1 < 2147483647) :
    (seqS (setS 5 (m2 modD (cD intD (consA (m2 addD (m2 addD (m2 mulD (rd 0) (cI 48271)) (m2 mulD (rd 4) (cI 69621))) (cI 7)) nilA)) (cI 2147483647)))
    (seqS (setS 5 (m2 modD (cD intD (consA (m2 addD (m2 addD (m2 addD (m2 mulD (rd 5) (rd 5)) (m2 mulD (rd 5) (cI 40692))) (m2 mulD (rd 4) (cI 16807))) (cI 11)) nilA)) (cI 2147483399)))
    (appS 3 (m2 modD (cD intD (consA (m2 fdivD (rd 5) (cI 32)) nilA)) (rd 2)))))
      [.sh (.int c), .sh (.int k), .sh (.int limit), .own (.lst (acc.map .int)), .sh (.int i), s5] = .nx [.sh (.int c), .sh (.int k), .sh (.int limit), .own (.lst ((acc ++ [m2' / 32 % limit]).map .int)), .sh (.int i), .sh (.int m2')] := by
  have k1 : mulOk c 48271 := mulOk_rr (by decide) (by decide)
  have k2 : mulOk i 69621 := mulOk_rr (by decide) (by decide)
  have k3 : mulOk m1 m1 := mulOk_ll (by omega) (by omega)
  have k4 : mulOk m1 40692 := mulOk_ll (by omega) (by omega)
  have k5 : mulOk i 16807 := mulOk_rr (by decide) (by decide)
  have k6 : divOk 32 := divOk_s (by decide) (by decide)
  simp [rd, appS, h0, hz, k1, k2, k3, k4, k5, k6, e1, e2]
theorem mod_ex (x y : Int) (h : 0 < y) : ∃ m, x % y = m ∧ 0 ≤ m ∧ m < y := ⟨_, rfl, Int.emod_nonneg _ (by omega), Int.emod_lt_of_pos _ h⟩
theorem drawn_two {limit : Int} (h0 : 0 < limit) (hl : limit < 1000000000000) : ∀ (ks : List Nat) (c : Int) (n : Nat) (acc : List Int) (s5 s6 : Sl) (k : Int), Drawn acc n limit → n + ks.length ≤ 100000 → (∀ i ∈ ks, i < 100000) → ∃ l s' s'', Drawn l (n + ks.length) limit ∧
    forD (gN 4) (seqS (setS 5 (m2 modD (cD intD (consA (m2 addD (m2 addD (m2 mulD (rd 0) (cI 48271)) (m2 mulD (rd 4) (cI 69621))) (cI 7)) nilA)) (cI 2147483647)))
    (seqS (setS 5 (m2 modD (cD intD (consA (m2 addD (m2 addD (m2 addD (m2 mulD (rd 5) (rd 5)) (m2 mulD (rd 5) (cI 40692))) (m2 mulD (rd 4) (cI 16807))) (cI 11)) nilA)) (cI 2147483399)))
    (appS 3 (m2 modD (cD intD (consA (m2 fdivD (rd 5) (cI 32)) nilA)) (rd 2))))) (ks.map fun (i : Nat) => PyData.int (i : Int))
      [.sh (.int c), .sh (.int k), .sh (.int limit), .own (.lst (acc.map .int)), s5, s6] = .nx [.sh (.int c), .sh (.int k), .sh (.int limit), .own (.lst (l.map .int)), s', s''] := by
  intro ks
  induction ks with
  | nil => exact fun c n acc s5 s6 k hd _ _ => ⟨acc, s5, s6, hd, rfl⟩
  | cons i ks ih =>
    intro c n acc s5 s6 k hd hn hks
    have hi := hks i List.mem_cons_self
    have hz : acc.length < sizeLine := sizes' (by rw [hd.1]; simp at hn; omega)
    obtain ⟨m1, e1, b1⟩ := mod_ex (c * 48271 + (i : Int) * 69621 + 7) 2147483647 (by decide)
    obtain ⟨m2', e2, b2⟩ := mod_ex (m1 * m1 + m1 * 40692 + (i : Int) * 16807 + 11) 2147483399 (by decide)
    obtain ⟨l, s', s'', h1, h2⟩ := ih c (n + 1) (acc ++ [m2' / 32 % limit]) (.sh (.int (i : Int))) (.sh (.int m2')) k (hd.more (Int.emod_nonneg _ (by omega)) (Int.emod_lt_of_pos _ h0)) (by simp at hn; omega) fun j hj => hks j (List.mem_cons_of_mem _ hj)
    refine ⟨l, s', s'', by rw [List.length_cons]; have e : n + (ks.length + 1) = n + 1 + ks.length := by omega
                           rw [e]; exact h1, ?_⟩
    exact (forD_nx rfl (mix_turn h0 hz e1 e2 b1)).trans h2
theorem rangeL_zero (n : Nat) : rangeL 0 n = (List.range n).map fun (i : Nat) => PyData.int (i : Int) := by
  unfold rangeL
  exact List.map_congr_left fun i _ => by rw [Int.zero_add]
theorem ten18 : (10 : Int) ^ 18 = 1000000000000000000 := by decide
theorem num_c {c : Int} {ρ : Ro} (h : rd 0 ρ = .ok (.int c)) : mB (m2 geD (rd 0) (m2 powD (cI 10) (cI 18))) ρ = .ok (decide (1000000000000000000 ≤ c)) := by
  have hp : CPow 10 18 := by unfold CPow; decide
  simp [h, hp]
theorem num_r {n : Nat} {ρ : Ro} (hn : n ≤ 1000) (h : rd 1 ρ = .ok (.int n)) : cF rng1 (consA (rd 1) nilA) ρ = .ok (rangeL 0 n) := by
  simp [h, rng1_nat (n := n) (by omega)]
theorem F_numbers (c : Int) (n : Nat) (limit : Int) (h0 : 0 < limit) (hl : limit < 1000000000000) (hn : n ≤ 1000) : ∃ l, Drawn l n limit ∧ F__law_numbers [.int c, .int n, .int limit] = .ok (l.map .int) := by
  have hks : ∀ i ∈ List.range n, i < 100000 := fun i hi => by have := List.mem_range.mp hi; omega
  have q0 : setFS 3 (lstF nilA) (start0 6 [.int c, .int n, .int limit]) = .nx [.sh (.int c), .sh (.int n), .sh (.int limit), .own (.lst ([].map PyData.int)), .un, .un] := by simp [start0]
  by_cases hc : (1000000000000000000 : Int) ≤ c
  · obtain ⟨c', l, s', h1, h2⟩ := drawn_one h0 hl (List.range n) c 0 [] .un .un n ⟨rfl, fun _ h => by simp at h⟩ (by simp; omega)
    rw [← rangeL_zero] at h2
    exact ⟨l, by simpa using h1, runF_rtF ((seqS_nx q0).trans (seqS_rtF (ifS_t ((num_c rfl).trans (by rw [decide_eq_true hc])) ((seqS_nx (forS_go (num_r hn rfl) h2)).trans (retO_go rfl))))) rfl⟩
  · obtain ⟨l, s', s'', h1, h2⟩ := drawn_two h0 hl (List.range n) c 0 [] .un .un n ⟨rfl, fun _ h => by simp at h⟩ (by simp; omega) hks
    rw [← rangeL_zero] at h2
    exact ⟨l, by simpa using h1, runF_rtF ((seqS_nx q0).trans ((seqS_nx (ifS_f ((num_c rfl).trans (by rw [decide_eq_false hc])) rfl)).trans ((seqS_nx (forS_go (num_r hn rfl) h2)).trans (retO_go rfl)))) rfl⟩
end help

end
end Lw
namespace Lw
noncomputable section
open PySem PySem.Spec PyProof.Rows L2 DL
/-! a thing is the same as itself -/
section sameT
/-- data that _law_same walks through in k steps -/
def sameT : Nat → PyData → Prop
  | 0, _ => False
  | _ + 1, .none => True
  | _ + 1, .bool _ => True
  | _ + 1, .int _ => True
  | _ + 1, .str z => True
  | k + 1, .list ds => ds.length ≤ 1000000000 ∧ ∀ d ∈ ds, sameT k d
  | k + 1, .tuple ds => ds.length ≤ 1000000000 ∧ ∀ d ∈ ds, sameT k d
  | _ + 1, _ => False
theorem same_loopT {Fs : FD} {d : PyData} (ds : List PyData) (hd : ∀ i : Nat, ixD d (.int i) = match ds[i]? with | some e => .ok e | none => .no) (hs : ∀ e ∈ ds, Fs [e, e] = .ok (.bool true)) : ∀ (ks : List Nat) (s : Sl), (∀ i ∈ ks, i < ds.length) → ∃ s', forD (gN 2)
    (ifS (notB (tru (cD Fs (consA (m2 ixD (rd 0) (rd 2)) (consA (m2 ixD (rd 1) (rd 2)) nilA)))))
    (retS (cB false))
    .nx) (ks.map fun (i : Nat) => PyData.int (i : Int)) [.sh d, .sh d, s] = .nx [.sh d, .sh d, s']
  | [], s, _ => ⟨s, rfl⟩
  | i :: ks, s, h => by
    have hi := h i List.mem_cons_self
    obtain ⟨s', h2⟩ := same_loopT ds hd hs ks (.sh (.int i)) fun j hj => h j (List.mem_cons_of_mem _ hj)
    refine ⟨s', (forD_nx (ρ2 := [.sh d, .sh d, .sh (.int i)]) rfl (ifS_f ?_ rfl)).trans h2⟩
    have e1 : ixD d (.int (i : Int)) = .ok ds[i] := by rw [hd i, List.getElem?_eq_getElem hi]
    have e2 := hs ds[i] (List.getElem_mem hi)
    simp [rd, e1, e2]
theorem F_sameT : ∀ (k : Nat) (d : PyData), sameT k d → F__law_same k [d, d] = .ok (.bool true)
  | 0, _, h => h.elim
  | k + 1, .none, _ => runD_rt (by simp [m__law_same, start0, rd]) rfl
  | k + 1, .bool b, _ => runD_rt (by simp [m__law_same, start0, rd, eqD_self]) rfl
  | k + 1, .int b, _ => runD_rt (by simp [m__law_same, start0, rd]) rfl
  | k + 1, .str z, h => runD_rt (by simp [m__law_same, start0, rd, eqD_str]) rfl
  | k + 1, .list ds, h => by
    obtain ⟨s', h2⟩ := same_loopT (Fs := F__law_same k) (d := .list ds) ds (fun i => by rw [ixD_list, atI_cast] <;> cases ds[i]? <;> rfl) (fun e he => F_sameT k e (h.2 e he)) (List.range ds.length) .un fun i hi => List.mem_range.mp hi
    rw [← rangeL_zero] at h2
    refine runD_rt ?_ rfl
    refine (seqS_nx (ρ1 := [.sh (.list ds), .sh (.list ds), .un]) ?_).trans ((seqS_nx (forS_go (ds := rangeL 0 ds.length) ?_ h2)).trans rfl)
    · simp [start0, rd]
    · simp [rd, rng1_nat h.1]
  | k + 1, .tuple ds, h => by
    obtain ⟨s', h2⟩ := same_loopT (Fs := F__law_same k) (d := .tuple ds) ds (fun i => by rw [ixD_tuple, atI_cast] <;> cases ds[i]? <;> rfl) (fun e he => F_sameT k e (h.2 e he)) (List.range ds.length) .un fun i hi => List.mem_range.mp hi
    rw [← rangeL_zero] at h2
    refine runD_rt ?_ rfl
    refine (seqS_nx (ρ1 := [.sh (.tuple ds), .sh (.tuple ds), .un]) ?_).trans ((seqS_nx (forS_go (ds := rangeL 0 ds.length) ?_ h2)).trans rfl)
    · simp [start0, rd]
    · simp [rd, rng1_nat h.1]
theorem same_intsT (k : Nat) (ns : List Int) (h : ns.length ≤ 1000000000) : sameT (k + 2) (.list (ns.map .int)) := ⟨by rw [List.length_map]; exact h, fun d hd => by
  obtain ⟨n, _, rfl⟩ := List.mem_map.mp hd
  trivial⟩
end sameT

end
end Lw
namespace Lw
noncomputable section
open PySem PySem.Spec PyProof.Rows L2 DL
/-! numbers that were drawn, by their places -/
section drawn
structure Dr (l : List Int) (dr : Nat → Int) (n : Nat) (limit : Int) : Prop where
  at_ : ∀ k, k < n → (il l)[k]? = some (.int (dr k))
  b : ∀ k, k < n → 0 ≤ dr k ∧ dr k < limit
theorem Drawn.dr {l : List Int} {n : Nat} {limit : Int} (h : Drawn l n limit) : ∃ dr : Nat → Int, Dr l dr n limit := by
  refine ⟨fun k => l.getD k 0, fun k hk => ?_, fun k hk => ?_⟩
  · have hk' : k < l.length := by rw [h.1]; exact hk
    have e : l.getD k 0 = l[k] := by simp [hk']
    show _ = some (PyData.int (l.getD k 0))
    rw [il_at, List.getElem?_eq_getElem hk', e]
    rfl
  · have hk' : k < l.length := by rw [h.1]; exact hk
    have e : l.getD k 0 = l[k] := by simp [hk']
    show 0 ≤ l.getD k 0 ∧ l.getD k 0 < limit
    rw [e]
    exact h.2 _ (List.getElem_mem hk')
theorem Dr.ix {l : List Int} {dr : Nat → Int} {n : Nat} {limit : Int} (D : Dr l dr n limit) {k : Nat} (hk : k < n) : ixD (.list (il l)) (.int (k : Int)) = .ok (.int (dr k)) := by
  rw [ixD_list, atI_cast, D.at_ k hk]
theorem Dr.ixl {l : List Int} {dr : Nat → Int} {n : Nat} {limit : Int} (D : Dr l dr n limit) (k : Nat) (hk : k < n) : ixD (.list (il l)) (.int (no_index (OfNat.ofNat k) : Int)) = .ok (.int (dr k)) := D.ix hk
theorem Dr.ix0 {l : List Int} {dr : Nat → Int} {n : Nat} {limit : Int} (D : Dr l dr n limit) (hk : 0 < n) : ixD (.list (il l)) (.int 0) = .ok (.int (dr 0)) := D.ix hk
theorem Dr.ix1 {l : List Int} {dr : Nat → Int} {n : Nat} {limit : Int} (D : Dr l dr n limit) (hk : 1 < n) : ixD (.list (il l)) (.int 1) = .ok (.int (dr 1)) := D.ix hk
theorem mods (x m : Int) (h : 0 < m) : ∃ k : Nat, x % m = (k : Int) ∧ (k : Int) < m := ⟨(x % m).toNat, by have := Int.emod_nonneg x (show m ≠ 0 by omega); omega, by have := Int.emod_nonneg x (show m ≠ 0 by omega); have := Int.emod_lt_of_pos x h; omega⟩
end drawn

end
end Lw
namespace Lw
noncomputable section
open PySem PySem.Spec PyProof.Rows L2 DL
/-! a field drawn by the law: one to eight stones, near -/
section fdraw
def Bx (p : Pt) : Prop := (-800 ≤ p.1 ∧ p.1 ≤ 800) ∧ (-800 ≤ p.2 ∧ p.2 ≤ 800)
theorem fl_wide {c : Nat} (h : (c : Int) < 4) : ∃ w : Int, 2 ≤ w ∧ w ≤ 400 ∧ ixD (.list [.int 2, .int 5, .int 12, .int 400]) (.int (c : Int)) = .ok (.int w) := by
  have : c = 0 ∨ c = 1 ∨ c = 2 ∨ c = 3 := by omega
  rcases this with rfl | rfl | rfl | rfl
  · exact ⟨2, by decide, by decide, rfl⟩
  · exact ⟨5, by decide, by decide, rfl⟩
  · exact ⟨12, by decide, by decide, rfl⟩
  · exact ⟨400, by decide, by decide, rfl⟩
def fbody : MS := (seqS (setS 9 (tupD (consA (m2 addD (rd 5) (m2 modD (m2 ixD (rd 3) (m2 addD (cI 6) (m2 mulD (cI 2) (rd 8)))) (m2 addD (rd 4) (cI 1)))) (consA (m2 addD (rd 6) (m2 modD (m2 ixD (rd 3) (m2 addD (cI 7) (m2 mulD (cI 2) (rd 8)))) (m2 addD (rd 4) (cI 1)))) nilA))))
    (seqS (ifS (mB (m2 eqD (m2 modD (m2 ixD (rd 3) (cI 4)) (cI 6)) (cI 0)))
    (setS 9 (tupD (consA (m2 addD (rd 5) (m2 modD (m2 ixD (rd 3) (m2 addD (cI 6) (m2 mulD (cI 2) (rd 8)))) (m2 addD (rd 4) (cI 1)))) (consA (m2 addD (rd 6) (m2 modD (m2 ixD (rd 3) (m2 addD (cI 6) (m2 mulD (cI 2) (rd 8)))) (m2 addD (rd 4) (cI 1)))) nilA))))
    .nx)
    (appS 7 (rd 9))))
theorem fbody_ok {l : List Int} {dr : Nat → Int} {n : Nat} (D : Dr l dr n 5040) {w x y : Int} (hw : 2 ≤ w ∧ w ≤ 400) (hx : -400 ≤ x ∧ x ≤ 400) (hy : -400 ≤ y ∧ y ≤ 400) {k : Nat} (hk : 7 + 2 * k < n) (hn : n ≤ 100) (a0 a1 a2 s9 : Sl) (acc : List Pt) (hacc : acc.length ≤ 100) :
    ∃ p s9', Bx p ∧ fbody [a0, a1, a2, .sh (.list (il l)), .sh (.int w), .sh (.int x), .sh (.int y), .own (.lst (pl acc)), .sh (.int (k : Int)), s9] = .nx [a0, a1, a2, .sh (.list (il l)), .sh (.int w), .sh (.int x), .sh (.int y), .own (.lst (pl (acc ++ [p]))), .sh (.int (k : Int)), s9'] := by
  have e6 : (6 : Int) + 2 * (k : Int) = ((6 + 2 * k : Nat) : Int) := by omega
  have e7 : (7 : Int) + 2 * (k : Int) = ((7 + 2 * k : Nat) : Int) := by omega
  have i6 := D.ix (k := 6 + 2 * k) (by omega)
  have i7 := D.ix (k := 7 + 2 * k) (by omega)
  have i4 : ixD (.list (il l)) (.int 4) = .ok (.int (dr 4)) := D.ix (k := 4) (by omega)
  have w0 : (0 : Int) < w + 1 := by omega
  have mk2 : mulOk 2 (k : Int) := mulOk_ll (by decide) (by decide)
  have z2 : 2 ≤ sizeLine := sizes (by decide)
  obtain ⟨c6, h6, l6⟩ := mods (dr (6 + 2 * k)) (w + 1) w0
  obtain ⟨c7, h7, l7⟩ := mods (dr (7 + 2 * k)) (w + 1) w0
  have st1 : ∀ s9, (tupD (consA (m2 addD (rd 5) (m2 modD (m2 ixD (rd 3) (m2 addD (cI 6) (m2 mulD (cI 2) (rd 8)))) (m2 addD (rd 4) (cI 1)))) (consA (m2 addD (rd 6) (m2 modD (m2 ixD (rd 3) (m2 addD (cI 7) (m2 mulD (cI 2) (rd 8)))) (m2 addD (rd 4) (cI 1)))) nilA))) [a0, a1, a2, .sh (.list (il l)), .sh (.int w), .sh (.int x), .sh (.int y), .own (.lst (pl acc)), .sh (.int (k : Int)), s9] = .ok (pd (x + c6, y + c7)) := fun s9 => by
    simp only [m2_eq, m1_eq, mB_eq, asB_bool, tru_eq, truD_bool, truD_int, truD_list, truD_tuple, truD_none, andB_eq, orB_eq, notB_eq, andD_eq, orD_eq, notD_eq, ifD_eq, chD_eq, cI_eq, cB_eq, cS_eq, cN_eq, nilA_eq, consA_eq, tupD_eq, lstF_eq, asL_eq, cD_eq, cF_eq, m2F_eq, noP_eq, someP_eq, asI_int, m3S_eq, seqM_eq, seqO_list, seqO_tuple, borB_eq, borD_eq, borF_eq, flatO_int, flatO_bool, flatO_str, flatO_none, yesB_eq, addD_int, subD_int, iaddD_int, isubD_int, mulD_int, fdivD_int, modD_int, negD_int, ltD_int, leD_int, gtD_int, geD_int, eqD_int, neD_int, slD_list, slF_list, intD_int, intD_bool, lenD_list, lenD_tuple, absD_int, listF_list, tupleD_list, rd, List.getElem?_cons_succ, List.getElem?_cons_zero, List.set_cons_succ, List.set_cons_zero, Out.ok_bind, List.length_cons, List.length_nil, decide_true, decide_false, Bool.not_true, Bool.not_false, ↓reduceIte, if_pos mk2, e6, e7, i6, i7, modD_pos w0, h6, h7, if_pos z2]
    rfl
  have st2 : ∀ s9, (tupD (consA (m2 addD (rd 5) (m2 modD (m2 ixD (rd 3) (m2 addD (cI 6) (m2 mulD (cI 2) (rd 8)))) (m2 addD (rd 4) (cI 1)))) (consA (m2 addD (rd 6) (m2 modD (m2 ixD (rd 3) (m2 addD (cI 6) (m2 mulD (cI 2) (rd 8)))) (m2 addD (rd 4) (cI 1)))) nilA))) [a0, a1, a2, .sh (.list (il l)), .sh (.int w), .sh (.int x), .sh (.int y), .own (.lst (pl acc)), .sh (.int (k : Int)), s9] = .ok (pd (x + c6, y + c6)) := fun s9 => by
    simp only [m2_eq, m1_eq, mB_eq, asB_bool, tru_eq, truD_bool, truD_int, truD_list, truD_tuple, truD_none, andB_eq, orB_eq, notB_eq, andD_eq, orD_eq, notD_eq, ifD_eq, chD_eq, cI_eq, cB_eq, cS_eq, cN_eq, nilA_eq, consA_eq, tupD_eq, lstF_eq, asL_eq, cD_eq, cF_eq, m2F_eq, noP_eq, someP_eq, asI_int, m3S_eq, seqM_eq, seqO_list, seqO_tuple, borB_eq, borD_eq, borF_eq, flatO_int, flatO_bool, flatO_str, flatO_none, yesB_eq, addD_int, subD_int, iaddD_int, isubD_int, mulD_int, fdivD_int, modD_int, negD_int, ltD_int, leD_int, gtD_int, geD_int, eqD_int, neD_int, slD_list, slF_list, intD_int, intD_bool, lenD_list, lenD_tuple, absD_int, listF_list, tupleD_list, rd, List.getElem?_cons_succ, List.getElem?_cons_zero, List.set_cons_succ, List.set_cons_zero, Out.ok_bind, List.length_cons, List.length_nil, decide_true, decide_false, Bool.not_true, Bool.not_false, ↓reduceIte, if_pos mk2, e6, e7, i6, i7, modD_pos w0, h6, h7, if_pos z2]
    rfl
  have app : ∀ p, appS 7 (rd 9) [a0, a1, a2, .sh (.list (il l)), .sh (.int w), .sh (.int x), .sh (.int y), .own (.lst (pl acc)), .sh (.int (k : Int)), .sh (pd p)] = .nx [a0, a1, a2, .sh (.list (il l)), .sh (.int w), .sh (.int x), .sh (.int y), .own (.lst (pl (acc ++ [p]))), .sh (.int (k : Int)), .sh (pd p)] := fun p => by
    rw [appS_go (d := pd p) rfl rfl (by rw [pl_len]; omega), pl_snoc]
    rfl
  unfold fbody
  by_cases h4 : dr 4 % 6 = 0
  · refine ⟨(x + c6, y + c6), .sh (pd (x + c6, y + c6)), ⟨⟨by simp only; omega, by simp only; omega⟩, ⟨by simp only; omega, by simp only; omega⟩⟩, ?_⟩
    refine (seqS_nx (setS_go (st1 s9))).trans ((seqS_nx (ifS_t ?_ (setS_go (st2 _)))).trans (app _))
    simp only [m2_eq, m1_eq, mB_eq, asB_bool, tru_eq, truD_bool, truD_int, truD_list, truD_tuple, truD_none, andB_eq, orB_eq, notB_eq, andD_eq, orD_eq, notD_eq, ifD_eq, chD_eq, cI_eq, cB_eq, cS_eq, cN_eq, nilA_eq, consA_eq, tupD_eq, lstF_eq, asL_eq, cD_eq, cF_eq, m2F_eq, noP_eq, someP_eq, asI_int, m3S_eq, seqM_eq, seqO_list, seqO_tuple, borB_eq, borD_eq, borF_eq, flatO_int, flatO_bool, flatO_str, flatO_none, yesB_eq, addD_int, subD_int, iaddD_int, isubD_int, mulD_int, fdivD_int, modD_int, negD_int, ltD_int, leD_int, gtD_int, geD_int, eqD_int, neD_int, slD_list, slF_list, intD_int, intD_bool, lenD_list, lenD_tuple, absD_int, listF_list, tupleD_list, rd, List.getElem?_cons_succ, List.getElem?_cons_zero, List.set_cons_succ, List.set_cons_zero, Out.ok_bind, List.length_cons, List.length_nil, decide_true, decide_false, Bool.not_true, Bool.not_false, ↓reduceIte, i4, modD_pos (show (0 : Int) < 6 by decide), h4]
  · refine ⟨(x + c6, y + c7), .sh (pd (x + c6, y + c7)), ⟨⟨by simp only; omega, by simp only; omega⟩, ⟨by simp only; omega, by simp only; omega⟩⟩, ?_⟩
    refine (seqS_nx (setS_go (st1 s9))).trans ((seqS_nx (ifS_f ?_ rfl)).trans (app _))
    simp only [m2_eq, m1_eq, mB_eq, asB_bool, tru_eq, truD_bool, truD_int, truD_list, truD_tuple, truD_none, andB_eq, orB_eq, notB_eq, andD_eq, orD_eq, notD_eq, ifD_eq, chD_eq, cI_eq, cB_eq, cS_eq, cN_eq, nilA_eq, consA_eq, tupD_eq, lstF_eq, asL_eq, cD_eq, cF_eq, m2F_eq, noP_eq, someP_eq, asI_int, m3S_eq, seqM_eq, seqO_list, seqO_tuple, borB_eq, borD_eq, borF_eq, flatO_int, flatO_bool, flatO_str, flatO_none, yesB_eq, addD_int, subD_int, iaddD_int, isubD_int, mulD_int, fdivD_int, modD_int, negD_int, ltD_int, leD_int, gtD_int, geD_int, eqD_int, neD_int, slD_list, slF_list, intD_int, intD_bool, lenD_list, lenD_tuple, absD_int, listF_list, tupleD_list, rd, List.getElem?_cons_succ, List.getElem?_cons_zero, List.set_cons_succ, List.set_cons_zero, Out.ok_bind, List.length_cons, List.length_nil, decide_true, decide_false, Bool.not_true, Bool.not_false, ↓reduceIte, i4, modD_pos (show (0 : Int) < 6 by decide), decide_eq_false h4]
theorem F_field_draw (ns : List Int) (k most : Nat) (h1 : 1 ≤ most) (h2 : most ≤ 8) : ∃ st : List Pt, 1 ≤ st.length ∧ st.length ≤ most ∧ (∀ p ∈ st, Bx p) ∧ F__law_field [roD (ns.map .int), .int (k : Int), .int (most : Int)] = .ok (.list (pl st)) := by
  obtain ⟨l, hl, hnum⟩ := F_numbers (cellOf ns k) (6 + 2 * most) 5040 (by decide) (by decide) (by omega)
  obtain ⟨dr, D⟩ := hl.dr
  obtain ⟨c0, g0, l0⟩ := mods (dr 0) 4 (by decide)
  obtain ⟨w, hw1, hw2, hw⟩ := fl_wide l0
  obtain ⟨c1, g1, l1⟩ := mods (dr 1) (2 * w + 1) (by omega)
  obtain ⟨c2, g2, l2⟩ := mods (dr 2) (2 * w + 1) (by omega)
  obtain ⟨c3, g3, l3⟩ := mods (dr 3) (most : Int) (by omega)
  have i0 := D.ix0 (by omega)
  have i1 := D.ix1 (by omega)
  have i2 : ixD (.list (il l)) (.int 2) = .ok (.int (dr 2)) := D.ix (k := 2) (by omega)
  have i3 : ixD (.list (il l)) (.int 3) = .ok (.int (dr 3)) := D.ix (k := 3) (by omega)
  have i5 : ixD (.list (il l)) (.int 5) = .ok (.int (dr 5)) := D.ix (k := 5) (by omega)
  have mkm : mulOk 2 (most : Int) := mulOk_ll (by decide) (by decide)
  have mkw : mulOk 2 w := mulOk_ll (by decide) (by decide)
  have z4 : 4 ≤ sizeLine := sizes (by decide)
  have z0 : 0 ≤ sizeLine := sizes (by decide)
  have em : (6 : Int) + 2 * (most : Int) = ((6 + 2 * most : Nat) : Int) := by omega
  have hc := F_cell ns k
  have run : ∀ st, m__law_field (start0 10 [roD (ns.map .int), .int (k : Int), .int (most : Int)]) = .rt (.list (pl st)) → F__law_field [roD (ns.map .int), .int (k : Int), .int (most : Int)] = .ok (.list (pl st)) := fun st h => runD_rt h rfl
  have key : ∃ st : List Pt, 1 ≤ st.length ∧ st.length ≤ most ∧ (∀ p ∈ st, Bx p) ∧ m__law_field (start0 10 [roD (ns.map .int), .int (k : Int), .int (most : Int)]) = .rt (.list (pl st)) := by
    have s3 : (asL (cF F__law_numbers (consA (cD F__law_cell (consA (rd 0) (consA (rd 1) nilA))) (consA (m2 addD (cI 6) (m2 mulD (cI 2) (rd 2))) (consA (cI 5040) nilA))))) [.sh (roD (ns.map .int)), .sh (.int (k : Int)), .sh (.int (most : Int)), .un, .un, .un, .un, .un, .un, .un] = .ok (.list (il l)) := by
      simp only [m2_eq, m1_eq, mB_eq, asB_bool, tru_eq, truD_bool, truD_int, truD_list, truD_tuple, truD_none, andB_eq, orB_eq, notB_eq, andD_eq, orD_eq, notD_eq, ifD_eq, chD_eq, cI_eq, cB_eq, cS_eq, cN_eq, nilA_eq, consA_eq, tupD_eq, lstF_eq, asL_eq, cD_eq, cF_eq, m2F_eq, noP_eq, someP_eq, asI_int, m3S_eq, seqM_eq, seqO_list, seqO_tuple, borB_eq, borD_eq, borF_eq, flatO_int, flatO_bool, flatO_str, flatO_none, yesB_eq, addD_int, subD_int, iaddD_int, isubD_int, mulD_int, fdivD_int, modD_int, negD_int, ltD_int, leD_int, gtD_int, geD_int, eqD_int, neD_int, slD_list, slF_list, intD_int, intD_bool, lenD_list, lenD_tuple, absD_int, listF_list, tupleD_list, rd, List.getElem?_cons_succ, List.getElem?_cons_zero, List.set_cons_succ, List.set_cons_zero, Out.ok_bind, List.length_cons, List.length_nil, decide_true, decide_false, Bool.not_true, Bool.not_false, ↓reduceIte, hc, if_pos mkm, em, hnum]
      rfl
    have s4 : (m2 ixD (asL (lstF (consA (cI 2) (consA (cI 5) (consA (cI 12) (consA (cI 400) nilA)))))) (m2 modD (m2 ixD (rd 3) (cI 0)) (cI 4))) [.sh (roD (ns.map .int)), .sh (.int (k : Int)), .sh (.int (most : Int)), .sh (.list (il l)), .un, .un, .un, .un, .un, .un] = .ok (.int w) := by
      simp only [m2_eq, m1_eq, mB_eq, asB_bool, tru_eq, truD_bool, truD_int, truD_list, truD_tuple, truD_none, andB_eq, orB_eq, notB_eq, andD_eq, orD_eq, notD_eq, ifD_eq, chD_eq, cI_eq, cB_eq, cS_eq, cN_eq, nilA_eq, consA_eq, tupD_eq, lstF_eq, asL_eq, cD_eq, cF_eq, m2F_eq, noP_eq, someP_eq, asI_int, m3S_eq, seqM_eq, seqO_list, seqO_tuple, borB_eq, borD_eq, borF_eq, flatO_int, flatO_bool, flatO_str, flatO_none, yesB_eq, addD_int, subD_int, iaddD_int, isubD_int, mulD_int, fdivD_int, modD_int, negD_int, ltD_int, leD_int, gtD_int, geD_int, eqD_int, neD_int, slD_list, slF_list, intD_int, intD_bool, lenD_list, lenD_tuple, absD_int, listF_list, tupleD_list, rd, List.getElem?_cons_succ, List.getElem?_cons_zero, List.set_cons_succ, List.set_cons_zero, Out.ok_bind, List.length_cons, List.length_nil, decide_true, decide_false, Bool.not_true, Bool.not_false, ↓reduceIte, i0, modD_pos (show (0 : Int) < 4 by decide), g0, if_pos (show 0 + 1 + 1 + 1 + 1 ≤ sizeLine from z4), hw]
    have s5 : (m2 subD (m2 modD (m2 ixD (rd 3) (cI 1)) (m2 addD (m2 mulD (cI 2) (rd 4)) (cI 1))) (rd 4)) [.sh (roD (ns.map .int)), .sh (.int (k : Int)), .sh (.int (most : Int)), .sh (.list (il l)), .sh (.int w), .un, .un, .un, .un, .un] = .ok (.int (c1 - w)) := by
      simp only [m2_eq, m1_eq, mB_eq, asB_bool, tru_eq, truD_bool, truD_int, truD_list, truD_tuple, truD_none, andB_eq, orB_eq, notB_eq, andD_eq, orD_eq, notD_eq, ifD_eq, chD_eq, cI_eq, cB_eq, cS_eq, cN_eq, nilA_eq, consA_eq, tupD_eq, lstF_eq, asL_eq, cD_eq, cF_eq, m2F_eq, noP_eq, someP_eq, asI_int, m3S_eq, seqM_eq, seqO_list, seqO_tuple, borB_eq, borD_eq, borF_eq, flatO_int, flatO_bool, flatO_str, flatO_none, yesB_eq, addD_int, subD_int, iaddD_int, isubD_int, mulD_int, fdivD_int, modD_int, negD_int, ltD_int, leD_int, gtD_int, geD_int, eqD_int, neD_int, slD_list, slF_list, intD_int, intD_bool, lenD_list, lenD_tuple, absD_int, listF_list, tupleD_list, rd, List.getElem?_cons_succ, List.getElem?_cons_zero, List.set_cons_succ, List.set_cons_zero, Out.ok_bind, List.length_cons, List.length_nil, decide_true, decide_false, Bool.not_true, Bool.not_false, ↓reduceIte, i1, if_pos mkw, modD_pos (show (0 : Int) < 2 * w + 1 by omega), g1]
    have s6 : (m2 subD (m2 modD (m2 ixD (rd 3) (cI 2)) (m2 addD (m2 mulD (cI 2) (rd 4)) (cI 1))) (rd 4)) [.sh (roD (ns.map .int)), .sh (.int (k : Int)), .sh (.int (most : Int)), .sh (.list (il l)), .sh (.int w), .sh (.int (c1 - w)), .un, .un, .un, .un] = .ok (.int (c2 - w)) := by
      simp only [m2_eq, m1_eq, mB_eq, asB_bool, tru_eq, truD_bool, truD_int, truD_list, truD_tuple, truD_none, andB_eq, orB_eq, notB_eq, andD_eq, orD_eq, notD_eq, ifD_eq, chD_eq, cI_eq, cB_eq, cS_eq, cN_eq, nilA_eq, consA_eq, tupD_eq, lstF_eq, asL_eq, cD_eq, cF_eq, m2F_eq, noP_eq, someP_eq, asI_int, m3S_eq, seqM_eq, seqO_list, seqO_tuple, borB_eq, borD_eq, borF_eq, flatO_int, flatO_bool, flatO_str, flatO_none, yesB_eq, addD_int, subD_int, iaddD_int, isubD_int, mulD_int, fdivD_int, modD_int, negD_int, ltD_int, leD_int, gtD_int, geD_int, eqD_int, neD_int, slD_list, slF_list, intD_int, intD_bool, lenD_list, lenD_tuple, absD_int, listF_list, tupleD_list, rd, List.getElem?_cons_succ, List.getElem?_cons_zero, List.set_cons_succ, List.set_cons_zero, Out.ok_bind, List.length_cons, List.length_nil, decide_true, decide_false, Bool.not_true, Bool.not_false, ↓reduceIte, i2, if_pos mkw, modD_pos (show (0 : Int) < 2 * w + 1 by omega), g2]
    have s7 : (lstF nilA) [.sh (roD (ns.map .int)), .sh (.int (k : Int)), .sh (.int (most : Int)), .sh (.list (il l)), .sh (.int w), .sh (.int (c1 - w)), .sh (.int (c2 - w)), .un, .un, .un] = .ok (pl []) := by
      simp only [m2_eq, m1_eq, mB_eq, asB_bool, tru_eq, truD_bool, truD_int, truD_list, truD_tuple, truD_none, andB_eq, orB_eq, notB_eq, andD_eq, orD_eq, notD_eq, ifD_eq, chD_eq, cI_eq, cB_eq, cS_eq, cN_eq, nilA_eq, consA_eq, tupD_eq, lstF_eq, asL_eq, cD_eq, cF_eq, m2F_eq, noP_eq, someP_eq, asI_int, m3S_eq, seqM_eq, seqO_list, seqO_tuple, borB_eq, borD_eq, borF_eq, flatO_int, flatO_bool, flatO_str, flatO_none, yesB_eq, addD_int, subD_int, iaddD_int, isubD_int, mulD_int, fdivD_int, modD_int, negD_int, ltD_int, leD_int, gtD_int, geD_int, eqD_int, neD_int, slD_list, slF_list, intD_int, intD_bool, lenD_list, lenD_tuple, absD_int, listF_list, tupleD_list, rd, List.getElem?_cons_succ, List.getElem?_cons_zero, List.set_cons_succ, List.set_cons_zero, Out.ok_bind, List.length_cons, List.length_nil, decide_true, decide_false, Bool.not_true, Bool.not_false, ↓reduceIte, if_pos z0]
      rfl
    obtain ⟨ρ', e, acc, s8, s9, hlen, hbx, rfl⟩ := forD_inv (u := fun (x : Nat) => PyData.int (x : Int)) (g := gN 8) (b := fbody) (m := 1 + c3) (fun n ρ => ∃ acc : List Pt, ∃ s8 s9, acc.length = n ∧ (∀ p ∈ acc, Bx p) ∧ ρ = [.sh (roD (ns.map .int)), .sh (.int (k : Int)), .sh (.int (most : Int)), .sh (.list (il l)), .sh (.int w), .sh (.int (c1 - w)), .sh (.int (c2 - w)), .own (.lst (pl acc)), s8, s9])
      (List.range (1 + c3)) 0 [.sh (roD (ns.map .int)), .sh (.int (k : Int)), .sh (.int (most : Int)), .sh (.list (il l)), .sh (.int w), .sh (.int (c1 - w)), .sh (.int (c2 - w)), .own (.lst (pl [])), .un, .un] (by rw [List.length_range]; omega) ⟨[], _, _, rfl, by simp, rfl⟩ (fun x hx n ρ hn hI => by
        obtain ⟨acc, s8, s9, hlen, hbx, rfl⟩ := hI
        have hxl := List.mem_range.mp hx
        obtain ⟨p, s9', hp, e⟩ := fbody_ok D (w := w) (x := c1 - w) (y := c2 - w) ⟨hw1, hw2⟩ (by omega) (by omega) (k := x) (by omega) (by omega) (.sh (roD (ns.map .int))) (.sh (.int (k : Int))) (.sh (.int (most : Int))) s9 acc (by omega)
        refine ⟨_, _, rfl, e, acc ++ [p], _, _, by simp [hlen], fun q hq => ?_, rfl⟩
        rcases List.mem_append.mp hq with hq | hq
        · exact hbx q hq
        · rw [List.mem_singleton] at hq; subst hq; exact hp)
    rw [List.length_range, Nat.zero_add] at hlen
    have hacc0 : 0 < acc.length := by omega
    have r8 : (cF rng1 (consA (m2 addD (cI 1) (m2 modD (m2 ixD (rd 3) (cI 3)) (rd 2))) nilA)) [.sh (roD (ns.map .int)), .sh (.int (k : Int)), .sh (.int (most : Int)), .sh (.list (il l)), .sh (.int w), .sh (.int (c1 - w)), .sh (.int (c2 - w)), .own (.lst (pl [])), .un, .un] = .ok ((List.range (1 + c3)).map fun (x : Nat) => PyData.int (x : Int)) := by
      have e1 : (1 : Int) + (c3 : Int) = ((1 + c3 : Nat) : Int) := by omega
      simp only [m2_eq, m1_eq, mB_eq, asB_bool, tru_eq, truD_bool, truD_int, truD_list, truD_tuple, truD_none, andB_eq, orB_eq, notB_eq, andD_eq, orD_eq, notD_eq, ifD_eq, chD_eq, cI_eq, cB_eq, cS_eq, cN_eq, nilA_eq, consA_eq, tupD_eq, lstF_eq, asL_eq, cD_eq, cF_eq, m2F_eq, noP_eq, someP_eq, asI_int, m3S_eq, seqM_eq, seqO_list, seqO_tuple, borB_eq, borD_eq, borF_eq, flatO_int, flatO_bool, flatO_str, flatO_none, yesB_eq, addD_int, subD_int, iaddD_int, isubD_int, mulD_int, fdivD_int, modD_int, negD_int, ltD_int, leD_int, gtD_int, geD_int, eqD_int, neD_int, slD_list, slF_list, intD_int, intD_bool, lenD_list, lenD_tuple, absD_int, listF_list, tupleD_list, rd, List.getElem?_cons_succ, List.getElem?_cons_zero, List.set_cons_succ, List.set_cons_zero, Out.ok_bind, List.length_cons, List.length_nil, decide_true, decide_false, Bool.not_true, Bool.not_false, ↓reduceIte, i3, modD_pos (show (0 : Int) < (most : Int) by omega), g3, e1, rng1_nat (show 1 + c3 ≤ 1000000000 by omega), rangeL_zero]
    have fin : ∀ (acc : List Pt) (s8 s9 : Sl), (frzS [7] (retS (m3S slD (rd 7) (someP (cI 0)) (someP (rd 2))))) [.sh (roD (ns.map .int)), .sh (.int (k : Int)), .sh (.int (most : Int)), .sh (.list (il l)), .sh (.int w), .sh (.int (c1 - w)), .sh (.int (c2 - w)), .own (.lst (pl acc)), s8, s9] = .rt (.list (pl (acc.take most))) := fun acc s8 s9 => by
      show retS _ [.sh (roD (ns.map .int)), .sh (.int (k : Int)), .sh (.int (most : Int)), .sh (.list (il l)), .sh (.int w), .sh (.int (c1 - w)), .sh (.int (c2 - w)), .sh (.list (pl acc)), s8, s9] = _
      refine retS_go ?_
      simp only [m2_eq, m1_eq, mB_eq, asB_bool, tru_eq, truD_bool, truD_int, truD_list, truD_tuple, truD_none, andB_eq, orB_eq, notB_eq, andD_eq, orD_eq, notD_eq, ifD_eq, chD_eq, cI_eq, cB_eq, cS_eq, cN_eq, nilA_eq, consA_eq, tupD_eq, lstF_eq, asL_eq, cD_eq, cF_eq, m2F_eq, noP_eq, someP_eq, asI_int, m3S_eq, seqM_eq, seqO_list, seqO_tuple, borB_eq, borD_eq, borF_eq, flatO_int, flatO_bool, flatO_str, flatO_none, yesB_eq, addD_int, subD_int, iaddD_int, isubD_int, mulD_int, fdivD_int, modD_int, negD_int, ltD_int, leD_int, gtD_int, geD_int, eqD_int, neD_int, slD_list, slF_list, intD_int, intD_bool, lenD_list, lenD_tuple, absD_int, listF_list, tupleD_list, rd, List.getElem?_cons_succ, List.getElem?_cons_zero, List.set_cons_succ, List.set_cons_zero, Out.ok_bind, List.length_cons, List.length_nil, decide_true, decide_false, Bool.not_true, Bool.not_false, ↓reduceIte, cut_take, pl_take]
    have body : ∀ st, (seqS (ifS (mB (m2 eqD (m2 modD (m2 ixD (rd 3) (cI 5)) (cI 5)) (cI 0)))
    (appS 7 (ownIx 7 (cI 0)))
    .nx)
    (frzS [7] (retS (m3S slD (rd 7) (someP (cI 0)) (someP (rd 2)))))) [.sh (roD (ns.map .int)), .sh (.int (k : Int)), .sh (.int (most : Int)), .sh (.list (il l)), .sh (.int w), .sh (.int (c1 - w)), .sh (.int (c2 - w)), .own (.lst (pl acc)), s8, s9] = .rt (.list (pl st)) → m__law_field (start0 10 [roD (ns.map .int), .int (k : Int), .int (most : Int)]) = .rt (.list (pl st)) := fun st h => by
      unfold m__law_field
      exact (seqS_nx (setS_go s3)).trans ((seqS_nx (setS_go s4)).trans ((seqS_nx (setS_go s5)).trans ((seqS_nx (setS_go s6)).trans ((seqS_nx (setFS_go s7)).trans ((seqS_nx (forS_go r8 e)).trans h)))))
    by_cases h5 : dr 5 % 5 = 0
    · obtain ⟨p, acc', rfl⟩ : ∃ p acc', acc = p :: acc' := by
        cases acc with
        | nil => simp at hacc0
        | cons p acc' => exact ⟨p, acc', rfl⟩
      refine ⟨((p :: acc') ++ [p]).take most, ?_, ?_, fun q hq => ?_, body _ ((seqS_nx (ifS_t ?_ ?_)).trans (fin ((p :: acc') ++ [p]) s8 s9))⟩
      · rw [List.length_take]; simp; omega
      · rw [List.length_take]; omega
      · have hq := List.mem_of_mem_take hq
        rcases List.mem_append.mp hq with hq | hq
        · exact hbx q hq
        · rw [List.mem_singleton] at hq; subst hq; exact hbx q List.mem_cons_self
      · simp only [m2_eq, m1_eq, mB_eq, asB_bool, tru_eq, truD_bool, truD_int, truD_list, truD_tuple, truD_none, andB_eq, orB_eq, notB_eq, andD_eq, orD_eq, notD_eq, ifD_eq, chD_eq, cI_eq, cB_eq, cS_eq, cN_eq, nilA_eq, consA_eq, tupD_eq, lstF_eq, asL_eq, cD_eq, cF_eq, m2F_eq, noP_eq, someP_eq, asI_int, m3S_eq, seqM_eq, seqO_list, seqO_tuple, borB_eq, borD_eq, borF_eq, flatO_int, flatO_bool, flatO_str, flatO_none, yesB_eq, addD_int, subD_int, iaddD_int, isubD_int, mulD_int, fdivD_int, modD_int, negD_int, ltD_int, leD_int, gtD_int, geD_int, eqD_int, neD_int, slD_list, slF_list, intD_int, intD_bool, lenD_list, lenD_tuple, absD_int, listF_list, tupleD_list, rd, List.getElem?_cons_succ, List.getElem?_cons_zero, List.set_cons_succ, List.set_cons_zero, Out.ok_bind, List.length_cons, List.length_nil, decide_true, decide_false, Bool.not_true, Bool.not_false, ↓reduceIte, i5, modD_pos (show (0 : Int) < 5 by decide), h5]
      · rw [appS_go (ds := pl (p :: acc')) (d := pd p) rfl (ownIx_go (n := 0) (ds := pl (p :: acc')) rfl rfl rfl) (by rw [pl_len]; omega), pl_snoc]
        rfl
    · refine ⟨acc.take most, ?_, ?_, fun q hq => hbx q (List.mem_of_mem_take hq), body _ ((seqS_nx (ifS_f ?_ rfl)).trans (fin acc s8 s9))⟩
      · rw [List.length_take]; omega
      · rw [List.length_take]; omega
      · simp only [m2_eq, m1_eq, mB_eq, asB_bool, tru_eq, truD_bool, truD_int, truD_list, truD_tuple, truD_none, andB_eq, orB_eq, notB_eq, andD_eq, orD_eq, notD_eq, ifD_eq, chD_eq, cI_eq, cB_eq, cS_eq, cN_eq, nilA_eq, consA_eq, tupD_eq, lstF_eq, asL_eq, cD_eq, cF_eq, m2F_eq, noP_eq, someP_eq, asI_int, m3S_eq, seqM_eq, seqO_list, seqO_tuple, borB_eq, borD_eq, borF_eq, flatO_int, flatO_bool, flatO_str, flatO_none, yesB_eq, addD_int, subD_int, iaddD_int, isubD_int, mulD_int, fdivD_int, modD_int, negD_int, ltD_int, leD_int, gtD_int, geD_int, eqD_int, neD_int, slD_list, slF_list, intD_int, intD_bool, lenD_list, lenD_tuple, absD_int, listF_list, tupleD_list, rd, List.getElem?_cons_succ, List.getElem?_cons_zero, List.set_cons_succ, List.set_cons_zero, Out.ok_bind, List.length_cons, List.length_nil, decide_true, decide_false, Bool.not_true, Bool.not_false, ↓reduceIte, i5, modD_pos (show (0 : Int) < 5 by decide), decide_eq_false h5]
  obtain ⟨st, a, b, c, h⟩ := key
  exact ⟨st, a, b, c, run st h⟩
end fdraw

end
end Lw
namespace Lw
noncomputable section
open PySem PySem.Spec PyProof.Rows L2 DL
/-! numbers in texts -/
section num72
open HT TL
def dg72 (w : Str) : List Nat := if (tl w).head? = some 45 then (tl w).drop 1 else tl w
structure IsNum (w : Str) : Prop where
  l1 : 1 ≤ (dg72 w).length
  l2 : (dg72 w).length ≤ 30
  ds : NumText.AllDigits (dg72 w)
  z : (dg72 w).head? ≠ some 48 ∨ w = "0"
instance (w : Str) : Decidable (IsNum w) := Classical.propDecidable _
def val72 (w : Str) : Int := if (tl w).head? = some 45 then -((NumText.digitsVal (dg72 w) : Nat) : Int) else ((NumText.digitsVal (dg72 w) : Nat) : Int)
def num72 (w : Str) : Option Int := if IsNum w then some (val72 w) else none
theorem str_eq {x y : Str} : x = y ↔ tl x = tl y := ⟨fun h => h ▸ rfl, ext_tl⟩
theorem tl_minus : tl ("-" : Str) = [45] := by decide +kernel
theorem tl_zero : tl ("0" : Str) = [48] := by decide +kernel
theorem tl_cut (z : Str) (lo hi : Option Int) : tl (cutS z lo hi) = ((tl z).drop (HT.sIx z.length 0 lo)).take (HT.sIx z.length z.length hi - HT.sIx z.length 0 lo) := by
  unfold cutS tl
  simp
theorem tl_cut1 (z : Str) : tl (cutS z none (some 1)) = (tl z).take 1 := by
  rw [tl_cut, show HT.sIx z.length 0 none = 0 from rfl, show (1 : Int) = ((1 : Nat) : Int) from rfl, HT.sIx_nat, List.drop_zero, Nat.sub_zero]
  rw [len_tl]
  by_cases h : 1 ≤ (tl z).length
  · rw [Nat.min_eq_left h]
  · rw [Nat.min_eq_right (by omega), List.take_of_length_le (Nat.le_refl _), List.take_of_length_le (by omega)]
theorem tl_cut01 (z : Str) : tl (cutS z (some 0) (some 1)) = (tl z).take 1 := by
  rw [← tl_cut1, tl_cut, tl_cut]
  congr 1
theorem tl_from (z : Str) (k : Nat) : tl (cutS z (some (k : Int)) none) = (tl z).drop k := by
  rw [tl_cut, HT.sIx_nat, HT.sIx_none, len_tl]
  by_cases h : k ≤ (tl z).length
  · rw [Nat.min_eq_left h, List.take_of_length_le (by simp)]
  · rw [Nat.min_eq_right (by omega), List.drop_eq_nil_of_le (Nat.le_refl _), List.drop_eq_nil_of_le (by omega), List.take_nil]
theorem minus_iff (w : Str) : (cutS w none (some 1) = "-") ↔ (tl w).head? = some 45 := by
  rw [str_eq, tl_cut1, tl_minus]
  cases tl w with
  | nil => simp
  | cons c r => simp
theorem minus_iff2 (w : Str) : (cutS w (some 0) (some 1) = "-") ↔ (tl w).head? = some 45 := by
  rw [str_eq, tl_cut01, tl_minus]
  cases tl w with
  | nil => simp
  | cons c r => simp
def dgS (w : Str) : Str := ⟨(dg72 w).toArray⟩
theorem tl_dgS (w : Str) : tl (dgS w) = dg72 w := by unfold dgS tl; simp
theorem len_dgS (w : Str) : (dgS w).length = (dg72 w).length := by rw [len_tl, tl_dgS]
theorem dg_len (w : Str) : (dg72 w).length ≤ w.length := by
  rw [len_tl]
  unfold dg72
  split
  · simp
  · exact Nat.le_refl _
theorem cut_dg (w : Str) : cutS w (some (if (tl w).head? = some 45 then 1 else 0)) none = dgS w := by
  rw [str_eq, tl_dgS]
  unfold dg72
  split
  · exact tl_from w 1
  · exact (tl_from w 0).trans List.drop_zero
theorem chars_dg (w : Str) : chars (dgS w) = (dg72 w).map fun c => PyData.str ⟨#[c]⟩ := by
  unfold chars
  rw [show (dgS w).cps.toList = dg72 w from tl_dgS w]
theorem tl_digits : tl ("0123456789" : Str) = [48, 49, 50, 51, 52, 53, 54, 55, 56, 57] := by decide +kernel
theorem mem_digits (c : Nat) : c ∈ tl ("0123456789" : Str) ↔ 48 ≤ c ∧ c ≤ 57 := by
  rw [tl_digits]
  simp only [List.mem_cons, List.not_mem_nil, or_false]
  omega
theorem in_digits (c : Nat) : inD false (.str ⟨#[c]⟩) (.str "0123456789") = .ok (.bool (decide (48 ≤ c ∧ c ≤ 57))) := by
  show Out.ok (PyData.bool (if false = true then _ else !(Builtin.Str.occurrences ("0123456789" : Str) ⟨#[c]⟩ 0 ("0123456789" : Str).length 1).isEmpty)) = _
  rw [if_neg (by decide), StrLaws.found_one]
  congr 2
  exact decide_eq_decide.mpr (mem_digits c)
theorem notin_digits (c : Nat) : inD true (.str ⟨#[c]⟩) (.str "0123456789") = .ok (.bool (!decide (48 ≤ c ∧ c ≤ 57))) := by
  show Out.ok (PyData.bool (if true = true then !(!(Builtin.Str.occurrences ("0123456789" : Str) ⟨#[c]⟩ 0 ("0123456789" : Str).length 1).isEmpty) else _)) = _
  rw [if_pos rfl, StrLaws.found_one]
  congr 3
  exact decide_eq_decide.mpr (mem_digits c)
theorem int_dg {w : Str} (h1 : 1 ≤ (dg72 w).length) (h2 : (dg72 w).length ≤ 30) (h3 : NumText.AllDigits (dg72 w)) : intT [.str (dgS w)] = .ok (.int ((NumText.digitsVal (dg72 w) : Nat) : Int)) := by
  have e := PySem.intText_digits (x := dgS w) (by rw [show (dgS w).cps.toList = dg72 w from tl_dgS w]; exact h3) (by rw [show (dgS w).cps.toList = dg72 w from tl_dgS w]; intro z; rw [z] at h1; simp at h1) (by rw [len_dgS]; omega)
  rw [show (dgS w).cps.toList = dg72 w from tl_dgS w] at e
  unfold intT
  have hl : (dgS w).length ≤ 640 := by rw [len_dgS]; omega
  simp only [hl, if_true]
  have e2 : PySem.intText? (dgS w) = some ((NumText.digitsVal (dg72 w) : Nat) : Int) := e
  rw [e2]
theorem F_demand_t : F_demand [.bool true] = .ok .none := by
  unfold F_demand runD m_demand
  simp [start0, rd]
theorem F_demand_f : F_demand [.bool false] = .ex "InvalidLine" := by
  unfold F_demand runD m_demand
  simp [start0, rd, raiseS]
theorem len_w {w : Str} (hw : w.length ≤ 1000000) : w.length ≤ sizeLine := sizes (by omega)
theorem lenD_str {z : Str} (h : z.length ≤ 1000000) : lenD [.str z] = .ok (.int z.length) := by
  show (if z.length ≤ sizeLine then Out.ok (PyData.int z.length) else .no) = _
  rw [if_pos (len_w h)]
theorem slD_str {z : Str} (lo hi : Option Int) (h : z.length ≤ 1000000) : slD (.str z) lo hi = .ok (.str (cutS z lo hi)) := by
  show (if z.length ≤ sizeLine then Out.ok (PyData.str (cutS z lo hi)) else .no) = _
  rw [if_pos (len_w h)]
instance (cs : List Nat) : Decidable (NumText.AllDigits cs) := Classical.propDecidable _
theorem allDigits_iff (cs : List Nat) : (cs.all fun c => decide (48 ≤ c ∧ c ≤ 57)) = decide (NumText.AllDigits cs) := by
  rw [Bool.eq_iff_iff, decide_eq_true_iff, List.all_eq_true]
  exact ⟨fun h c hc => of_decide_eq_true (h c hc), fun h c hc => decide_eq_true (h c hc)⟩
theorem all_dg (w : Str) : allD [.list ((dg72 w).map fun c => PyData.bool (decide (48 ≤ c ∧ c ≤ 57)))] = .ok (.bool (decide (NumText.AllDigits (dg72 w)))) := by
  rw [all_map, allDigits_iff]
theorem ix_str0 {z : Str} {c : Nat} {r : List Nat} (h : z.length ≤ 1000000) (e : tl z = c :: r) : ixD (.str z) (.int 0) = .ok (.str ⟨#[c]⟩) := by
  show (if z.length ≤ sizeLine then (match atI z.cps.toList 0 with | some c => Out.ok (PyData.str ⟨#[c]⟩) | none => .no) else .no) = _
  rw [if_pos (len_w h), show z.cps.toList = c :: r from e, atI_zero]
  rfl
theorem lit0 : ("0" : Str) = ⟨#[48]⟩ := ext_tl (tl_zero.trans (by simp [tl]))
theorem litm : ("-" : Str) = ⟨#[45]⟩ := ext_tl (tl_minus.trans (by simp [tl]))
theorem dg_ne {w : Str} (h1 : 1 ≤ (dg72 w).length) : ∃ c r, dg72 w = c :: r := by
  cases e : dg72 w with
  | nil => rw [e] at h1; simp at h1
  | cons c r => exact ⟨c, r, rfl⟩
theorem w_ne {w : Str} (h1 : 1 ≤ (dg72 w).length) : ∃ c r, tl w = c :: r := by
  cases e : tl w with
  | nil =>
    unfold dg72 at h1
    rw [e] at h1
    simp at h1
  | cons c r => exact ⟨c, r, rfl⟩
theorem str1_eq (c d : Nat) : ((⟨#[c]⟩ : Str) = ⟨#[d]⟩) ↔ c = d := by
  constructor
  · intro h
    have := congrArg (fun x : Str => tl x) h
    simpa [tl] using this
  · rintro rfl; rfl
theorem F_number_in_ok {w : Str} (hw : w.length ≤ 1000000) : F_number_in [.str w] = match num72 w with
    | some i => .ok (.int i)
    | none => .ex "InvalidLine" := by
  have hs : start0 3 [.str w] = [.sh (.str w), .un, .un] := rfl
  have q1 : m3S slD (rd 0) (someP (cD intT (consA (m2 eqD (m3S slD (rd 0) noP (someP (cI 1))) (cS "-")) nilA))) noP [.sh (.str w), .un, .un] = .ok (.str (dgS w)) := by
    have e1 : decide (cutS w none (some 1) = "-") = decide ((tl w).head? = some 45) := decide_eq_decide.mpr (minus_iff w)
    have e2 : intT [.bool (decide ((tl w).head? = some 45))] = .ok (.int (if (tl w).head? = some 45 then 1 else 0)) := by
      show Out.ok (PyData.int (if decide ((tl w).head? = some 45) = true then 1 else 0)) = _
      by_cases h : (tl w).head? = some 45
      · simp [h]
      · simp [h]
    simp only [m3S_eq, rd, List.getElem?_cons_zero, someP_eq, cD_eq, consA_eq, m2_eq, noP_eq, cI_eq, cS_eq, nilA_eq, Out.ok_bind, asI_int, slD_str _ _ hw, eqD_str, e1, e2, cut_dg]
  have hd := dg_len w
  have lenS : (dgS w).length ≤ 1000000 := by rw [len_dgS]; omega
  have q2 : cD allD (consA (asL (lcF (seqM (rd 1)) (gN 2) yesB (m2 (inD false) (rd 2) (cG dv_DIGITS)) [2])) nilA) [.sh (.str w), .sh (.str (dgS w)), .un] = .ok (.bool (decide (NumText.AllDigits (dg72 w)))) := by
    have hc : lcF (seqM (rd 1)) (gN 2) yesB (m2 (inD false) (rd 2) (cG dv_DIGITS)) [2] [.sh (.str w), .sh (.str (dgS w)), .un] = .ok ((dg72 w).map fun c => PyData.bool (decide (48 ≤ c ∧ c ≤ 57))) :=
      lc_all (l := dg72 w) (u := fun c => .str ⟨#[c]⟩) (by simp only [seqM_eq, rd, List.getElem?_cons_succ, List.getElem?_cons_zero, Out.ok_bind, seqO_str, chars_dg]) (by omega) fun c hc => by
        have e := in_digits c
        have e2 : dv_DIGITS = .str "0123456789" := rfl
        simp only [stpF, wipeR, gN_eq, yesB_eq, Out.ok_bind, if_true, m2_eq, rd, List.set_cons_succ, List.set_cons_zero, List.getElem?_cons_succ, List.getElem?_cons_zero, cG, e2, e]
    simp only [cD_eq, consA_eq, asL_eq, hc, nilA_eq, Out.ok_bind, all_dg]
  have q3 : chD leD leD (cI 1) (cD lenD (consA (rd 1) nilA)) (cG dv_MOST_DIGITS) [.sh (.str w), .sh (.str (dgS w)), .un] = .ok (.bool (decide (1 ≤ (dg72 w).length ∧ (dg72 w).length ≤ 30))) := by
    have e2 : dv_MOST_DIGITS = .int 30 := rfl
    simp only [chD_eq, cI_eq, cD_eq, consA_eq, nilA_eq, rd, List.getElem?_cons_succ, List.getElem?_cons_zero, Out.ok_bind, lenD_str lenS, leD_int, asB_bool, cG, e2, len_dgS]
    by_cases h1 : 1 ≤ (dg72 w).length
    · have h1' : (1 : Int) ≤ ((dg72 w).length : Int) := by omega
      simp only [h1', decide_true, if_true]
      by_cases h2 : (dg72 w).length ≤ 30
      · have h2' : ((dg72 w).length : Int) ≤ 30 := by omega
        simp [h1, h2, h2']
      · have h2' : ¬ ((dg72 w).length : Int) ≤ 30 := by omega
        simp [h1, h2, h2']
    · have h1' : ¬ (1 : Int) ≤ ((dg72 w).length : Int) := by omega
      simp [h1, h1']
  have q4 : exprS (cD F_demand (consA (andD (chD leD leD (cI 1) (cD lenD (consA (rd 1) nilA)) (cG dv_MOST_DIGITS)) (cD allD (consA (asL (lcF (seqM (rd 1)) (gN 2) yesB (m2 (inD false) (rd 2) (cG dv_DIGITS)) [2])) nilA))) nilA)) [.sh (.str w), .sh (.str (dgS w)), .un]
      = if (1 ≤ (dg72 w).length ∧ (dg72 w).length ≤ 30) ∧ NumText.AllDigits (dg72 w) then .nx [.sh (.str w), .sh (.str (dgS w)), .un] else .ex "InvalidLine" [.sh (.str w), .sh (.str (dgS w)), .un] := by
    unfold exprS
    rw [cD_eq, consA_eq, andD_eq, q3, q2]
    by_cases h1 : 1 ≤ (dg72 w).length ∧ (dg72 w).length ≤ 30
    · by_cases h2 : NumText.AllDigits (dg72 w)
      · rw [decide_eq_true h1, decide_eq_true h2, if_pos ⟨h1, h2⟩]
        simp only [Out.ok_bind, asB_bool, if_true, nilA_eq, F_demand_t, thenF_ok]
      · rw [decide_eq_true h1, decide_eq_false h2, if_neg fun z => h2 z.2]
        simp only [Out.ok_bind, asB_bool, if_true, nilA_eq, F_demand_f]
        rfl
    · rw [decide_eq_false h1, if_neg fun z => h1 z.1]
      simp only [Out.ok_bind, asB_bool, Bool.false_eq_true, if_false, nilA_eq, F_demand_f]
      rfl
  unfold F_number_in runD
  rw [if_pos (show ([PyData.str w] : List PyData).length = 1 from rfl), hs]
  unfold m_number_in
  rw [seqS_nx (setS_go q1)]
  have hset : ([Sl.sh (.str w), .un, .un].set 1 (.sh (.str (dgS w))) : Ro) = [.sh (.str w), .sh (.str (dgS w)), .un] := rfl
  rw [hset, seqS_eq, q4]
  by_cases hc : (1 ≤ (dg72 w).length ∧ (dg72 w).length ≤ 30) ∧ NumText.AllDigits (dg72 w)
  · rw [if_pos hc]
    dsimp only
    obtain ⟨⟨h1, h2⟩, h3⟩ := hc
    obtain ⟨c, r, ec⟩ := dg_ne h1
    obtain ⟨c', r', ec'⟩ := w_ne h1
    have i0 := ix_str0 lenS ((tl_dgS w).trans ec)
    have iw := ix_str0 hw ec'
    have hh : (tl w).head? = some 45 ↔ c' = 45 := by rw [ec']; simp
    have q5 : exprS (cD F_demand (consA (orD (m2 neD (m2 ixD (rd 1) (cI 0)) (cS "0")) (m2 eqD (rd 0) (cS "0"))) nilA)) [.sh (.str w), .sh (.str (dgS w)), .un]
        = if c ≠ 48 ∨ w = "0" then .nx [.sh (.str w), .sh (.str (dgS w)), .un] else .ex "InvalidLine" [.sh (.str w), .sh (.str (dgS w)), .un] := by
      unfold exprS
      have e1 : neD (.str ⟨#[c]⟩) (.str "0") = .ok (.bool (!decide (c = 48))) := by
        rw [neD_str, lit0]
        congr 3
        exact decide_eq_decide.mpr (str1_eq c 48)
      rw [cD_eq, consA_eq, orD_eq]
      simp only [m2_eq, rd, cI_eq, cS_eq, List.getElem?_cons_succ, List.getElem?_cons_zero, Out.ok_bind, i0, e1, asB_bool, eqD_str, nilA_eq]
      by_cases g1 : c = 48
      · by_cases g2 : w = "0"
        · rw [if_pos (show c ≠ 48 ∨ w = "0" from .inr g2)]
          simp [g1, g2, F_demand_t]
        · rw [if_neg (show ¬ (c ≠ 48 ∨ w = "0") from fun z => z.elim (fun y => y g1) g2)]
          simp [g1, g2, F_demand_f, thenF]
      · rw [if_pos (show c ≠ 48 ∨ w = "0" from .inl g1)]
        simp [g1, F_demand_t]
    rw [seqS_eq, q5]
    by_cases hz : c ≠ 48 ∨ w = "0"
    · rw [if_pos hz]
      have hn : IsNum w := ⟨h1, h2, h3, hz.elim (fun z => .inl (by rw [ec]; simpa using z)) .inr⟩
      have hv : num72 w = some (val72 w) := if_pos hn
      have hi := int_dg h1 h2 h3
      have e1 : eqD (.str ⟨#[c']⟩) (.str "-") = .ok (.bool (decide (c' = 45))) := by
        rw [eqD_str, litm]
        congr 2
        exact decide_eq_decide.mpr (str1_eq c' 45)
      have q6 : (ifD (mB (m2 eqD (m2 ixD (rd 0) (cI 0)) (cS "-"))) (m1 negD (cD intT (consA (rd 1) nilA))) (cD intT (consA (rd 1) nilA))) [.sh (.str w), .sh (.str (dgS w)), .un] = .ok (.int (val72 w)) := by
        simp only [ifD_eq, mB_eq, m2_eq, m1_eq, cD_eq, consA_eq, nilA_eq, rd, cI_eq, cS_eq, List.getElem?_cons_succ, List.getElem?_cons_zero, Out.ok_bind, iw, e1, asB_bool, hi]
        unfold val72
        by_cases g : c' = 45
        · rw [if_pos (hh.mpr g)]
          simp [g]
        · rw [if_neg fun z => g (hh.mp z)]
          simp [g]
      dsimp only
      rw [retS_go q6, hv]
    · rw [if_neg hz]
      have hn : ¬ IsNum w := fun z => hz (z.z.elim (fun y => .inl (by rw [ec] at y; simpa using y)) .inr)
      have hv : num72 w = none := if_neg hn
      rw [hv]
  · rw [if_neg hc]
    have hn : ¬ IsNum w := fun z => hc ⟨⟨z.l1, z.l2⟩, z.ds⟩
    have : num72 w = none := if_neg hn
    rw [this]
end num72

end
end Lw
namespace Lw
noncomputable section
open PySem PySem.Spec PyProof.Rows L2 DL
/-! numbers in texts, the law's way; fractions in texts -/
section lnum72
open HT TL
theorem bad_dg (cs : List Nat) : (cs.filter fun c => !decide (48 ≤ c ∧ c ≤ 57)) = [] ↔ NumText.AllDigits cs := by
  rw [List.filter_eq_nil_iff]
  constructor
  · intro h c hc
    have := h c hc
    simpa using this
  · intro h c hc
    have := h c hc
    simpa using this
theorem F_lnumber_ok {w : Str} (hw : w.length ≤ 1000000) : F__law_number [.str w] = match num72 w with
    | some i => .ok (.int i)
    | none => .ok .none := by
  have hs : start0 3 [.str w] = [.sh (.str w), .un, .un] := rfl
  have q1 : m3S slD (rd 0) (someP (cD intT (consA (m2 eqD (m3S slD (rd 0) (someP (cI 0)) (someP (cI 1))) (cS "-")) nilA))) noP [.sh (.str w), .un, .un] = .ok (.str (dgS w)) := by
    have e1 : decide (cutS w (some 0) (some 1) = "-") = decide ((tl w).head? = some 45) := decide_eq_decide.mpr (minus_iff2 w)
    have e2 : intT [.bool (decide ((tl w).head? = some 45))] = .ok (.int (if (tl w).head? = some 45 then 1 else 0)) := by
      show Out.ok (PyData.int (if decide ((tl w).head? = some 45) = true then 1 else 0)) = _
      by_cases h : (tl w).head? = some 45
      · simp [h]
      · simp [h]
    simp only [m3S_eq, rd, List.getElem?_cons_zero, someP_eq, cD_eq, consA_eq, m2_eq, noP_eq, cI_eq, cS_eq, nilA_eq, Out.ok_bind, asI_int, slD_str _ _ hw, eqD_str, e1, e2, cut_dg]
  have hd := dg_len w
  have lenS : (dgS w).length ≤ 1000000 := by rw [len_dgS]; omega
  have hc : lcF (seqM (rd 1)) (gN 2) (mB (m2 (inD true) (rd 2) (cS "0123456789"))) (rd 2) [2] [.sh (.str w), .sh (.str (dgS w)), .un] = .ok (((dg72 w).filter fun c => !decide (48 ≤ c ∧ c ≤ 57)).map fun c => PyData.str ⟨#[c]⟩) :=
    lc_sel (l := dg72 w) (u := fun c => .str ⟨#[c]⟩) (by simp only [seqM_eq, rd, List.getElem?_cons_succ, List.getElem?_cons_zero, Out.ok_bind, seqO_str, chars_dg]) (by omega) fun c hc => by
      have e := notin_digits c
      by_cases h : 48 ≤ c ∧ c ≤ 57
      · rw [decide_eq_true h] at e
        simp only [stpF, wipeR, gN_eq, mB_eq, m2_eq, rd, List.set_cons_succ, List.set_cons_zero, List.getElem?_cons_succ, List.getElem?_cons_zero, cS_eq, Out.ok_bind, e, asB_bool, decide_eq_true h]
        rfl
      · rw [decide_eq_false h] at e
        simp only [stpF, wipeR, gN_eq, mB_eq, m2_eq, rd, List.set_cons_succ, List.set_cons_zero, List.getElem?_cons_succ, List.getElem?_cons_zero, cS_eq, Out.ok_bind, e, asB_bool, decide_eq_false h]
        rfl
  have q2 : orB (mB (m2 ltD (cD lenD (consA (rd 1) nilA)) (cI 1))) (orB (mB (m2 gtD (cD lenD (consA (rd 1) nilA)) (cI 30))) (mB (m2 gtD (cD lenD (consA (asL (lcF (seqM (rd 1)) (gN 2) (mB (m2 (inD true) (rd 2) (cS "0123456789"))) (rd 2) [2])) nilA)) (cI 0)))) [.sh (.str w), .sh (.str (dgS w)), .un]
      = .ok (decide (¬ ((1 ≤ (dg72 w).length ∧ (dg72 w).length ≤ 30) ∧ NumText.AllDigits (dg72 w)))) := by
    rw [orB_eq, orB_eq]
    have l1 : (mB (m2 ltD (cD lenD (consA (rd 1) nilA)) (cI 1))) [.sh (.str w), .sh (.str (dgS w)), .un] = .ok (decide ((dg72 w).length < 1)) := by
      simp only [mB_eq, m2_eq, cD_eq, consA_eq, nilA_eq, rd, cI_eq, List.getElem?_cons_succ, List.getElem?_cons_zero, Out.ok_bind, lenD_str lenS, len_dgS, ltD_int, asB_bool]
      congr 1
      exact decide_eq_decide.mpr (by omega)
    have l2 : (mB (m2 gtD (cD lenD (consA (rd 1) nilA)) (cI 30))) [.sh (.str w), .sh (.str (dgS w)), .un] = .ok (decide (30 < (dg72 w).length)) := by
      simp only [mB_eq, m2_eq, cD_eq, consA_eq, nilA_eq, rd, cI_eq, List.getElem?_cons_succ, List.getElem?_cons_zero, Out.ok_bind, lenD_str lenS, len_dgS, gtD_int, asB_bool]
      congr 1
      exact decide_eq_decide.mpr (by omega)
    have l3 : (mB (m2 gtD (cD lenD (consA (asL (lcF (seqM (rd 1)) (gN 2) (mB (m2 (inD true) (rd 2) (cS "0123456789"))) (rd 2) [2])) nilA)) (cI 0))) [.sh (.str w), .sh (.str (dgS w)), .un] = .ok (decide (¬ NumText.AllDigits (dg72 w))) := by
      simp only [mB_eq, m2_eq, cD_eq, consA_eq, nilA_eq, asL_eq, hc, cI_eq, Out.ok_bind, lenD_list, gtD_int, asB_bool, List.length_map]
      congr 1
      refine decide_eq_decide.mpr ?_
      rw [← bad_dg]
      cases (dg72 w).filter fun c => !decide (48 ≤ c ∧ c ≤ 57) <;> simp
    rw [l1, l2, l3]
    by_cases h1 : (dg72 w).length < 1
    · rw [decide_eq_true h1, decide_eq_true (show ¬ ((1 ≤ (dg72 w).length ∧ (dg72 w).length ≤ 30) ∧ NumText.AllDigits (dg72 w)) from fun z => by omega)]
      rfl
    · rw [decide_eq_false h1]
      by_cases h2 : 30 < (dg72 w).length
      · rw [decide_eq_true h2, decide_eq_true (show ¬ ((1 ≤ (dg72 w).length ∧ (dg72 w).length ≤ 30) ∧ NumText.AllDigits (dg72 w)) from fun z => by omega)]
        rfl
      · rw [decide_eq_false h2]
        show Out.ok (decide (¬ NumText.AllDigits (dg72 w))) = _
        congr 1
        exact decide_eq_decide.mpr ⟨fun z y => z y.2, fun z y => z ⟨⟨by omega, by omega⟩, y⟩⟩
  have run : ∀ d, m__law_number [.sh (.str w), .un, .un] = .rt d → F__law_number [.str w] = .ok d := fun d h => runD_rt h rfl
  by_cases hcd : (1 ≤ (dg72 w).length ∧ (dg72 w).length ≤ 30) ∧ NumText.AllDigits (dg72 w)
  · obtain ⟨⟨h1, h2⟩, h3⟩ := hcd
    obtain ⟨c, r, ec⟩ := dg_ne h1
    obtain ⟨c', r', ec'⟩ := w_ne h1
    have i0 := ix_str0 lenS ((tl_dgS w).trans ec)
    have iw := ix_str0 hw ec'
    have hh : (tl w).head? = some 45 ↔ c' = 45 := by rw [ec']; simp
    have e0 : eqD (.str ⟨#[c]⟩) (.str "0") = .ok (.bool (decide (c = 48))) := by
      rw [eqD_str, lit0]
      congr 2
      exact decide_eq_decide.mpr (str1_eq c 48)
    have em : eqD (.str ⟨#[c']⟩) (.str "-") = .ok (.bool (decide (c' = 45))) := by
      rw [eqD_str, litm]
      congr 2
      exact decide_eq_decide.mpr (str1_eq c' 45)
    have hi := int_dg h1 h2 h3
    have t0 : (mB (m2 eqD (m2 ixD (rd 1) (cI 0)) (cS "0"))) [.sh (.str w), .sh (.str (dgS w)), .un] = .ok (decide (c = 48)) := by
      simp only [mB_eq, m2_eq, rd, cI_eq, cS_eq, List.getElem?_cons_succ, List.getElem?_cons_zero, Out.ok_bind, i0, e0, asB_bool]
    have t1 : (mB (m2 neD (rd 0) (cS "0"))) [.sh (.str w), .sh (.str (dgS w)), .un] = .ok (!decide (w = "0")) := by
      simp only [mB_eq, m2_eq, rd, cS_eq, List.getElem?_cons_zero, Out.ok_bind, neD_str, asB_bool]
    have t2 : (mB (m2 eqD (m2 ixD (rd 0) (cI 0)) (cS "-"))) [.sh (.str w), .sh (.str (dgS w)), .un] = .ok (decide (c' = 45)) := by
      simp only [mB_eq, m2_eq, rd, cI_eq, cS_eq, List.getElem?_cons_succ, List.getElem?_cons_zero, Out.ok_bind, iw, em, asB_bool]
    have t3 : andB (mB (m2 eqD (m2 ixD (rd 1) (cI 0)) (cS "0"))) (mB (m2 neD (rd 0) (cS "0"))) [.sh (.str w), .sh (.str (dgS w)), .un] = .ok (decide (c = 48 ∧ w ≠ "0")) := by
      rw [andB_eq, t0, t1]
      by_cases g : c = 48
      · by_cases g2 : w = "0"
        · rw [decide_eq_true g, decide_eq_true g2, decide_eq_false (show ¬ (c = 48 ∧ w ≠ "0") from fun z => z.2 g2)]; rfl
        · rw [decide_eq_true g, decide_eq_false g2, decide_eq_true (show c = 48 ∧ w ≠ "0" from ⟨g, g2⟩)]; rfl
      · rw [decide_eq_false g, decide_eq_false (show ¬ (c = 48 ∧ w ≠ "0") from fun z => g z.1)]; rfl
    have q2' := q2
    rw [decide_eq_false (show ¬ ¬ ((1 ≤ (dg72 w).length ∧ (dg72 w).length ≤ 30) ∧ NumText.AllDigits (dg72 w)) from fun z => z ⟨⟨h1, h2⟩, h3⟩)] at q2'
    by_cases hz : c = 48 ∧ w ≠ "0"
    · have hn : ¬ IsNum w := fun z => z.z.elim (fun y => y (by rw [ec]; simp [hz.1])) hz.2
      rw [show num72 w = none from if_neg hn]
      refine run _ ?_
      unfold m__law_number
      refine (seqS_nx (setS_go q1)).trans ((seqS_nx (ifS_f q2' rfl)).trans (seqS_rt (ifS_t (t3.trans (by rw [decide_eq_true hz])) (retS_go rfl))))
    · have hn : IsNum w := ⟨h1, h2, h3, by
        by_cases g : c = 48
        · exact .inr (Classical.byContradiction fun y => hz ⟨g, y⟩)
        · exact .inl (by rw [ec]; simpa using g)⟩
      rw [show num72 w = some (val72 w) from if_pos hn]
      refine run _ ?_
      unfold m__law_number
      refine (seqS_nx (setS_go q1)).trans ((seqS_nx (ifS_f q2' rfl)).trans ((seqS_nx (ifS_f (t3.trans (by rw [decide_eq_false hz])) rfl)).trans ?_))
      unfold val72
      by_cases g : c' = 45
      · rw [if_pos (hh.mpr g)]
        refine seqS_rt (ifS_t (t2.trans (by rw [decide_eq_true g])) (retS_go ?_))
        simp [rd, hi]
      · rw [if_neg fun z => g (hh.mp z)]
        refine (seqS_nx (ifS_f (t2.trans (by rw [decide_eq_false g])) rfl)).trans (retS_go ?_)
        simp [rd, hi]
  · have hn : ¬ IsNum w := fun z => hcd ⟨⟨z.l1, z.l2⟩, z.ds⟩
    rw [show num72 w = none from if_neg hn]
    refine run _ ?_
    rw [decide_eq_true hcd] at q2
    unfold m__law_number
    exact (seqS_nx (setS_go q1)).trans (seqS_rt (ifS_t q2 (retS_go rfl)))
end lnum72

end
end Lw
namespace Lw
noncomputable section
open PySem PySem.Spec PyProof.Rows L2 DL
/-! parts of texts; lists of numbers; fractions -/
section frac72
open HT TL
theorem spl_len (S : List Nat) : ∀ (l : List Nat) (k : Nat) (acc : List Nat), (spl S k acc l).length ≤ l.length + 1 ∧ 1 ≤ (spl S k acc l).length ∧ ∀ p ∈ spl S k acc l, p.length ≤ acc.length + l.length
  | [], k, acc => by
    rw [spl_nil]
    exact ⟨by simp, by simp, fun p hp => by rw [List.mem_singleton] at hp; rw [hp]; simp⟩
  | c :: r, 0, acc => by
    unfold spl
    split
    · obtain ⟨h1, h2, h3⟩ := spl_len S r (S.length - 1) []
      refine ⟨by simp only [List.length_cons]; omega, by simp, fun p hp => ?_⟩
      rcases List.mem_cons.mp hp with rfl | hp
      · simp
      · have := h3 p hp
        simp only [List.length_nil, List.length_cons] at this ⊢
        omega
    · obtain ⟨h1, h2, h3⟩ := spl_len S r 0 (acc ++ [c])
      refine ⟨by simp only [List.length_cons]; omega, h2, fun p hp => ?_⟩
      have := h3 p hp
      simp only [List.length_append, List.length_cons, List.length_nil] at this ⊢
      omega
  | c :: r, k + 1, acc => by
    have e : spl S (k + 1) acc (c :: r) = spl S k acc r := rfl
    rw [e]
    obtain ⟨h1, h2, h3⟩ := spl_len S r k acc
    refine ⟨by simp only [List.length_cons]; omega, h2, fun p hp => ?_⟩
    have := h3 p hp
    simp only [List.length_cons]
    omega
/-- a plain separator of one sign -/
structure Sep (y : Str) (s : Nat) : Prop where
  e : tl y = [s]
  k : y.cps.all (· < 256) = true
theorem sep_slash : Sep "/" 47 := ⟨by decide +kernel, by decide +kernel⟩
theorem sep_line : Sep "\n" 10 := ⟨by decide +kernel, by decide +kernel⟩
theorem sep_space : Sep " " 32 := ⟨by decide +kernel, by decide +kernel⟩
theorem Sep.spl {y : Str} {s : Nat} (h : Sep y s) (x : Str) : (Txt.split x y).map tl = TL.spl [s] 0 [] (tl x) := by
  rw [← h.e]
  exact split_spl x y (by rw [h.e]; simp) (kind_ok h.k)
theorem Sep.bound {y : Str} {s : Nat} (h : Sep y s) (x : Str) : (Txt.split x y).length ≤ x.length + 1 ∧ 1 ≤ (Txt.split x y).length ∧ ∀ p ∈ Txt.split x y, p.length ≤ x.length := by
  have e := h.spl x
  obtain ⟨h1, h2, h3⟩ := spl_len [s] (tl x) 0 []
  rw [← e, List.length_map, ← len_tl] at h1
  rw [← e, List.length_map] at h2
  refine ⟨h1, h2, fun p hp => ?_⟩
  have := h3 (tl p) (by rw [← e]; exact List.mem_map_of_mem hp)
  rw [len_tl, len_tl x]
  simpa using this
theorem Sep.one {y : Str} {s : Nat} (h : Sep y s) : (y.length == 0) = false := by
  rw [len_tl, h.e]
  rfl
theorem splitO_ok {x y : Str} {s : Nat} (h : Sep y s) (hx : x.length ≤ 1000000) : splitO x (.str y) = .ok ((Txt.split x y).map .str) := by
  show (if (y.length == 0) = false ∧ x.length + 2 ≤ sizeLine then Out.ok ((Txt.split x y).map PyData.str) else .no) = _
  rw [if_pos ⟨h.one, sizes (by omega)⟩]
def nums72 : List Str → Option (List Int)
  | [] => some []
  | w :: r => match num72 w, nums72 r with
    | some i, some l => some (i :: l)
    | _, _ => none
theorem nums_cons (w : Str) (r : List Str) : nums72 (w :: r) = match num72 w, nums72 r with
    | some i, some l => some (i :: l)
    | _, _ => none := rfl
theorem nums_len : ∀ {ws : List Str} {l : List Int}, nums72 ws = some l → l.length = ws.length
  | [], l, h => by cases h; rfl
  | w :: r, l, h => by
    unfold nums72 at h
    split at h
    · rename_i i m e1 e2
      cases h
      rw [List.length_cons, List.length_cons, nums_len e2]
    · cases h
/-- the program's numbers: the first word that is none raises -/
theorem lcMX_nums {f : PyData → Out (Option PyData)} : ∀ (ws : List Str), (∀ w ∈ ws, f (.str w) = match num72 w with | some i => .ok (some (.int i)) | none => .ex "InvalidLine") → lcMX f (ws.map .str) = match nums72 ws with | some l => .ok (il l) | none => .ex "InvalidLine"
  | [], _ => rfl
  | w :: r, h => by
    have ih := lcMX_nums r fun x hx => h x (List.mem_cons_of_mem _ hx)
    have h0 := h w List.mem_cons_self
    rw [List.map_cons]
    unfold lcMX
    rw [h0, ih, nums_cons]
    cases num72 w with
    | none => rfl
    | some i =>
      cases nums72 r with
      | none => rfl
      | some l => rfl
/-- the law's numbers: None where there is none -/
def lnum72 (w : Str) : PyData := match num72 w with | some i => .int i | none => .none
theorem none_in : ∀ ws : List Str, ((ws.map lnum72).any fun z => PyData.eqv z .none) = (nums72 ws).isNone
  | [] => rfl
  | w :: r => by
    rw [List.map_cons, List.any_cons, none_in r]
    rw [nums_cons]
    unfold lnum72
    cases num72 w with
    | none => simp [PyData.eqv]
    | some i =>
      cases nums72 r <;> simp [PyData.eqv]
theorem lnums_some : ∀ {ws : List Str} {l : List Int}, nums72 ws = some l → ws.map lnum72 = il l
  | [], l, h => by cases h; rfl
  | w :: r, l, h => by
    unfold nums72 at h
    split at h
    · rename_i i m e1 e2
      cases h
      rw [List.map_cons, lnums_some e2, il_cons]
      unfold lnum72
      rw [e1]
    · cases h
theorem shK_lnum (w : Str) : ShK 0 (lnum72 w) := by
  unfold lnum72
  split
  · exact shK_int _
  · exact shK_none
theorem in_none (ws : List Str) : inD false .none (.list (ws.map lnum72)) = .ok (.bool (nums72 ws).isNone) := by
  have h1 : SeqAt.shaped (.list (ws.map lnum72)) = true := (shK_list (k := 0) fun d hd => by obtain ⟨w, _, rfl⟩ := List.mem_map.mp hd; exact shK_lnum w).shaped (by decide)
  rw [inD_list, shaped_none, h1, none_in]
  rfl
end frac72

end
end Lw
namespace Lw
noncomputable section
open PySem PySem.Spec PyProof.Rows L2 DL
/-! fractions in texts -/
section frac72b
open HT TL
theorem dval_lt : ∀ (cs : List Nat) (a : Nat), NumText.AllDigits cs → cs.foldl (fun acc c => acc * 10 + (c - 48)) a < (a + 1) * 10 ^ cs.length
  | [], a, _ => by simp
  | c :: r, a, h => by
    have hc := h.head
    have ih := dval_lt r (a * 10 + (c - 48)) h.tail
    rw [List.foldl_cons, List.length_cons, Nat.pow_succ]
    refine Nat.lt_of_lt_of_le ih ?_
    rw [Nat.mul_comm (10 ^ r.length) 10, ← Nat.mul_assoc]
    exact Nat.mul_le_mul_right _ (by omega)
theorem num_lt {w : Str} {i : Int} (h : num72 w = some i) : i.natAbs < 2 ^ 100 := by
  unfold num72 at h
  split at h
  · rename_i hn
    cases h
    have h1 := dval_lt (dg72 w) 0 hn.ds
    have h2 : NumText.digitsVal (dg72 w) < 10 ^ 30 := by
      have e : (0 + 1) * 10 ^ (dg72 w).length ≤ 10 ^ 30 := by
        rw [Nat.zero_add, Nat.one_mul]
        exact Nat.pow_le_pow_right (by decide) hn.l2
      exact Nat.lt_of_lt_of_le h1 e
    have h3 : (10 : Nat) ^ 30 < 2 ^ 100 := by decide
    unfold val72
    split <;> omega
  · cases h
theorem nums_lt : ∀ {ws : List Str} {l : List Int}, nums72 ws = some l → ∀ i ∈ l, i.natAbs < 2 ^ 100
  | [], l, h => by cases h; intro i hi; cases hi
  | w :: r, l, h => by
    rw [nums_cons] at h
    split at h
    · rename_i i m e1 e2
      cases h
      intro j hj
      rcases List.mem_cons.mp hj with rfl | hj
      · exact num_lt e1
      · exact nums_lt e2 j hj
    · cases h
def frac72 (s : Str) : Option (Int × Int) := match nums72 (Txt.split s "/") with
  | some [a] => some (a, 1)
  | some [a, b] => if 1 < b ∧ Nat.gcd a.natAbs b.natAbs = 1 then some (a, b) else none
  | _ => none
def pr72 (p : Int × Int) : PyData := .tuple [.int p.1, .int p.2]
theorem F_is_whole_int (i : Int) : F_is_whole [.int i] = .ok (.bool true) := by
  refine runD_rt ?_ rfl
  simp [m_is_whole, start0, rd]
theorem F_is_fraction_ok (a b : Int) : F_is_fraction [.tuple [.int a, .int b]] = .ok (.bool (decide (1 ≤ b ∧ Nat.gcd a.natAbs b.natAbs = 1))) := by
  refine runD_rt ?_ rfl
  unfold m_is_fraction
  refine (seqS_nx (ifS_f ?_ rfl)).trans (retS_go ?_)
  · simp [start0, rd, F_is_whole_int]
  · simp only [andD_eq, m2_eq, rd, start0, List.map_cons, List.map_nil, List.cons_append, List.nil_append, List.length_cons, List.length_nil, List.getElem?_cons_zero, Out.ok_bind, cI_eq, ixD_tuple, atI_one, atI_zero, List.getElem?_cons_succ, geD_int, asB_bool, cD_eq, consA_eq, nilA_eq, gcdD_two, eqD_int]
    by_cases h1 : 1 ≤ b
    · by_cases h2 : Nat.gcd a.natAbs b.natAbs = 1
      · simp [h1, h2]
      · have h3 : ¬ ((Nat.gcd a.natAbs b.natAbs : Nat) : Int) = 1 := by omega
        simp [h1, h2, h3]
    · simp [h1]
theorem F_read_fraction_ok {s : Str} (hs : s.length ≤ 100000) : F_read_fraction [.str s] = match frac72 s with
    | some p => .ok (pr72 p)
    | none => .ex "InvalidLine" := by
  have st0 : start0 4 [.str s] = [.sh (.str s), .un, .un, .un] := rfl
  have z2 : 2 ≤ sizeLine := sizes (by decide)
  obtain ⟨b1, b2, b3⟩ := sep_slash.bound s
  generalize hP : Txt.split s "/" = ps at b1 b2 b3
  have q1 : (asL (strM splitO (rd 0) (cS "/"))) [.sh (.str s), .un, .un, .un] = .ok (.list (ps.map .str)) := by
    rw [asL_eq]
    show (splitO s (.str "/") >>= fun ds => Out.ok (PyData.list ds)) = _
    rw [splitO_ok sep_slash (by omega), hP]
    rfl
  have q2 : exprS (cD F_demand (consA (m2 leD (cD lenD (consA (rd 1) nilA)) (cI 2)) nilA)) [.sh (.str s), .sh (.list (ps.map .str)), .un, .un] = if ps.length ≤ 2 then .nx [.sh (.str s), .sh (.list (ps.map .str)), .un, .un] else .ex "InvalidLine" [.sh (.str s), .sh (.list (ps.map .str)), .un, .un] := by
    unfold exprS
    simp only [cD_eq, consA_eq, m2_eq, nilA_eq, rd, cI_eq, List.getElem?_cons_succ, List.getElem?_cons_zero, Out.ok_bind, lenD_list, List.length_map, leD_int]
    by_cases h : ps.length ≤ 2
    · have h' : (ps.length : Int) ≤ 2 := by omega
      rw [decide_eq_true h', F_demand_t, if_pos h]; rfl
    · have h' : ¬ (ps.length : Int) ≤ 2 := by omega
      rw [decide_eq_false h', F_demand_f, if_neg h]; rfl
  have q3 : lcX (seqM (rd 1)) (gN 3) yesB (cD F_number_in (consA (rd 3) nilA)) [3] [.sh (.str s), .sh (.list (ps.map .str)), .un, .un] = match nums72 ps with | some l => .ok (il l) | none => .ex "InvalidLine" := by
    unfold lcX
    have e1 : seqM (rd 1) [.sh (.str s), .sh (.list (ps.map .str)), .un, .un] = .ok (ps.map .str) := rfl
    rw [e1, Out.ok_bind, if_pos (sizes (by rw [List.length_map]; omega))]
    refine lcMX_nums ps fun w hw => ?_
    have hl := b3 w hw
    have e2 := F_number_in_ok (w := w) (by omega)
    have e3 : stpX (gN 3) yesB (cD F_number_in (consA (rd 3) nilA)) (wipeR [.sh (.str s), .sh (.list (ps.map .str)), .un, .un] [3]) (.str w) = (F_number_in [.str w] >>= fun y => .ok (some y)) := rfl
    rw [e3, e2]
    cases num72 w <;> rfl
  unfold F_read_fraction runD
  rw [if_pos (show ([PyData.str s] : List PyData).length = 1 from rfl), st0]
  unfold m_read_fraction frac72
  rw [hP, seqS_nx (setS_go q1)]
  have hset : ([Sl.sh (.str s), .un, .un, .un].set 1 (.sh (.list (ps.map .str))) : Ro) = [.sh (.str s), .sh (.list (ps.map .str)), .un, .un] := rfl
  rw [hset, seqS_eq, q2]
  by_cases h2 : ps.length ≤ 2
  · rw [if_pos h2]
    dsimp only
    rw [seqS_eq, setLS_eq, q3]
    cases hn : nums72 ps with
    | none => rfl
    | some l =>
      have hl := nums_len hn
      dsimp only
      rw [thenF_ok]
      dsimp only
      have hset2 : ([Sl.sh (.str s), .sh (.list (ps.map .str)), .un, .un].set 2 (.sh (.list (il l))) : Ro) = [.sh (.str s), .sh (.list (ps.map .str)), .sh (.list (il l)), .un] := rfl
      rw [hset2]
      match l, hl with
      | [], hl => simp at hl; omega
      | [a], hl =>
        rw [seqS_rt (x := pr72 (a, 1)) (ifS_t (by simp [rd, il]) (retS_go (by simp [rd, il, pr72, z2])))]
      | [a, b], hl =>
        have hf := F_is_fraction_ok a b
        rw [seqS_nx (ifS_f (by simp [rd, il]) rfl)]
        have q4 : exprS (cD F_demand (consA (andD (m2 gtD (m2 ixD (rd 2) (cI 1)) (cI 1)) (cD F_is_fraction (consA (cD tupleD (consA (rd 2) nilA)) nilA))) nilA)) [.sh (.str s), .sh (.list (ps.map .str)), .sh (.list (il [a, b])), .un]
            = if 1 < b ∧ Nat.gcd a.natAbs b.natAbs = 1 then .nx [.sh (.str s), .sh (.list (ps.map .str)), .sh (.list (il [a, b])), .un] else .ex "InvalidLine" [.sh (.str s), .sh (.list (ps.map .str)), .sh (.list (il [a, b])), .un] := by
          unfold exprS
          have e1 : (m2 gtD (m2 ixD (rd 2) (cI 1)) (cI 1)) [.sh (.str s), .sh (.list (ps.map .str)), .sh (.list (il [a, b])), .un] = .ok (.bool (decide (1 < b))) := by simp [rd, il]
          have e2 : (cD F_is_fraction (consA (cD tupleD (consA (rd 2) nilA)) nilA)) [.sh (.str s), .sh (.list (ps.map .str)), .sh (.list (il [a, b])), .un] = .ok (.bool (decide (1 ≤ b ∧ Nat.gcd a.natAbs b.natAbs = 1))) := by
            show F_is_fraction [.tuple [.int a, .int b]] = _
            exact hf
          rw [cD_eq, consA_eq, andD_eq, e1, e2]
          by_cases g1 : 1 < b
          · by_cases g2 : Nat.gcd a.natAbs b.natAbs = 1
            · rw [decide_eq_true g1, decide_eq_true (show 1 ≤ b ∧ Nat.gcd a.natAbs b.natAbs = 1 from ⟨by omega, g2⟩), if_pos ⟨g1, g2⟩]
              simp only [Out.ok_bind, asB_bool, if_true, nilA_eq, F_demand_t, thenF_ok]
            · rw [decide_eq_true g1, decide_eq_false (show ¬ (1 ≤ b ∧ Nat.gcd a.natAbs b.natAbs = 1) from fun z => g2 z.2), if_neg fun z => g2 z.2]
              simp only [Out.ok_bind, asB_bool, if_true, nilA_eq, F_demand_f]
              rfl
          · rw [decide_eq_false g1, if_neg fun z => g1 z.1]
            simp only [Out.ok_bind, asB_bool, Bool.false_eq_true, if_false, nilA_eq, F_demand_f]
            rfl
        rw [seqS_eq, q4]
        by_cases g : 1 < b ∧ Nat.gcd a.natAbs b.natAbs = 1
        · rw [if_pos g]
          dsimp only
          rw [if_pos g]
          rfl
        · rw [if_neg g]
          dsimp only
          rw [if_neg g]
      | a :: b :: c :: r, hl => simp at hl; omega
  · rw [if_neg h2]
    dsimp only
    cases hn : nums72 ps with
    | none => rfl
    | some l =>
      have hl := nums_len hn
      match l, hl with
      | [], hl => simp at hl; omega
      | [a], hl => simp at hl; omega
      | [a, b], hl => simp at hl; omega
      | a :: b :: c :: r, hl => rfl
end frac72b

end
end Lw
namespace Lw
noncomputable section
open PySem PySem.Spec PyProof.Rows L2 DL
/-! fractions by the law's own steps -/
section frac
def cm_body : MS := (seqS (ifS (mB (m2 eqD (rd 1) (cI 0)))
    (retS (rd 0))
    .nx)
    (parS 0 1 (consA (rd 1) (consA (m2 modD (cD intD (consA (rd 0) nilA)) (rd 1)) nilA))))
theorem cm_stop {u : Nat} {s : Sl} : cm_body [.sh (.int (u : Nat)), .sh (.int ((0 : Nat) : Int)), s] = .rt (.int (u : Nat)) :=
  seqS_rt (ifS_t (by simp [rd]) (retS_go rfl))
theorem cm_turn {u v : Nat} {s : Sl} (hv : v ≠ 0) : cm_body [.sh (.int (u : Nat)), .sh (.int (v : Nat)), s] = .nx [.sh (.int (v : Nat)), .sh (.int ((u % v : Nat) : Int)), s] := by
  have h1 : ¬ ((v : Nat) : Int) = 0 := by omega
  have h2 : (0 : Int) < (v : Nat) := by omega
  refine (seqS_nx (ρ1 := [.sh (.int (u : Nat)), .sh (.int (v : Nat)), s]) (ifS_f (by simp [rd, h1, hv]) rfl)).trans ?_
  have h3 : (0 : Int) < (v : Nat) := h2
  simp only [parS_eq, consA_eq, nilA_eq, rd, List.getElem?_cons_succ, List.getElem?_cons_zero, Out.ok_bind, m2_eq, cD_eq, intD_int, modD_int, if_pos h3, thenF_ok, Int.natCast_emod]
  rfl
theorem cm_loop : ∀ (m : Nat) (ks : List PyData) (u v : Nat) (s : Sl), 2 * m + 1 ≤ ks.length → v < 2 ^ m → forD (gN 2) cm_body ks [.sh (.int (u : Nat)), .sh (.int (v : Nat)), s] = .rt (.int (Nat.gcd u v : Nat)) := by
  intro m
  induction m with
  | zero =>
    intro ks u v s h hv
    obtain rfl : v = 0 := by simpa using hv
    match ks, h with
    | d :: ks, _ =>
      rw [Nat.gcd_zero_right]
      exact forD_rt rfl cm_stop
  | succ m ih =>
    intro ks u v s h hv
    match ks, h with
    | d :: e :: ks, h =>
      by_cases h0 : v = 0
      · subst h0
        rw [Nat.gcd_zero_right]
        exact forD_rt rfl cm_stop
      · refine (forD_nx rfl (cm_turn h0)).trans ?_
        have hr := Nat.mod_lt u (by omega : 0 < v)
        have g1 : Nat.gcd u v = Nat.gcd v (u % v) := by rw [Nat.gcd_comm u v, Nat.gcd_rec v u, Nat.gcd_comm]
        rw [g1]
        by_cases h1 : u % v = 0
        · rw [h1, Nat.gcd_zero_right]
          exact forD_rt rfl cm_stop
        · refine (forD_nx rfl (cm_turn h1)).trans ?_
          have g2 : Nat.gcd v (u % v) = Nat.gcd (u % v) (v % (u % v)) := by rw [Nat.gcd_comm v (u % v), Nat.gcd_rec (u % v) v, Nat.gcd_comm]
          rw [g2]
          refine ih ks _ _ _ (by simp only [List.length_cons] at h; omega) ?_
          have hs := Nat.mod_lt v (by omega : 0 < u % v)
          have hle : v % (u % v) + u % v ≤ v := by
            have h3 := Nat.mod_add_div v (u % v)
            have h4 : 1 ≤ v / (u % v) := Nat.div_pos (by omega) (by omega)
            have h5 : u % v * 1 ≤ u % v * (v / (u % v)) := Nat.mul_le_mul_left _ h4
            omega
          rw [Nat.pow_succ] at hv
          omega
theorem F_common (x y : Int) (h : y.natAbs < 2 ^ 449) : F__law_common [.int x, .int y] = .ok (.int ((Nat.gcd x.natAbs y.natAbs : Nat) : Int)) := by
  have hl := cm_loop 449 (rangeL 0 900) x.natAbs y.natAbs .un (by simp [rangeL]) h
  have ha : ∀ z : Int, (if z < 0 then -z else z) = (z.natAbs : Int) := fun z => by split <;> omega
  refine runD_rt ((seqS_nx (setS_go (d := .int (x.natAbs : Int)) ?_)).trans ((seqS_nx (setS_go (d := .int (y.natAbs : Int)) ?_)).trans (seqS_rt (forS_go (ds := rangeL 0 900) (by simp) hl)))) rfl
  · simp [start0, rd, ha]
  · simp [start0, rd, ha]
theorem F_frac (x b : Int) (hb : b ≠ 0) (hs : b.natAbs < 2 ^ 449) : F__law_frac [.int x, .int b] = .ok (fq (Rat.divInt x b)) := by
  have hn := Rat.num_divInt x b
  have hd := Rat.den_divInt x b
  rw [if_neg hb] at hd
  have hg : 0 < b.gcd x := Nat.pos_of_ne_zero fun e => hb (by
    have := (Nat.gcd_eq_zero_iff.mp (show Nat.gcd b.natAbs x.natAbs = 0 from e)).1
    omega)
  have hgb : b.gcd x ≤ b.natAbs := Nat.le_of_dvd (by omega) (Nat.gcd_dvd_left _ _)
  have ok : divOk ((b.gcd x : Nat) : Int) := divOk_p (k := 449) (by omega) (by rw [Int.natAbs_natCast]; omega) (by decide)
  have key : ∀ x' b' : Int, x' = b.sign * x → b' = (b.natAbs : Int) → (seqS (setS 2 (cD F__law_common (consA (rd 0) (consA (rd 1) nilA))))
    (retS (tupD (consA (m2 fdivD (rd 0) (rd 2)) (consA (m2 fdivD (rd 1) (rd 2)) nilA))))) [.sh (.int x'), .sh (.int b'), .un] = .rt (fq (Rat.divInt x b)) := fun x' b' e1 e2 => by
    have hc := F_common x' b' (by rw [e2, Int.natAbs_natCast]; exact hs)
    have hx : x'.natAbs = x.natAbs := by
      rw [e1, Int.natAbs_mul]
      have : b.sign.natAbs = 1 := by rw [Int.natAbs_sign_of_ne_zero hb]
      rw [this, Nat.one_mul]
    have hgg : Nat.gcd x'.natAbs b'.natAbs = b.gcd x := by
      rw [hx, e2, Int.natAbs_natCast, Nat.gcd_comm]
      rfl
    rw [hgg] at hc
    have hz : 2 ≤ sizeLine := sizes (by decide)
    refine (seqS_nx (setS_go (d := .int ((b.gcd x : Nat) : Int)) ?_)).trans (retS_go ?_)
    · simp [rd, hc]
    · have e3 : x' / ((b.gcd x : Nat) : Int) = (Rat.divInt x b).num := by rw [hn, e1]
      have e4 : b' / ((b.gcd x : Nat) : Int) = ((Rat.divInt x b).den : Int) := by rw [hd, e2, Int.natCast_ediv]
      simp [rd, ok, hz, e3, e4, fq]
  by_cases h : b < 0
  · have e1 : b.sign = -1 := Int.sign_eq_neg_one_of_neg h
    refine runD_rt ((seqS_nx (ifS_t (by simp [start0, rd, h]) ((seqS_nx (setS_go (d := .int (0 - x)) (by simp [start0, rd]))).trans (setS_go (d := .int (0 - b)) (by simp [start0, rd]))))).trans ?_) rfl
    exact key _ _ (by rw [e1]; omega) (by omega)
  · have e1 : b.sign = 1 := Int.sign_eq_one_of_pos (by omega)
    refine runD_rt ((seqS_nx (ifS_f (by simp [start0, rd, h]) rfl)).trans ?_) rfl
    exact key _ _ (by rw [e1]; omega) (by omega)
end frac

end
end Lw
namespace Lw
noncomputable section
open PySem PySem.Spec PyProof.Rows L2 DL
/-! fractions in texts, the law's way -/
section lfrac72
open HT TL
theorem F_lfraction_ok {s : Str} (hs : s.length ≤ 100000) : F__law_fraction_in [.str s] = match frac72 s with
    | some p => .ok (pr72 p)
    | none => .ok .none := by
  have st0 : start0 3 [.str s] = [.sh (.str s), .un, .un] := rfl
  have z2 : 2 ≤ sizeLine := sizes (by decide)
  obtain ⟨b1, b2, b3⟩ := sep_slash.bound s
  generalize hP : Txt.split s "/" = ps at b1 b2 b3
  have q1 : lcF (seqM (asL (strM splitO (rd 0) (cS "/")))) (gN 2) yesB (cD F__law_number (consA (rd 2) nilA)) [2] [.sh (.str s), .un, .un] = .ok (ps.map lnum72) := by
    refine lc_all (l := ps) (u := fun w => .str w) ?_ (by omega) fun w hw => ?_
    · rw [seqM_eq, asL_eq]
      show ((splitO s (.str "/") >>= fun ds => Out.ok (PyData.list ds)) >>= seqO) = _
      rw [splitO_ok sep_slash (by omega), hP]
      rfl
    · have hl := b3 w hw
      have e2 := F_lnumber_ok (w := w) (by omega)
      show (F__law_number [.str w] >>= fun y => Out.ok (some y)) = _
      rw [e2]
      unfold lnum72
      cases num72 w <;> rfl
  have run : ∀ d, m__law_fraction_in [.sh (.str s), .un, .un] = .rt d → F__law_fraction_in [.str s] = .ok d := fun d h => runD_rt h rfl
  have qin : (mB (m2 (inD false) cN (rd 1))) [.sh (.str s), .sh (.list (ps.map lnum72)), .un] = .ok (nums72 ps).isNone := by
    simp only [mB_eq, m2_eq, cN_eq, rd, List.getElem?_cons_succ, List.getElem?_cons_zero, Out.ok_bind, in_none, asB_bool]
  have qlen : (mB (m2 gtD (cD lenD (consA (rd 1) nilA)) (cI 2))) [.sh (.str s), .sh (.list (ps.map lnum72)), .un] = .ok (decide (2 < ps.length)) := by
    simp only [mB_eq, m2_eq, cD_eq, consA_eq, nilA_eq, rd, cI_eq, List.getElem?_cons_succ, List.getElem?_cons_zero, Out.ok_bind, lenD_list, List.length_map, gtD_int, asB_bool]
    congr 1
    exact decide_eq_decide.mpr (by omega)
  unfold frac72
  rw [hP]
  cases hn : nums72 ps with
  | none =>
    refine run _ ?_
    unfold m__law_fraction_in
    refine (seqS_nx (setLS_go q1)).trans (seqS_rt (ifS_t ?_ (retS_go rfl)))
    rw [orB_eq]
    show ((mB (m2 (inD false) cN (rd 1))) [.sh (.str s), .sh (.list (ps.map lnum72)), .un] >>= fun b => if b then Out.ok true else (mB (m2 gtD (cD lenD (consA (rd 1) nilA)) (cI 2))) [.sh (.str s), .sh (.list (ps.map lnum72)), .un]) = _
    rw [qin, hn]
    rfl
  | some l =>
    have hl := nums_len hn
    have hil := lnums_some hn
    have qor : orB (mB (m2 (inD false) cN (rd 1))) (mB (m2 gtD (cD lenD (consA (rd 1) nilA)) (cI 2))) [.sh (.str s), .sh (.list (ps.map lnum72)), .un] = .ok (decide (2 < ps.length)) := by
      rw [orB_eq, qin, hn, qlen]
      rfl
    match l, hl, hil with
    | [], hl, _ => simp at hl; omega
    | [a], hl, hil =>
      refine run _ ?_
      unfold m__law_fraction_in
      refine (seqS_nx (setLS_go q1)).trans ((seqS_nx (ifS_f (qor.trans (by rw [decide_eq_false (by simp at hl; omega)])) rfl)).trans (seqS_rt (ifS_t ?_ (retS_go ?_))))
      · rw [hil]; simp [rd, il]
      · rw [hil]; simp [rd, il, pr72, z2]
    | [a, b], hl, hil =>
      have hcm := F_common a b (Nat.lt_trans (nums_lt hn b (by simp)) (Nat.pow_lt_pow_right (by decide) (by decide)))
      have pre : ∀ f, (seqS (ifS (orB (mB (m2 ltD (m2 ixD (rd 1) (cI 1)) (cI 2))) (mB (m2 neD (cD F__law_common (consA (m2 ixD (rd 1) (cI 0)) (consA (m2 ixD (rd 1) (cI 1)) nilA))) (cI 1))))
    (retS cN)
    .nx)
    (retS (tupD (consA (m2 ixD (rd 1) (cI 0)) (consA (m2 ixD (rd 1) (cI 1)) nilA))))) [.sh (.str s), .sh (.list (il [a, b])), .un] = f → m__law_fraction_in [.sh (.str s), .un, .un] = f := fun f hf => by
        unfold m__law_fraction_in
        refine (seqS_nx (setLS_go q1)).trans ((seqS_nx (ifS_f (qor.trans (by rw [decide_eq_false (by simp at hl; omega)])) rfl)).trans ?_)
        rw [hil]
        exact (seqS_nx (ifS_f (by simp [rd, il]) rfl)).trans hf
      have qc : orB (mB (m2 ltD (m2 ixD (rd 1) (cI 1)) (cI 2))) (mB (m2 neD (cD F__law_common (consA (m2 ixD (rd 1) (cI 0)) (consA (m2 ixD (rd 1) (cI 1)) nilA))) (cI 1))) [.sh (.str s), .sh (.list (il [a, b])), .un] = .ok (decide (¬ (1 < b ∧ Nat.gcd a.natAbs b.natAbs = 1))) := by
        have e1 : (mB (m2 ltD (m2 ixD (rd 1) (cI 1)) (cI 2))) [.sh (.str s), .sh (.list (il [a, b])), .un] = .ok (decide (b < 2)) := by simp [rd, il]
        have e2 : (mB (m2 neD (cD F__law_common (consA (m2 ixD (rd 1) (cI 0)) (consA (m2 ixD (rd 1) (cI 1)) nilA))) (cI 1))) [.sh (.str s), .sh (.list (il [a, b])), .un] = .ok (!decide (((Nat.gcd a.natAbs b.natAbs : Nat) : Int) = 1)) := by
          have e3 : (cD F__law_common (consA (m2 ixD (rd 1) (cI 0)) (consA (m2 ixD (rd 1) (cI 1)) nilA))) [.sh (.str s), .sh (.list (il [a, b])), .un] = .ok (.int ((Nat.gcd a.natAbs b.natAbs : Nat) : Int)) := hcm
          rw [mB_eq, m2_eq, e3]
          simp only [Out.ok_bind, cI_eq, neD_int, asB_bool]
        rw [orB_eq, e1, e2]
        by_cases g1 : b < 2
        · rw [decide_eq_true g1, decide_eq_true (show ¬ (1 < b ∧ Nat.gcd a.natAbs b.natAbs = 1) from fun z => by omega)]
          rfl
        · rw [decide_eq_false g1]
          show Out.ok (!decide (((Nat.gcd a.natAbs b.natAbs : Nat) : Int) = 1)) = _
          congr 1
          by_cases g2 : Nat.gcd a.natAbs b.natAbs = 1
          · rw [decide_eq_true (show ((Nat.gcd a.natAbs b.natAbs : Nat) : Int) = 1 by omega), decide_eq_false (show ¬ ¬ (1 < b ∧ Nat.gcd a.natAbs b.natAbs = 1) from fun z => z ⟨by omega, g2⟩)]; rfl
          · rw [decide_eq_false (show ¬ ((Nat.gcd a.natAbs b.natAbs : Nat) : Int) = 1 by omega), decide_eq_true (show ¬ (1 < b ∧ Nat.gcd a.natAbs b.natAbs = 1) from fun z => g2 z.2)]; rfl
      by_cases g : 1 < b ∧ Nat.gcd a.natAbs b.natAbs = 1
      · dsimp only
        rw [if_pos g]
        refine run _ (pre _ ?_)
        rw [decide_eq_false (show ¬ ¬ (1 < b ∧ Nat.gcd a.natAbs b.natAbs = 1) from fun z => z g)] at qc
        exact (seqS_nx (ifS_f qc rfl)).trans (retS_go (by simp [rd, il, pr72, z2]))
      · dsimp only
        rw [if_neg g]
        refine run _ (pre _ ?_)
        rw [decide_eq_true g] at qc
        exact seqS_rt (ifS_t qc (retS_go rfl))
    | a :: b :: c :: r, hl, hil =>
      refine run _ ?_
      unfold m__law_fraction_in
      exact (seqS_nx (setLS_go q1)).trans (seqS_rt (ifS_t (qor.trans (by rw [decide_eq_true (by simp at hl; omega)])) (retS_go rfl)))
end lfrac72

end
end Lw
namespace Lw
noncomputable section
open PySem PySem.Spec PyProof.Rows L2 DL
/-! the numbers of a line -/
section line72
open HT TL
def numsIn72 (word line : Str) : Option (List Int) := match Txt.split line " " with
  | w :: r => if w = word then nums72 r else none
  | [] => none
theorem atI_at0 {α : Type} (x : α) (l : List α) : atI (x :: l) 0 = some x := by rw [atI_zero]; rfl
theorem F_items_in_ok {line word : Str} (hl : line.length ≤ 100000) : F_items_in [.str line, .str word] = match Txt.split line " " with
    | w :: r => if w = word then .ok (.list (r.map .str)) else .ex "InvalidLine"
    | [] => .no := by
  obtain ⟨b1, b2, b3⟩ := sep_space.bound line
  generalize hP : Txt.split line " " = ps at b1 b2 b3
  match ps with
  | [] => simp at b2
  | w :: r =>
    have q1 : (asL (strM splitO (rd 0) (cS " "))) [.sh (.str line), .sh (.str word), .un] = .ok (.list (.str w :: r.map .str)) := by
      rw [asL_eq]
      show (splitO line (.str " ") >>= fun ds => Out.ok (PyData.list ds)) = _
      rw [splitO_ok sep_space (by omega), hP]
      rfl
    unfold F_items_in runD
    rw [if_pos (show ([PyData.str line, .str word] : List PyData).length = 2 from rfl), show start0 3 [.str line, .str word] = [.sh (.str line), .sh (.str word), .un] from rfl]
    unfold m_items_in
    rw [seqS_nx (setS_go q1)]
    have hset : ([Sl.sh (.str line), .sh (.str word), .un].set 2 (.sh (.list (.str w :: r.map .str))) : Ro) = [.sh (.str line), .sh (.str word), .sh (.list (.str w :: r.map .str))] := rfl
    rw [hset]
    have q2 : exprS (cD F_demand (consA (m2 eqD (m2 ixD (rd 2) (cI 0)) (rd 1)) nilA)) [.sh (.str line), .sh (.str word), .sh (.list (.str w :: r.map .str))] = if w = word then .nx [.sh (.str line), .sh (.str word), .sh (.list (.str w :: r.map .str))] else .ex "InvalidLine" [.sh (.str line), .sh (.str word), .sh (.list (.str w :: r.map .str))] := by
      unfold exprS
      simp only [cD_eq, consA_eq, m2_eq, nilA_eq, rd, cI_eq, List.getElem?_cons_succ, List.getElem?_cons_zero, Out.ok_bind, ixD_list, atI_at0, eqD_str]
      by_cases h : w = word
      · rw [decide_eq_true h, F_demand_t, if_pos h]; rfl
      · rw [decide_eq_false h, F_demand_f, if_neg h]; rfl
    rw [seqS_eq, q2]
    have q3 : m3S slD (rd 2) (someP (cI 1)) noP [.sh (.str line), .sh (.str word), .sh (.list (.str w :: r.map .str))] = .ok (.list (r.map .str)) := by
      simp only [m3S_eq, rd, someP_eq, cI_eq, noP_eq, List.getElem?_cons_succ, List.getElem?_cons_zero, Out.ok_bind, asI_int, slD_list]
      rw [show (1 : Int) = ((1 : Nat) : Int) from rfl, cut_drop]
      rfl
    dsimp only
    by_cases h : w = word
    · rw [if_pos h, if_pos h]
      dsimp only
      rw [retS_go q3]
    · rw [if_neg h, if_neg h]
theorem F_numbers_in_ok {line word : Str} {k : Int} (hl : line.length ≤ 100000) : F_numbers_in [.str line, .str word, .int k] = match numsIn72 word line with
    | some l => if (l.length : Int) = k then .ok (.list (il l)) else .ex "InvalidLine"
    | none => .ex "InvalidLine" := by
  obtain ⟨b1, b2, b3⟩ := sep_space.bound line
  have e0 := F_items_in_ok (line := line) (word := word) hl
  unfold numsIn72
  generalize hP : Txt.split line " " = ps at b1 b2 b3 e0
  match ps with
  | [] => simp at b2
  | w :: r =>
    dsimp only at e0 ⊢
    unfold F_numbers_in runD
    rw [if_pos (show ([PyData.str line, .str word, .int k] : List PyData).length = 3 from rfl), show start0 5 [.str line, .str word, .int k] = [.sh (.str line), .sh (.str word), .sh (.int k), .un, .un] from rfl]
    have q1 : (seqM (cD F_items_in (consA (rd 0) (consA (rd 1) nilA)))) [.sh (.str line), .sh (.str word), .sh (.int k), .un, .un] = if w = word then .ok (r.map .str) else .ex "InvalidLine" := by
      rw [seqM_eq]
      show (F_items_in [.str line, .str word] >>= seqO) = _
      rw [e0]
      by_cases h : w = word
      · rw [if_pos h, if_pos h]; rfl
      · rw [if_neg h, if_neg h]; rfl
    have q2 : lcX (seqM (cD F_items_in (consA (rd 0) (consA (rd 1) nilA)))) (gN 4) yesB (cD F_number_in (consA (rd 4) nilA)) [4] [.sh (.str line), .sh (.str word), .sh (.int k), .un, .un] = match (if w = word then nums72 r else none) with | some l => .ok (il l) | none => .ex "InvalidLine" := by
      unfold lcX
      rw [q1]
      by_cases h : w = word
      · rw [if_pos h, if_pos h, Out.ok_bind, if_pos (sizes (by rw [List.length_map]; simp at b1; omega))]
        refine lcMX_nums r fun x hx => ?_
        have hlx := b3 x (List.mem_cons_of_mem _ hx)
        have e2 := F_number_in_ok (w := x) (by omega)
        have e3 : stpX (gN 4) yesB (cD F_number_in (consA (rd 4) nilA)) (wipeR [.sh (.str line), .sh (.str word), .sh (.int k), .un, .un] [4]) (.str x) = (F_number_in [.str x] >>= fun y => .ok (some y)) := rfl
        rw [e3, e2]
        cases num72 x <;> rfl
      · rw [if_neg h, if_neg h]; rfl
    unfold m_numbers_in
    rw [seqS_eq, setLS_eq, q2]
    cases (if w = word then nums72 r else none) with
    | none => rfl
    | some l =>
      dsimp only
      rw [thenF_ok]
      dsimp only
      have hset : ([Sl.sh (.str line), .sh (.str word), .sh (.int k), .un, .un].set 3 (.sh (.list (il l))) : Ro) = [.sh (.str line), .sh (.str word), .sh (.int k), .sh (.list (il l)), .un] := rfl
      rw [hset]
      have q3 : exprS (cD F_demand (consA (m2 eqD (cD lenD (consA (rd 3) nilA)) (rd 2)) nilA)) [.sh (.str line), .sh (.str word), .sh (.int k), .sh (.list (il l)), .un] = if (l.length : Int) = k then .nx [.sh (.str line), .sh (.str word), .sh (.int k), .sh (.list (il l)), .un] else .ex "InvalidLine" [.sh (.str line), .sh (.str word), .sh (.int k), .sh (.list (il l)), .un] := by
        unfold exprS
        simp only [cD_eq, consA_eq, m2_eq, nilA_eq, rd, List.getElem?_cons_succ, List.getElem?_cons_zero, Out.ok_bind, lenD_list, il, List.length_map, eqD_int]
        by_cases h : (l.length : Int) = k
        · rw [decide_eq_true h, F_demand_t, if_pos h]; rfl
        · rw [decide_eq_false h, F_demand_f, if_neg h]; rfl
      rw [seqS_eq, q3]
      by_cases h : (l.length : Int) = k
      · rw [if_pos h, if_pos h]; rfl
      · rw [if_neg h, if_neg h]
theorem F_lnumbers_in_ok {line word : Str} (hl : line.length ≤ 100000) : F__law_numbers_in [.str line, .str word] = match numsIn72 word line with
    | some l => .ok (.list (il l))
    | none => .ok .none := by
  obtain ⟨b1, b2, b3⟩ := sep_space.bound line
  unfold numsIn72
  generalize hP : Txt.split line " " = ps at b1 b2 b3
  match ps with
  | [] => simp at b2
  | w :: r =>
    dsimp only
    have st0 : start0 5 [.str line, .str word] = [.sh (.str line), .sh (.str word), .un, .un, .un] := rfl
    have q1 : (asL (strM splitO (rd 0) (cS " "))) [.sh (.str line), .sh (.str word), .un, .un, .un] = .ok (.list (.str w :: r.map .str)) := by
      rw [asL_eq]
      show (splitO line (.str " ") >>= fun ds => Out.ok (PyData.list ds)) = _
      rw [splitO_ok sep_space (by omega), hP]
      rfl
    have q2 : lcF (seqM (m3S slD (rd 2) (someP (cI 1)) noP)) (gN 4) yesB (cD F__law_number (consA (rd 4) nilA)) [4] [.sh (.str line), .sh (.str word), .sh (.list (.str w :: r.map .str)), .un, .un] = .ok (r.map lnum72) := by
      refine lc_all (l := r) (u := fun w => .str w) ?_ (by simp at b1; omega) fun x hx => ?_
      · rw [seqM_eq]
        simp only [m3S_eq, rd, someP_eq, cI_eq, noP_eq, List.getElem?_cons_succ, List.getElem?_cons_zero, Out.ok_bind, asI_int, slD_list]
        rw [show (1 : Int) = ((1 : Nat) : Int) from rfl, cut_drop]
        rfl
      · have hlx := b3 x (List.mem_cons_of_mem _ hx)
        have e2 := F_lnumber_ok (w := x) (by omega)
        show (F__law_number [.str x] >>= fun y => Out.ok (some y)) = _
        rw [e2]
        unfold lnum72
        cases num72 x <;> rfl
    have qin : (mB (m2 (inD false) cN (rd 3))) [.sh (.str line), .sh (.str word), .sh (.list (.str w :: r.map .str)), .sh (.list (r.map lnum72)), .un] = .ok (nums72 r).isNone := by
      simp only [mB_eq, m2_eq, cN_eq, rd, List.getElem?_cons_succ, List.getElem?_cons_zero, Out.ok_bind, in_none, asB_bool]
    have qne : (mB (m2 neD (m2 ixD (rd 2) (cI 0)) (rd 1))) [.sh (.str line), .sh (.str word), .sh (.list (.str w :: r.map .str)), .sh (.list (r.map lnum72)), .un] = .ok (!decide (w = word)) := by
      simp only [mB_eq, m2_eq, rd, cI_eq, List.getElem?_cons_succ, List.getElem?_cons_zero, Out.ok_bind, ixD_list, atI_at0, neD_str, asB_bool]
    have qor : (orB (mB (m2 neD (m2 ixD (rd 2) (cI 0)) (rd 1))) (mB (m2 (inD false) cN (rd 3)))) [.sh (.str line), .sh (.str word), .sh (.list (.str w :: r.map .str)), .sh (.list (r.map lnum72)), .un] = .ok ((if w = word then nums72 r else none).isNone) := by
      rw [orB_eq, qne, qin]
      by_cases h : w = word
      · rw [decide_eq_true h, if_pos h]; rfl
      · rw [decide_eq_false h, if_neg h]; rfl
    have run : ∀ d, m__law_numbers_in [.sh (.str line), .sh (.str word), .un, .un, .un] = .rt d → F__law_numbers_in [.str line, .str word] = .ok d := fun d h => runD_rt h rfl
    cases hn : (if w = word then nums72 r else none) with
    | none =>
      rw [hn] at qor
      refine run _ ?_
      unfold m__law_numbers_in
      exact (seqS_nx (setS_go q1)).trans ((seqS_nx (setLS_go q2)).trans (seqS_rt (ifS_t qor (retS_go rfl))))
    | some l =>
      rw [hn] at qor
      refine run _ ?_
      unfold m__law_numbers_in
      refine (seqS_nx (setS_go q1)).trans ((seqS_nx (setLS_go q2)).trans ((seqS_nx (ifS_f qor rfl)).trans (retS_go ?_)))
      have hr : nums72 r = some l := by
        by_cases h : w = word
        · rw [if_pos h] at hn; exact hn
        · rw [if_neg h] at hn; cases hn
      rw [← lnums_some hr]
      rfl
end line72

end
end Lw
namespace Lw
noncomputable section
open PySem PySem.Spec PyProof.Rows L2 DL
/-! the lines of a text -/
section lines72
open HT TL
theorem spl_hit1 (s : Nat) : ∀ (u acc : List Nat), spl [s] 0 acc (u ++ [s]) = spl [s] 0 acc u ++ [[]]
  | [], acc => by
    rw [List.nil_append, spl_nil, spl_hit (by simp [pre])]
    rfl
  | c :: r, acc => by
    rw [List.cons_append]
    by_cases h : c = s
    · subst h
      rw [spl_hit (by simp [pre]), spl_hit (by simp [pre])]
      show acc :: spl [c] 0 [] (r ++ [c]) = _
      rw [spl_hit1 c r []]
      rfl
    · rw [spl_miss (by simp [pre, Ne.symm h]; try omega), spl_miss (by simp [pre, Ne.symm h]; try omega), spl_hit1 s r]
theorem spl_miss1 {s c : Nat} (hc : c ≠ s) : ∀ (u acc : List Nat), ∃ l p, spl [s] 0 acc (u ++ [c]) = l ++ [p ++ [c]]
  | [], acc => ⟨[], acc, by rw [List.nil_append, spl_miss (by simp [pre, Ne.symm hc]; try omega), spl_nil]; rfl⟩
  | d :: r, acc => by
    rw [List.cons_append]
    by_cases h : d = s
    · subst h
      obtain ⟨l, p, e⟩ := spl_miss1 hc r []
      refine ⟨acc :: l, p, ?_⟩
      rw [spl_hit (by simp [pre])]
      show acc :: spl [d] 0 [] (r ++ [c]) = _
      rw [e]; rfl
    · obtain ⟨l, p, e⟩ := spl_miss1 hc r (acc ++ [d])
      exact ⟨l, p, by rw [spl_miss (by simp [pre, Ne.symm h]; try omega), e]⟩
def lines72 (s : Str) : Option (List Str) := if 1 < (Txt.split s "\n").length ∧ (Txt.split s "\n").getLast? = some ("" : Str) then some (Txt.split s "\n").dropLast else none
theorem tl_line : tl ("\n" : Str) = [10] := by decide +kernel
theorem tl_empty : tl ("" : Str) = [] := by decide +kernel
theorem map_tl_inj : ∀ {a b : List Str}, a.map tl = b.map tl → a = b
  | [], [], _ => rfl
  | [], _ :: _, h => by simp at h
  | _ :: _, [], h => by simp at h
  | x :: a, y :: b, h => by
    rw [List.map_cons, List.map_cons, List.cons.injEq] at h
    rw [ext_tl h.1, map_tl_inj h.2]
/-- a text that ends with a line's end -/
theorem lines_yes {s v : Str} {u : List Nat} (h : tl s = u ++ [10]) (hv : tl v = u) : lines72 s = some (Txt.split v "\n") := by
  have e1 := sep_line.spl s
  have e2 := sep_line.spl v
  rw [h, spl_hit1, ← hv, ← e2] at e1
  have e3 : Txt.split s "\n" = Txt.split v "\n" ++ [("" : Str)] := map_tl_inj (by rw [e1, List.map_append, List.map_cons, List.map_nil, tl_empty])
  have b2 := (sep_line.bound v).2.1
  unfold lines72
  rw [e3, if_pos ⟨by rw [List.length_append, List.length_cons, List.length_nil]; omega, by rw [List.getLast?_concat]⟩, List.dropLast_concat]
theorem lines_empty {s : Str} (h : tl s = []) : lines72 s = none := by
  have e1 := sep_line.spl s
  rw [h, spl_nil] at e1
  have e2 : (Txt.split s "\n").length = 1 := by rw [← List.length_map (f := tl), e1]; rfl
  unfold lines72
  rw [if_neg fun z => by omega]
theorem lines_no {s : Str} {u : List Nat} {c : Nat} (h : tl s = u ++ [c]) (hc : c ≠ 10) : lines72 s = none := by
  obtain ⟨l, p, e⟩ := spl_miss1 hc u []
  have e1 := sep_line.spl s
  rw [h, e] at e1
  unfold lines72
  rw [if_neg fun z => ?_]
  have e2 : ((Txt.split s "\n").map tl).getLast? = some (p ++ [c]) := by rw [e1, List.getLast?_concat]
  rw [List.getLast?_map, z.2, Option.map_some, tl_empty] at e2
  simp at e2
theorem lines_len {s : Str} {ls : List Str} (h : lines72 s = some ls) : 1 ≤ ls.length ∧ ls.length ≤ s.length ∧ ∀ w ∈ ls, w.length ≤ s.length := by
  obtain ⟨b1, b2, b3⟩ := sep_line.bound s
  unfold lines72 at h
  split at h
  · rename_i z
    cases h
    rw [List.length_dropLast]
    exact ⟨by omega, by omega, fun w hw => b3 w (List.dropLast_subset _ hw)⟩
  · cases h
theorem cut_init (ds : List PyData) : DL.cutD ds none (some (-1)) = ds.dropLast := by
  unfold DL.cutD
  have e1 : HT.sIx ds.length 0 none = 0 := rfl
  have e2 : HT.sIx ds.length ds.length (some (-1)) = ds.length - 1 := by
    show (if (-1 : Int) < 0 then ((-1 : Int) + (ds.length : Int)).toNat else min (-1 : Int).toNat ds.length) = _
    rw [if_pos (by decide)]
    omega
  rw [e1, e2, List.drop_zero, Nat.sub_zero, List.dropLast_eq_take]
theorem atI_last {α : Type} (l : List α) (h : 1 ≤ l.length) : atI l (-1) = l.getLast? := by
  have e : ixN l.length (-1) = some (l.length - 1) := by
    unfold ixN
    rw [if_neg (by decide)]
    first
    | (rw [if_pos (by omega)]; congr 1; omega)
    | (simp; omega)
  unfold atI
  rw [e, List.getLast?_eq_getElem?]
  rfl
end lines72

end
end Lw
namespace Lw
noncomputable section
open PySem PySem.Spec PyProof.Rows L2 DL
/-! lines_of, _law_lines_in -/
section lines72b
open HT TL
theorem F_lines_of_ok {s : Str} (hs : s.length ≤ 100000) : F_lines_of [.str s] = match lines72 s with
    | some ls => .ok (.list (ls.map .str))
    | none => .ex "InvalidLine" := by
  obtain ⟨b1, b2, b3⟩ := sep_line.bound s
  unfold lines72
  generalize hP : Txt.split s "\n" = ps at b1 b2 b3
  have q1 : (asL (strM splitO (rd 0) (cS "\n"))) [.sh (.str s), .un] = .ok (.list (ps.map .str)) := by
    rw [asL_eq]
    show (splitO s (.str "\n") >>= fun ds => Out.ok (PyData.list ds)) = _
    rw [splitO_ok sep_line (by omega), hP]
    rfl
  unfold F_lines_of runD
  rw [if_pos (show ([PyData.str s] : List PyData).length = 1 from rfl), show start0 2 [.str s] = [.sh (.str s), .un] from rfl]
  unfold m_lines_of
  rw [seqS_nx (setS_go q1)]
  have hset : ([Sl.sh (.str s), .un].set 1 (.sh (.list (ps.map .str))) : Ro) = [.sh (.str s), .sh (.list (ps.map .str))] := rfl
  rw [hset]
  have q2 : (andD (m2 gtD (cD lenD (consA (rd 1) nilA)) (cI 1)) (m2 eqD (m2 ixD (rd 1) (m1 negD (cI 1))) (cS ""))) [.sh (.str s), .sh (.list (ps.map .str))] = .ok (.bool (decide (1 < ps.length ∧ ps.getLast? = some ("" : Str)))) := by
    have e1 : (m2 gtD (cD lenD (consA (rd 1) nilA)) (cI 1)) [.sh (.str s), .sh (.list (ps.map .str))] = .ok (.bool (decide (1 < ps.length))) := by
      simp only [cD_eq, consA_eq, m2_eq, nilA_eq, rd, cI_eq, List.getElem?_cons_succ, List.getElem?_cons_zero, Out.ok_bind, lenD_list, List.length_map, gtD_int]
      congr 2
      exact decide_eq_decide.mpr (by omega)
    have e2 : (m2 eqD (m2 ixD (rd 1) (m1 negD (cI 1))) (cS "")) [.sh (.str s), .sh (.list (ps.map .str))] = .ok (.bool (decide (ps.getLast? = some ("" : Str)))) := by
      have e3 : (m1 negD (cI 1)) [.sh (.str s), .sh (.list (ps.map .str))] = .ok (.int (-1)) := rfl
      rw [m2_eq, m2_eq, e3]
      simp only [rd, List.getElem?_cons_succ, List.getElem?_cons_zero, Out.ok_bind, ixD_list, cS_eq]
      rw [atI_last _ (by rw [List.length_map]; exact b2), List.getLast?_map]
      obtain ⟨x, hx⟩ : ∃ x, ps.getLast? = some x := by
        cases h : ps.getLast? with
        | none => rw [List.getLast?_eq_none_iff] at h; rw [h] at b2; simp at b2
        | some x => exact ⟨x, rfl⟩
      rw [hx]
      show eqD (.str x) (.str "") = _
      rw [eqD_str]
      congr 2
      exact decide_eq_decide.mpr ⟨fun h => by rw [h], fun h => by cases h; rfl⟩
    rw [andD_eq, e1, e2]
    by_cases h : 1 < ps.length
    · rw [decide_eq_true h]
      show Out.ok (PyData.bool (decide (ps.getLast? = some ("" : Str)))) = _
      congr 2
      exact decide_eq_decide.mpr ⟨fun z => ⟨h, z⟩, fun z => z.2⟩
    · rw [decide_eq_false h, decide_eq_false (show ¬ (1 < ps.length ∧ ps.getLast? = some ("" : Str)) from fun z => h z.1)]
      rfl
  have q3 : exprS (cD F_demand (consA (andD (m2 gtD (cD lenD (consA (rd 1) nilA)) (cI 1)) (m2 eqD (m2 ixD (rd 1) (m1 negD (cI 1))) (cS ""))) nilA)) [.sh (.str s), .sh (.list (ps.map .str))] = if 1 < ps.length ∧ ps.getLast? = some ("" : Str) then .nx [.sh (.str s), .sh (.list (ps.map .str))] else .ex "InvalidLine" [.sh (.str s), .sh (.list (ps.map .str))] := by
    unfold exprS
    rw [cD_eq, consA_eq, q2]
    simp only [Out.ok_bind, nilA_eq]
    by_cases h : 1 < ps.length ∧ ps.getLast? = some ("" : Str)
    · rw [decide_eq_true h, F_demand_t, if_pos h]; rfl
    · rw [decide_eq_false h, F_demand_f, if_neg h]; rfl
  rw [seqS_eq, q3]
  by_cases h : 1 < ps.length ∧ ps.getLast? = some ("" : Str)
  · rw [if_pos h, if_pos h]
    dsimp only
    have q4 : (m3S slD (rd 1) noP (someP (m1 negD (cI 1)))) [.sh (.str s), .sh (.list (ps.map .str))] = .ok (.list (ps.dropLast.map .str)) := by
      have e3 : (m1 negD (cI 1)) [.sh (.str s), .sh (.list (ps.map .str))] = .ok (.int (-1)) := rfl
      simp only [m3S_eq, rd, someP_eq, noP_eq, e3, List.getElem?_cons_succ, List.getElem?_cons_zero, Out.ok_bind, asI_int, slD_list]
      rw [cut_init, List.map_dropLast]
    rw [retS_go q4]
  · rw [if_neg h, if_neg h]
theorem F_llines_ok {s : Str} (hs : s.length ≤ 100000) : F__law_lines_in [.str s] = match lines72 s with
    | some ls => .ok (.list (ls.map .str))
    | none => .ok .none := by
  have st0 : start0 1 [.str s] = [.sh (.str s)] := rfl
  have hs' : s.length ≤ 1000000 := by omega
  have run : ∀ d, m__law_lines_in [.sh (.str s)] = .rt d → F__law_lines_in [.str s] = .ok d := fun d h => runD_rt h rfl
  have e1 : (mB (m2 eqD (rd 0) (cS ""))) [.sh (.str s)] = .ok (decide (s = ("" : Str))) := by
    simp only [mB_eq, m2_eq, rd, List.getElem?_cons_zero, Out.ok_bind, cS_eq, eqD_str, asB_bool]
  have e5 : (m2 subD (cD lenD (consA (rd 0) nilA)) (cI 1)) [.sh (.str s)] = .ok (.int ((s.length : Int) - 1)) := by
    simp only [m2_eq, cD_eq, consA_eq, nilA_eq, rd, cI_eq, List.getElem?_cons_zero, Out.ok_bind, lenD_str hs', subD_int]
  rcases List.eq_nil_or_concat (tl s) with h0 | ⟨u, c, h1⟩
  · rw [lines_empty h0]
    have hse : s = ("" : Str) := ext_tl (by rw [h0, tl_empty])
    rw [decide_eq_true hse] at e1
    refine run _ ?_
    unfold m__law_lines_in
    refine seqS_rt (ifS_t ?_ (retS_go rfl))
    rw [orB_eq, e1]
    rfl
  · have h1 : tl s = u ++ [c] := h1.trans (by simp)
    have hlen : s.length = u.length + 1 := by rw [len_tl, h1, List.length_append, List.length_cons, List.length_nil]
    have hne : ¬ s = ("" : Str) := fun z => by rw [z, tl_empty] at h1; simp at h1
    rw [decide_eq_false hne] at e1
    have e2 : (m2 ixD (rd 0) (m2 subD (cD lenD (consA (rd 0) nilA)) (cI 1))) [.sh (.str s)] = .ok (.str ⟨#[c]⟩) := by
      rw [m2_eq, e5]
      simp only [rd, List.getElem?_cons_zero, Out.ok_bind]
      show (if s.length ≤ sizeLine then (match atI s.cps.toList ((s.length : Int) - 1) with | some c => Out.ok (PyData.str ⟨#[c]⟩) | none => .no) else .no) = _
      rw [if_pos (len_w hs'), show s.cps.toList = u ++ [c] from h1, show ((s.length : Int) - 1) = ((u.length : Nat) : Int) by omega, atI_cast]
      rw [List.getElem?_append_right (Nat.le_refl _), Nat.sub_self]
      rfl
    have e4 : (mB (m2 neD (m2 ixD (rd 0) (m2 subD (cD lenD (consA (rd 0) nilA)) (cI 1))) (cS "\n"))) [.sh (.str s)] = .ok (!decide (c = 10)) := by
      rw [mB_eq, m2_eq, e2]
      simp only [Out.ok_bind, cS_eq, neD_str, asB_bool]
      congr 2
      refine decide_eq_decide.mpr ?_
      rw [str_eq, tl_line]
      exact ⟨fun z => by simpa [tl] using z, fun z => by subst z; rfl⟩
    have eor : orB (mB (m2 eqD (rd 0) (cS ""))) (mB (m2 neD (m2 ixD (rd 0) (m2 subD (cD lenD (consA (rd 0) nilA)) (cI 1))) (cS "\n"))) [.sh (.str s)] = .ok (!decide (c = 10)) := by
      rw [orB_eq, e1, e4]
      rfl
    by_cases hc : c = 10
    · subst hc
      have hv : tl (cutS s (some 0) (some ((s.length : Int) - 1))) = u := by
        rw [show ((s.length : Int) - 1) = ((u.length : Nat) : Int) by omega, tl_cut, show (0 : Int) = ((0 : Nat) : Int) from rfl, HT.sIx_nat, HT.sIx_nat, h1]
        rw [Nat.min_eq_left (Nat.zero_le _), List.drop_zero, Nat.sub_zero, Nat.min_eq_left (by omega), List.take_left]
      rw [lines_yes h1 hv]
      refine run _ ?_
      unfold m__law_lines_in
      refine (seqS_nx (ifS_f (eor.trans (by rw [decide_eq_true rfl]; rfl)) rfl)).trans (retS_go ?_)
      have hcl : (cutS s (some 0) (some ((s.length : Int) - 1))).length ≤ 1000000 := by rw [len_tl, hv]; omega
      have e6 : (m3S slD (rd 0) (someP (cI 0)) (someP (m2 subD (cD lenD (consA (rd 0) nilA)) (cI 1)))) [.sh (.str s)] = .ok (.str (cutS s (some 0) (some ((s.length : Int) - 1)))) := by
        simp only [m3S_eq, rd, List.getElem?_cons_zero, someP_eq, cI_eq, Out.ok_bind, asI_int, e5, slD_str _ _ hs']
      generalize cutS s (some 0) (some ((s.length : Int) - 1)) = v at e6 hcl
      rw [asL_eq]
      have e7 : strM splitO (m3S slD (rd 0) (someP (cI 0)) (someP (m2 subD (cD lenD (consA (rd 0) nilA)) (cI 1)))) (cS "\n") [.sh (.str s)] = splitO v (.str "\n") := by
        unfold strM
        rw [e6]
        rfl
      rw [e7, splitO_ok sep_line hcl]
      rfl
    · rw [lines_no h1 hc]
      refine run _ ?_
      unfold m__law_lines_in
      exact seqS_rt (ifS_t (eor.trans (by rw [decide_eq_false hc]; rfl)) (retS_go rfl))
end lines72b

end
end Lw
namespace Lw
noncomputable section
open PySem PySem.Spec PyProof.Rows L2 DL
/-! stones, check_field -/
section stones72
open HT TL
def Near72 (p : Pt) : Prop := (-1000 ≤ p.1 ∧ p.1 ≤ 1000) ∧ (-1000 ≤ p.2 ∧ p.2 ≤ 1000)
instance (p : Pt) : Decidable (Near72 p) := by unfold Near72; infer_instance
theorem chain_near (x : Int) (t : Sl) : (andD (cD F_is_whole (consA (rd 1) nilA)) (chD leD leD (m1 negD (cG dv_FARTHEST)) (rd 1) (cG dv_FARTHEST))) [t, .sh (.int x)] = .ok (.bool (decide (-1000 ≤ x ∧ x ≤ 1000))) := by
  have e3 : (m1 negD (cG dv_FARTHEST)) [t, .sh (.int x)] = .ok (.int (-1000)) := rfl
  have e4 : (cD F_is_whole (consA (rd 1) nilA)) [t, .sh (.int x)] = .ok (.bool true) := by
    show F_is_whole [.int x] = _
    exact F_is_whole_int x
  rw [andD_eq, e4]
  simp only [Out.ok_bind, asB_bool, if_true, chD_eq, e3, rd, List.getElem?_cons_succ, List.getElem?_cons_zero, leD_int, cG]
  by_cases h1 : -1000 ≤ x
  · by_cases h2 : x ≤ 1000
    · simp [h1, h2]
    · simp [h1, h2]
  · simp [h1]
theorem F_is_stone_ok (p : Pt) : F_is_stone [pd p] = .ok (.bool (decide (Near72 p))) := by
  have q1 : (lcF (seqM (rd 0)) (gN 1) yesB (andD (cD F_is_whole (consA (rd 1) nilA)) (chD leD leD (m1 negD (cG dv_FARTHEST)) (rd 1) (cG dv_FARTHEST))) [1]) [.sh (pd p), .un] = .ok ([p.1, p.2].map fun x => .bool (decide (-1000 ≤ x ∧ x ≤ 1000))) := by
    refine lc_all (l := [p.1, p.2]) (u := fun x => .int x) rfl (by simp) fun x _ => ?_
    show ((andD (cD F_is_whole (consA (rd 1) nilA)) (chD leD leD (m1 negD (cG dv_FARTHEST)) (rd 1) (cG dv_FARTHEST))) [.sh (pd p), .sh (.int x)] >>= fun y => Out.ok (some y)) = _
    rw [chain_near]
    rfl
  refine runD_rt ?_ rfl
  unfold m_is_stone
  refine (seqS_nx (ifS_f ?_ rfl)).trans (retS_go ?_)
  · show orB _ _ [.sh (pd p), .un] = _
    simp [rd, pd, truD]
  · show cD allD (consA (asL _) nilA) [.sh (pd p), .un] = _
    rw [cD_eq, consA_eq, asL_eq, q1]
    simp only [Out.ok_bind, nilA_eq]
    rw [all_map]
    congr 2
    rw [Bool.eq_iff_iff, decide_eq_true_iff]
    unfold Near72
    simp
theorem check_loop (t : Sl) : ∀ (l : List Pt) (s : Sl), (∃ s', forD (gN 1) (ifS (notB (tru (cDq F_is_stone (consA (rd 1) nilA)))) (raiseS "InvalidStone") .nx) (pl l) [t, s] = if ∀ p ∈ l, Near72 p then .nx [t, s'] else .ex "InvalidStone" [t, s'])
  | [], s => ⟨s, by rw [if_pos (fun p hp => by cases hp)]; rfl⟩
  | p :: l, s => by
    have q : (notB (tru (cDq F_is_stone (consA (rd 1) nilA)))) [t, .sh (pd p)] = .ok (!decide (Near72 p)) := by
      have e : (cDq F_is_stone (consA (rd 1) nilA)) [t, .sh (pd p)] = .ok (.bool (decide (Near72 p))) := by
        show quiet (F_is_stone [pd p]) = _
        rw [F_is_stone_ok]; rfl
      unfold notB
      rw [tru_eq, e]
      rfl
    by_cases h : Near72 p
    · obtain ⟨s', e⟩ := check_loop t l (.sh (pd p))
      refine ⟨s', ?_⟩
      rw [pl_cons, forD_nx (ρ1 := [t, .sh (pd p)]) rfl (ifS_f (q.trans (by rw [decide_eq_true h]; rfl)) rfl), e]
      by_cases h2 : ∀ q ∈ l, Near72 q
      · rw [if_pos h2, if_pos fun q hq => (List.mem_cons.mp hq).elim (fun z => z ▸ h) (h2 q)]
      · rw [if_neg h2, if_neg fun z => h2 fun q hq => z q (List.mem_cons_of_mem _ hq)]
    · refine ⟨.sh (pd p), ?_⟩
      rw [pl_cons, forD_cons, gN_eq, if_neg fun z => h (z p List.mem_cons_self)]
      have e : (ifS (notB (tru (cDq F_is_stone (consA (rd 1) nilA)))) (raiseS "InvalidStone") .nx) [t, .sh (pd p)] = .ex "InvalidStone" [t, .sh (pd p)] := ifS_t (q.trans (by rw [decide_eq_false h]; rfl)) rfl
      show (match (ifS (notB (tru (cDq F_is_stone (consA (rd 1) nilA)))) (raiseS "InvalidStone") .nx) [t, .sh (pd p)] with
        | .nx ρ' => _ | .ct ρ' => _ | .bk ρ' => _ | f => f) = _
      rw [e]
def Field72 (l : List Pt) : Prop := (∀ p ∈ l, Near72 p) ∧ 1 ≤ l.length ∧ l.length ≤ 12
theorem F_check_field_ok (l : List Pt) : (Field72 l → F_check_field [.list (pl l)] = .ok .none) ∧ (¬ Field72 l → ∃ c, c ∈ (["InvalidStone", "WrongCount"] : List Str) ∧ F_check_field [.list (pl l)] = .ex c) := by
  have st0 : start0 2 [.list (pl l)] = [.sh (.list (pl l)), .un] := rfl
  obtain ⟨s', e⟩ := check_loop (.sh (.list (pl l))) l .un
  have e1 : forS (seqM (rd 0)) (gN 1) (ifS (notB (tru (cDq F_is_stone (consA (rd 1) nilA)))) (raiseS "InvalidStone") .nx) [.sh (.list (pl l)), .un] = if ∀ p ∈ l, Near72 p then .nx [.sh (.list (pl l)), s'] else .ex "InvalidStone" [.sh (.list (pl l)), s'] := forS_go rfl e
  have q : (notB (mB (chD leD leD (cI 1) (cD lenD (consA (rd 0) nilA)) (cG dv_MOST_STONES)))) [.sh (.list (pl l)), s'] = .ok (!decide (1 ≤ l.length ∧ l.length ≤ 12)) := by
    have e2 : (mB (chD leD leD (cI 1) (cD lenD (consA (rd 0) nilA)) (cG dv_MOST_STONES))) [.sh (.list (pl l)), s'] = .ok (decide (1 ≤ l.length ∧ l.length ≤ 12)) := by
      simp only [mB_eq, chD_eq, cI_eq, cD_eq, consA_eq, nilA_eq, rd, List.getElem?_cons_zero, Out.ok_bind, lenD_list, leD_int, asB_bool, cG, pl, List.length_map]
      by_cases h1 : 1 ≤ l.length
      · have h1' : (1 : Int) ≤ (l.length : Int) := by omega
        by_cases h2 : l.length ≤ 12
        · have h2' : (l.length : Int) ≤ 12 := by omega
          simp [h1, h2, h1', h2']
        · have h2' : ¬ (l.length : Int) ≤ 12 := by omega
          simp [h1, h2, h1', h2']
      · have h1' : ¬ (1 : Int) ≤ (l.length : Int) := by omega
        simp [h1, h1']
    unfold notB
    rw [e2]
    rfl
  unfold F_check_field runD
  rw [if_pos (show ([PyData.list (pl l)] : List PyData).length = 1 from rfl), st0]
  unfold m_check_field
  rw [seqS_eq, e1]
  unfold Field72
  by_cases h1 : ∀ p ∈ l, Near72 p
  · rw [if_pos h1]
    dsimp only
    by_cases h2 : 1 ≤ l.length ∧ l.length ≤ 12
    · rw [decide_eq_true h2] at q
      refine ⟨fun _ => ?_, fun z => absurd ⟨h1, h2⟩ z⟩
      rw [ifS_f q rfl]
    · rw [decide_eq_false h2] at q
      refine ⟨fun z => absurd z.2 h2, fun _ => ⟨"WrongCount", by simp, ?_⟩⟩
      rw [ifS_t q (show raiseS "WrongCount" _ = .ex "WrongCount" _ from rfl)]
  · rw [if_neg h1]
    exact ⟨fun z => absurd z.1 h1, fun _ => ⟨"InvalidStone", by simp, rfl⟩⟩
end stones72

end
end Lw
namespace Lw
noncomputable section
open PySem PySem.Spec PyProof.Rows L2 DL
/-! field_in -/
section field72
open HT TL
instance (l : List Pt) : Decidable (Field72 l) := Classical.propDecidable _
def stone72 (w : Str) : Option Pt := match numsIn72 "stone" w with
  | some [x, y] => some (x, y)
  | _ => none
def stones72 : List Str → Option (List Pt)
  | [] => some []
  | w :: r => match stone72 w, stones72 r with
    | some p, some l => some (p :: l)
    | _, _ => none
theorem stones_len : ∀ {ws : List Str} {l : List Pt}, stones72 ws = some l → l.length = ws.length
  | [], l, h => by cases h; rfl
  | w :: r, l, h => by
    unfold stones72 at h
    split at h
    · rename_i i m e1 e2
      cases h
      rw [List.length_cons, List.length_cons, stones_len e2]
    · cases h
theorem lcMX_stones {f : PyData → Out (Option PyData)} : ∀ (ws : List Str), (∀ w ∈ ws, f (.str w) = match stone72 w with | some p => .ok (some (pd p)) | none => .ex "InvalidLine") → lcMX f (ws.map .str) = match stones72 ws with | some l => .ok (pl l) | none => .ex "InvalidLine"
  | [], _ => rfl
  | w :: r, h => by
    have ih := lcMX_stones r fun x hx => h x (List.mem_cons_of_mem _ hx)
    have h0 := h w List.mem_cons_self
    rw [List.map_cons]
    unfold lcMX stones72
    rw [h0, ih]
    cases stone72 w with
    | none => rfl
    | some i =>
      cases stones72 r with
      | none => rfl
      | some l => rfl
def count72 (word line : Str) : Option Int := match numsIn72 word line with
  | some [n] => some n
  | _ => none
def field72 (ls : List Str) : Option (List Pt × List Str) := match ls with
  | [] => none
  | w :: r => match count72 "field" w with
    | some n => if 0 < n ∧ n < ((w :: r).length : Int) then (match stones72 (r.take n.toNat) with
      | some st => if Field72 st then some (st, r.drop n.toNat) else none
      | none => none) else none
    | none => none
theorem cut_mid (d : PyData) (ds : List PyData) (k : Nat) (h : k ≤ ds.length) : DL.cutD (d :: ds) (some 1) (some ((k : Int) + 1)) = ds.take k := by
  unfold DL.cutD
  rw [show ((k : Int) + 1) = ((k + 1 : Nat) : Int) by omega, show (1 : Int) = ((1 : Nat) : Int) from rfl, HT.sIx_nat, HT.sIx_nat, List.length_cons, Nat.min_eq_left (by omega), Nat.min_eq_left (by omega)]
  rfl
theorem F_one_ok {line word : Str} (hl : line.length ≤ 100000) : (F_numbers_in [.str line, .str word, .int 1] >>= fun d => ixD d (.int 0)) = match count72 word line with
    | some n => .ok (.int n)
    | none => .ex "InvalidLine" := by
  rw [F_numbers_in_ok hl]
  unfold count72
  cases numsIn72 word line with
  | none => rfl
  | some l =>
    match l with
    | [] => rfl
    | [n] => rfl
    | a :: b :: r =>
      dsimp only
      rw [if_neg (by simp; omega)]
      rfl
theorem F_two_ok {w : Str} (hl : w.length ≤ 100000) : (F_numbers_in [.str w, .str "stone", .int 2] >>= fun d => tupleD [d]) = match stone72 w with
    | some p => .ok (pd p)
    | none => .ex "InvalidLine" := by
  rw [F_numbers_in_ok hl]
  unfold stone72
  cases numsIn72 "stone" w with
  | none => rfl
  | some l =>
    match l with
    | [] => rfl
    | [n] => rfl
    | [a, b] => rfl
    | a :: b :: c :: r =>
      dsimp only
      rw [if_neg (by simp; omega)]
      rfl
theorem seqY_nx {ms : MS} {mr : MY} {ρ ρ' : Ro} (h : ms ρ = .nx ρ') : seqY ms mr ρ = mr ρ' := by unfold seqY; rw [h]
theorem seqY_ex {ms : MS} {mr : MY} {c : Str} {ρ ρ' : Ro} (h : ms ρ = .ex c ρ') : seqY ms mr ρ = .ex c ρ' := by unfold seqY; rw [h]
theorem F_field_in_ok {ls : List Str} (hz : ls.length ≤ 100000) (hl : ∀ w ∈ ls, w.length ≤ 100000) : F_field_in [.list (ls.map .str)] = match field72 ls with
    | some x => .ok (pl x.1, .list (x.2.map .str))
    | none => .ex "InvalidLine" := by
  have run : ∀ f, m_field_in [.sh (.list (ls.map .str)), .un, .un, .un] = f → F_field_in [.list (ls.map .str)] = (match f with | .ok x => .ok x | .ex c _ => .ex c | .no => .no) := fun f h => by
    unfold F_field_in runY
    rw [if_pos (show ([PyData.list (ls.map .str)] : List PyData).length = 1 from rfl), show start0 4 [.list (ls.map .str)] = [.sh (.list (ls.map .str)), .un, .un, .un] from rfl, h]
    all_goals (cases f <;> rfl)
  match ls, hz, hl, run with
  | [], hz, hl, run => exact run _ (seqY_ex (ρ' := [.sh (.list []), .un, .un, .un]) rfl)
  | w :: r, hz, hl, run =>
    have hw := hl w List.mem_cons_self
    have hlen : (((w :: r).map PyData.str).length : Int) = (r.length : Int) + 1 := by simp
    generalize hL : (w :: r).map PyData.str = L at run hlen
    have e1 := F_one_ok (line := w) (word := "field") hw
    have q0 : exprS (cD F_demand (consA (m2 gtD (cD lenD (consA (rd 0) nilA)) (cI 0)) nilA)) [.sh (.list L), .un, .un, .un] = .nx [.sh (.list L), .un, .un, .un] := by
      unfold exprS
      simp only [cD_eq, consA_eq, m2_eq, nilA_eq, rd, cI_eq, List.getElem?_cons_zero, Out.ok_bind, lenD_list, gtD_int, hlen]
      rw [decide_eq_true (by omega), F_demand_t]; rfl
    have q1 : (m2 ixD (cD F_numbers_in (consA (m2 ixD (rd 0) (cI 0)) (consA (cS "field") (consA (cI 1) nilA)))) (cI 0)) [.sh (.list L), .un, .un, .un] = match count72 "field" w with
        | some n => .ok (.int n)
        | none => .ex "InvalidLine" := by
      rw [← e1, ← hL]
      have e6 : (cD F_numbers_in (consA (m2 ixD (rd 0) (cI 0)) (consA (cS "field") (consA (cI 1) nilA)))) [.sh (.list ((w :: r).map .str)), .un, .un, .un] = F_numbers_in [.str w, .str "field", .int 1] := by
        simp only [cD_eq, consA_eq, m2_eq, nilA_eq, rd, cI_eq, cS_eq, List.getElem?_cons_zero, Out.ok_bind, ixD_list, List.map_cons, atI_at0]
      rw [m2_eq, e6]
      cases F_numbers_in [.str w, .str "field", .int 1] <;> rfl
    have q1' : setS 1 (m2 ixD (cD F_numbers_in (consA (m2 ixD (rd 0) (cI 0)) (consA (cS "field") (consA (cI 1) nilA)))) (cI 0)) [.sh (.list L), .un, .un, .un] = match count72 "field" w with
        | some n => .nx [.sh (.list L), .sh (.int n), .un, .un]
        | none => .ex "InvalidLine" [.sh (.list L), .un, .un, .un] := by
      rw [setS_eq, q1]
      cases count72 "field" w <;> rfl
    have hrun : ∀ f, seqY (setS 1 (m2 ixD (cD F_numbers_in (consA (m2 ixD (rd 0) (cI 0)) (consA (cS "field") (consA (cI 1) nilA)))) (cI 0))) _ [.sh (.list L), .un, .un, .un] = f → _ := fun f h => run f ((seqY_nx q0).trans h)
    unfold field72
    dsimp only
    cases hc : count72 "field" w with
    | none =>
      rw [hc] at q1'
      exact hrun _ (seqY_ex q1')
    | some n =>
      rw [hc] at q1'
      dsimp only at q1' ⊢
      have q2 : exprS (cD F_demand (consA (chD ltD ltD (cI 0) (rd 1) (cD lenD (consA (rd 0) nilA))) nilA)) [.sh (.list L), .sh (.int n), .un, .un] = if 0 < n ∧ n < ((w :: r).length : Int) then .nx [.sh (.list L), .sh (.int n), .un, .un] else .ex "InvalidLine" [.sh (.list L), .sh (.int n), .un, .un] := by
        have e6 : (chD ltD ltD (cI 0) (rd 1) (cD lenD (consA (rd 0) nilA))) [.sh (.list L), .sh (.int n), .un, .un] = .ok (.bool (decide (0 < n ∧ n < ((w :: r).length : Int)))) := by
          simp only [cD_eq, consA_eq, chD_eq, nilA_eq, rd, cI_eq, List.getElem?_cons_succ, List.getElem?_cons_zero, Out.ok_bind, lenD_list, ltD_int, asB_bool, hlen, List.length_cons]
          by_cases h1 : 0 < n
          · by_cases h2 : n < (r.length : Int) + 1
            · simp [h1, h2]
            · simp [h1, h2]
          · simp [h1]
        unfold exprS
        rw [cD_eq, consA_eq, e6]
        simp only [Out.ok_bind, nilA_eq]
        by_cases h1 : 0 < n ∧ n < ((w :: r).length : Int)
        · rw [decide_eq_true h1, F_demand_t, if_pos h1]; rfl
        · rw [decide_eq_false h1, F_demand_f, if_neg h1]; rfl
      by_cases hn : 0 < n ∧ n < ((w :: r).length : Int)
      · rw [if_pos hn] at q2 ⊢
        obtain ⟨k, rfl⟩ : ∃ k : Nat, n = (k : Int) := ⟨n.toNat, by omega⟩
        rw [List.length_cons] at hn
        have hk : k ≤ r.length := by omega
        have hrk : ((k : Int)).toNat = k := by omega
        rw [hrk]
        have q3 : lcX (seqM (m3S slD (rd 0) (someP (cI 1)) (someP (m2 addD (rd 1) (cI 1))))) (gN 3) yesB (cD tupleD (consA (cD F_numbers_in (consA (rd 3) (consA (cS "stone") (consA (cI 2) nilA)))) nilA)) [3] [.sh (.list L), .sh (.int (k : Int)), .un, .un] = match stones72 (r.take k) with | some l => .ok (pl l) | none => .ex "InvalidLine" := by
          unfold lcX
          have e3 : seqM (m3S slD (rd 0) (someP (cI 1)) (someP (m2 addD (rd 1) (cI 1)))) [.sh (.list L), .sh (.int (k : Int)), .un, .un] = .ok ((r.take k).map .str) := by
            simp only [seqM_eq, m3S_eq, m2_eq, rd, someP_eq, cI_eq, List.getElem?_cons_succ, List.getElem?_cons_zero, Out.ok_bind, addD_int, asI_int, slD_list]
            rw [← hL, List.map_cons, cut_mid _ _ k (by rw [List.length_map]; exact hk), List.map_take]
            rfl
          rw [e3, Out.ok_bind, if_pos (sizes (by rw [List.length_map, List.length_take]; simp at hz; omega))]
          refine lcMX_stones _ fun x hx => ?_
          have hlx := hl x (List.mem_cons_of_mem _ (List.mem_of_mem_take hx))
          have e4 := F_two_ok (w := x) hlx
          have e5 : stpX (gN 3) yesB (cD tupleD (consA (cD F_numbers_in (consA (rd 3) (consA (cS "stone") (consA (cI 2) nilA)))) nilA)) (wipeR [.sh (.list L), .sh (.int (k : Int)), .un, .un] [3]) (.str x) = ((F_numbers_in [.str x, .str "stone", .int 2] >>= fun d => tupleD [d]) >>= fun y => .ok (some y)) := by
            show (cD tupleD (consA (cD F_numbers_in (consA (rd 3) (consA (cS "stone") (consA (cI 2) nilA)))) nilA) [.sh (.list L), .sh (.int (k : Int)), .un, .sh (.str x)] >>= fun y => Out.ok (some y)) = _
            congr 1
            have e6 : (cD F_numbers_in (consA (rd 3) (consA (cS "stone") (consA (cI 2) nilA)))) [.sh (.list L), .sh (.int (k : Int)), .un, .sh (.str x)] = F_numbers_in [.str x, .str "stone", .int 2] := rfl
            rw [cD_eq, consA_eq, e6]
            cases F_numbers_in [.str x, .str "stone", .int 2] <;> rfl
          rw [e5, e4]
          cases stone72 x <;> rfl
        have q3' : setFS 2 (lcX (seqM (m3S slD (rd 0) (someP (cI 1)) (someP (m2 addD (rd 1) (cI 1))))) (gN 3) yesB (cD tupleD (consA (cD F_numbers_in (consA (rd 3) (consA (cS "stone") (consA (cI 2) nilA)))) nilA)) [3]) [.sh (.list L), .sh (.int (k : Int)), .un, .un] = match stones72 (r.take k) with | some l => .nx [.sh (.list L), .sh (.int (k : Int)), .own (.lst (pl l)), .un] | none => .ex "InvalidLine" [.sh (.list L), .sh (.int (k : Int)), .un, .un] := by
          unfold setFS
          rw [q3]
          cases stones72 (r.take k) <;> rfl
        cases hs : stones72 (r.take k) with
        | none =>
          rw [hs] at q3'
          exact hrun _ ((seqY_nx q1').trans ((seqY_nx q2).trans (seqY_ex q3')))
        | some st =>
          rw [hs] at q3'
          dsimp only at q3' ⊢
          obtain ⟨c1, c2⟩ := F_check_field_ok st
          by_cases hf : Field72 st
          · rw [if_pos hf]
            have q4 : tryN ["InvalidStone", "WrongCount"] "InvalidLine" (exprS (borD [2] (cD F_check_field (consA (rd 2) nilA)))) [.sh (.list L), .sh (.int (k : Int)), .own (.lst (pl st)), .un] = .nx [.sh (.list L), .sh (.int (k : Int)), .own (.lst (pl st)), .un] := by
              have e6 : (borD [2] (cD F_check_field (consA (rd 2) nilA))) [.sh (.list L), .sh (.int (k : Int)), .own (.lst (pl st)), .un] = .ok .none := by
                show (F_check_field [.list (pl st)] >>= flatO) = _
                rw [c1 hf]; rfl
              unfold tryN exprS
              rw [e6]; rfl
            have q5 : retY 2 (m3S slD (rd 0) (someP (m2 addD (rd 1) (cI 1))) noP) [.sh (.list L), .sh (.int (k : Int)), .own (.lst (pl st)), .un] = .ok (pl st, .list ((r.drop k).map .str)) := by
              unfold retY
              have e7 : (m3S slD (rd 0) (someP (m2 addD (rd 1) (cI 1))) noP) [.sh (.list L), .sh (.int (k : Int)), .own (.lst (pl st)), .un] = .ok (.list ((r.drop k).map .str)) := by
                simp only [m3S_eq, m2_eq, rd, someP_eq, cI_eq, noP_eq, List.getElem?_cons_succ, List.getElem?_cons_zero, Out.ok_bind, addD_int, asI_int, slD_list]
                rw [← hL, show ((k : Int) + 1) = ((k + 1 : Nat) : Int) by omega, cut_drop, List.map_cons, List.drop_succ_cons, List.map_drop]
              rw [e7]; rfl
            exact hrun _ ((seqY_nx q1').trans ((seqY_nx q2).trans ((seqY_nx q3').trans ((seqY_nx q4).trans q5))))
          · rw [if_neg hf]
            obtain ⟨c, hc1, hc2⟩ := c2 hf
            have q4 : tryN ["InvalidStone", "WrongCount"] "InvalidLine" (exprS (borD [2] (cD F_check_field (consA (rd 2) nilA)))) [.sh (.list L), .sh (.int (k : Int)), .own (.lst (pl st)), .un] = .ex "InvalidLine" [.sh (.list L), .sh (.int (k : Int)), .own (.lst (pl st)), .un] := by
              have e6 : (borD [2] (cD F_check_field (consA (rd 2) nilA))) [.sh (.list L), .sh (.int (k : Int)), .own (.lst (pl st)), .un] = .ex c := by
                show (F_check_field [.list (pl st)] >>= flatO) = _
                rw [hc2]; rfl
              unfold tryN exprS
              rw [e6]
              show (if c ∈ (["InvalidStone", "WrongCount"] : List Str) then _ else _) = _
              rw [if_pos hc1]
            exact hrun _ ((seqY_nx q1').trans ((seqY_nx q2).trans ((seqY_nx q3').trans (seqY_ex q4))))
      · rw [if_neg hn] at q2 ⊢
        exact hrun _ ((seqY_nx q1').trans (seqY_ex q2))
end field72

end
end Lw
namespace Lw
noncomputable section
open PySem PySem.Spec PyProof.Rows L2 DL
/-! _law_field_in -/
section lfield72
open HT TL
theorem bestOk_ints (a b : Int) : BestOk [.int a, .int b] where
  al := by
    refine ⟨fun x hx y hy => ?_, fun x hx => ?_⟩
    · simp only [List.mem_cons, List.not_mem_nil, or_false] at hx hy
      rcases hx with rfl | rfl <;> rcases hy with rfl | rfl <;> simp [PySem.W.alike]
    · simp only [List.mem_cons, List.not_mem_nil, or_false] at hx
      rcases hx with rfl | rfl <;> simp
  shape := fun d hd => by
    simp only [List.mem_cons, List.not_mem_nil, or_false] at hd
    rcases hd with rfl | rfl <;> exact (shK_int _).mono (by decide)
theorem minG_ii (a b : Int) : minG [.list [.int a, .int b]] = .ok (.int (min a b)) := by
  rw [minG_list, if_pos (bestOk_ints a b)]
  have := PySem.W.minD_ints a [b]
  rw [List.map_cons, List.map_nil] at this
  rw [this]
  rfl
theorem maxG_ii (a b : Int) : maxG [.list [.int a, .int b]] = .ok (.int (max a b)) := by
  rw [maxG_list, if_pos (bestOk_ints a b)]
  have := PySem.W.maxD_ints a [b]
  rw [List.map_cons, List.map_nil] at this
  rw [this]
  rfl
def nst72 (w : Str) : Option Pt := match stone72 w with
  | some p => if Near72 p then some p else none
  | none => none
def nsts72 : List Str → Option (List Pt)
  | [] => some []
  | w :: r => match nst72 w, nsts72 r with
    | some p, some l => some (p :: l)
    | _, _ => none
theorem nsts_eq : ∀ ws : List Str, nsts72 ws = match stones72 ws with
    | some l => if ∀ p ∈ l, Near72 p then some l else none
    | none => none
  | [] => by
    show some [] = (if ∀ p ∈ ([] : List Pt), Near72 p then some [] else none)
    rw [if_pos fun p hp => by cases hp]
  | w :: r => by
    unfold nsts72 stones72
    rw [nsts_eq r]
    unfold nst72
    cases stone72 w with
    | none => rfl
    | some p =>
      cases stones72 r with
      | none =>
        dsimp only
        by_cases h : Near72 p
        · rw [if_pos h]
        · rw [if_neg h]
      | some l =>
        dsimp only
        by_cases h : Near72 p
        · rw [if_pos h]
          by_cases h2 : ∀ q ∈ l, Near72 q
          · rw [if_pos h2, if_pos fun q hq => (List.mem_cons.mp hq).elim (fun z => z ▸ h) (h2 q)]
          · rw [if_neg h2, if_neg fun z => h2 fun q hq => z q (List.mem_cons_of_mem _ hq)]
        · rw [if_neg h]
          have hh : ¬ ∀ q ∈ p :: l, Near72 q := fun z => h (z p List.mem_cons_self)
          rw [if_neg hh]
abbrev lbody72 : MS := (seqS (setS 4 (cD F__law_numbers_in (consA (rd 3) (consA (cS "stone") nilA))))
    (seqS (ifS (orB (mB (m2 isND (rd 4) cN)) (orB (mB (m2 neD (cD lenD (consA (rd 4) nilA)) (cI 2))) (orB (mB (m2 ltD (cD minG (consA (rd 4) nilA)) (m1 negD (cI 1000)))) (mB (m2 gtD (cD maxG (consA (rd 4) nilA)) (cI 1000))))))
    (retS cN)
    .nx)
    (appS 2 (tupD (consA (m2 ixD (rd 4) (cI 0)) (consA (m2 ixD (rd 4) (cI 1)) nilA))))))
theorem lbody_ok {w : Str} (hl : w.length ≤ 100000) (L H : PyData) (acc : List PyData) (s4 : Sl) (ha : acc.length ≤ 1000000) : lbody72 [.sh L, .sh H, .own (.lst acc), .sh (.str w), s4] = match nst72 w with
    | some p => .nx [.sh L, .sh H, .own (.lst (acc ++ [pd p])), .sh (.str w), .sh (.list [.int p.1, .int p.2])]
    | none => .rt .none := by
  have z2 : 2 ≤ sizeLine := sizes (by decide)
  have e0 := F_lnumbers_in_ok (line := w) (word := "stone") hl
  have e1 : (cD F__law_numbers_in (consA (rd 3) (consA (cS "stone") nilA))) [.sh L, .sh H, .own (.lst acc), .sh (.str w), s4] = F__law_numbers_in [.str w, .str "stone"] := rfl
  unfold nst72 stone72
  cases hn : numsIn72 "stone" w with
  | none =>
    rw [hn] at e0
    exact (seqS_nx (setS_go (e1.trans e0))).trans (seqS_rt (ifS_t (by simp [rd]) (retS_go rfl)))
  | some l =>
    rw [hn] at e0
    dsimp only at e0 ⊢
    match l with
    | [] => exact (seqS_nx (setS_go (e1.trans e0))).trans (seqS_rt (ifS_t (by simp [rd, il]) (retS_go rfl)))
    | [a] => exact (seqS_nx (setS_go (e1.trans e0))).trans (seqS_rt (ifS_t (by simp [rd, il]) (retS_go rfl)))
    | a :: b :: c :: r => exact (seqS_nx (setS_go (e1.trans e0))).trans (seqS_rt (ifS_t (by
        simp [rd, il]
        have : (r.length : Int) + 1 + 1 + 1 ≠ 2 := by omega
        simp [this]) (retS_go rfl)))
    | [a, b] =>
      dsimp only
      have qor : (orB (mB (m2 isND (rd 4) cN)) (orB (mB (m2 neD (cD lenD (consA (rd 4) nilA)) (cI 2))) (orB (mB (m2 ltD (cD minG (consA (rd 4) nilA)) (m1 negD (cI 1000)))) (mB (m2 gtD (cD maxG (consA (rd 4) nilA)) (cI 1000)))))) [.sh L, .sh H, .own (.lst acc), .sh (.str w), .sh (.list [.int a, .int b])] = .ok (decide (¬ Near72 (a, b))) := by
        have f1 : (mB (m2 isND (rd 4) cN)) [.sh L, .sh H, .own (.lst acc), .sh (.str w), .sh (.list [.int a, .int b])] = .ok false := rfl
        have f2 : (mB (m2 neD (cD lenD (consA (rd 4) nilA)) (cI 2))) [.sh L, .sh H, .own (.lst acc), .sh (.str w), .sh (.list [.int a, .int b])] = .ok false := by simp [rd]
        have f3 : (mB (m2 ltD (cD minG (consA (rd 4) nilA)) (m1 negD (cI 1000)))) [.sh L, .sh H, .own (.lst acc), .sh (.str w), .sh (.list [.int a, .int b])] = .ok (decide (min a b < -1000)) := by
          have g : (cD minG (consA (rd 4) nilA)) [.sh L, .sh H, .own (.lst acc), .sh (.str w), .sh (.list [.int a, .int b])] = .ok (.int (min a b)) := minG_ii a b
          have g2 : (m1 negD (cI 1000)) [.sh L, .sh H, .own (.lst acc), .sh (.str w), .sh (.list [.int a, .int b])] = .ok (.int (-1000)) := rfl
          rw [mB_eq, m2_eq, g, g2]
          simp only [Out.ok_bind, ltD_int, asB_bool]
        have f4 : (mB (m2 gtD (cD maxG (consA (rd 4) nilA)) (cI 1000))) [.sh L, .sh H, .own (.lst acc), .sh (.str w), .sh (.list [.int a, .int b])] = .ok (decide (max a b > 1000)) := by
          have g : (cD maxG (consA (rd 4) nilA)) [.sh L, .sh H, .own (.lst acc), .sh (.str w), .sh (.list [.int a, .int b])] = .ok (.int (max a b)) := maxG_ii a b
          rw [mB_eq, m2_eq, g]
          simp only [Out.ok_bind, cI_eq, gtD_int, asB_bool]
        rw [orB_eq, f1, orB_eq, f2, orB_eq, f3, f4]
        by_cases h1 : min a b < -1000
        · rw [decide_eq_true h1, decide_eq_true (show ¬ Near72 (a, b) from fun z => by unfold Near72 at z; dsimp only at z; omega)]
          rfl
        · rw [decide_eq_false h1]
          show Out.ok (decide (max a b > 1000)) = _
          congr 1
          refine decide_eq_decide.mpr ?_
          unfold Near72
          dsimp only
          omega
      refine (seqS_nx (setS_go (e1.trans e0))).trans ?_
      show (seqS (ifS _ _ _) _) [.sh L, .sh H, .own (.lst acc), .sh (.str w), .sh (.list [.int a, .int b])] = _
      by_cases h : Near72 (a, b)
      · rw [if_pos h]
        rw [decide_eq_false (show ¬ ¬ Near72 (a, b) from fun z => z h)] at qor
        refine (seqS_nx (ifS_f qor rfl)).trans ((appS_go (d := pd (a, b)) rfl ?_ (by omega)).trans rfl)
        simp [rd, z2, pd]
      · rw [if_neg h]
        rw [decide_eq_true h] at qor
        exact seqS_rt (ifS_t qor (retS_go rfl))
theorem lfloop (L H : PyData) : ∀ (ws : List Str) (acc : List PyData) (s3 s4 : Sl), (∀ w ∈ ws, w.length ≤ 100000) → acc.length + ws.length ≤ 1000000 → match nsts72 ws with
    | some l => ∃ s3' s4', forD (gN 3) lbody72 (ws.map .str) [.sh L, .sh H, .own (.lst acc), s3, s4] = .nx [.sh L, .sh H, .own (.lst (acc ++ pl l)), s3', s4']
    | none => forD (gN 3) lbody72 (ws.map .str) [.sh L, .sh H, .own (.lst acc), s3, s4] = .rt .none
  | [], acc, s3, s4, _, _ => ⟨s3, s4, by rw [pl_nil, List.append_nil]; rfl⟩
  | w :: r, acc, s3, s4, hw, hz => by
    have hb := lbody_ok (hw w List.mem_cons_self) L H acc s4 (by omega)
    rw [List.length_cons] at hz
    unfold nsts72
    rw [List.map_cons]
    cases hn : nst72 w with
    | none =>
      rw [hn] at hb
      exact forD_rt (ρ1 := [.sh L, .sh H, .own (.lst acc), .sh (.str w), s4]) rfl hb
    | some p =>
      rw [hn] at hb
      have e := forD_nx (g := gN 3) (ds := r.map .str) (d := .str w) (ρ := [.sh L, .sh H, .own (.lst acc), s3, s4]) (ρ1 := [.sh L, .sh H, .own (.lst acc), .sh (.str w), s4]) rfl hb
      have ih := lfloop L H r (acc ++ [pd p]) (.sh (.str w)) (.sh (.list [.int p.1, .int p.2])) (fun x hx => hw x (List.mem_cons_of_mem _ hx)) (by rw [List.length_append, List.length_cons, List.length_nil]; omega)
      rw [e]
      cases hs : nsts72 r with
      | none =>
        rw [hs] at ih
        exact ih
      | some l =>
        rw [hs] at ih
        obtain ⟨s3', s4', ih⟩ := ih
        refine ⟨s3', s4', ih.trans ?_⟩
        rw [pl_cons, List.append_assoc]
        rfl
end lfield72

end
end Lw
namespace Lw
noncomputable section
open PySem PySem.Spec PyProof.Rows L2 DL
/-! _law_field_in, whole -/
section lfield72b
open HT TL
theorem F_lfield_in_ok {ls : List Str} (hz : ls.length ≤ 100000) (hl : ∀ w ∈ ls, w.length ≤ 100000) : F__law_field_in [.list (ls.map .str)] = match field72 ls with
    | some x => .ok (.tuple [.list (pl x.1), .list (x.2.map .str)])
    | none => .ok .none := by
  have z2 : 2 ≤ sizeLine := sizes (by decide)
  have run : ∀ d, m__law_field_in [.sh (.list (ls.map .str)), .un, .un, .un, .un] = .rt d → F__law_field_in [.list (ls.map .str)] = .ok d := fun d h => runD_rt h rfl
  match ls, hz, hl, run with
  | [], hz, hl, run =>
    refine run _ ?_
    unfold m__law_field_in
    exact seqS_rt (ifS_t rfl (retS_go rfl))
  | w :: r, hz, hl, run =>
    have hw := hl w List.mem_cons_self
    have hlen : (((w :: r).map PyData.str).length : Int) = (r.length : Int) + 1 := by simp
    have e0 := F_lnumbers_in_ok (line := w) (word := "field") hw
    have hL0 : ∀ ρ, (cD F__law_numbers_in (consA (m2 ixD (rd 0) (cI 0)) (consA (cS "field") nilA))) (.sh (.list ((w :: r).map .str)) :: ρ) = F__law_numbers_in [.str w, .str "field"] := fun ρ => by
      simp only [cD_eq, consA_eq, m2_eq, nilA_eq, rd, cI_eq, cS_eq, List.getElem?_cons_zero, Out.ok_bind, ixD_list, List.map_cons, atI_at0]
    generalize hL : (w :: r).map PyData.str = L at run hlen hL0
    have q0 : (mB (m2 eqD (cD lenD (consA (rd 0) nilA)) (cI 0))) [.sh (.list L), .un, .un, .un, .un] = .ok false := by
      simp only [mB_eq, cD_eq, consA_eq, m2_eq, nilA_eq, rd, cI_eq, List.getElem?_cons_zero, Out.ok_bind, lenD_list, eqD_int, hlen, asB_bool]
      rw [decide_eq_false (by omega)]
    have q1 := (hL0 [.un, .un, .un, .un]).trans e0
    have pre : ∀ (d1 d : PyData), F__law_numbers_in [.str w, .str "field"] = .ok d1 → _ → F__law_field_in [.list L] = .ok d := fun d1 d h1 h2 => run d ((seqS_nx (ifS_f q0 rfl)).trans ((seqS_nx (setS_go ((hL0 [.un, .un, .un, .un]).trans h1))).trans h2))
    unfold field72 count72
    dsimp only
    cases hn : numsIn72 "field" w with
    | none =>
      rw [hn] at e0
      exact pre _ _ e0 (seqS_rt (ifS_t (by simp [rd]) (retS_go rfl)))
    | some l =>
      rw [hn] at e0
      dsimp only at e0 ⊢
      match l with
      | [] => exact pre _ _ e0 (seqS_rt (ifS_t (by simp [rd, il]) (retS_go rfl)))
      | a :: b :: c => exact pre _ _ e0 (seqS_rt (ifS_t (by
          have : (c.length : Int) + 1 + 1 ≠ 1 := by omega
          simp [rd, il, this]) (retS_go rfl)))
      | [n] =>
        dsimp only
        have qor : (orB (mB (m2 isND (rd 1) cN)) (orB (mB (m2 neD (cD lenD (consA (rd 1) nilA)) (cI 1))) (orB (mB (m2 ltD (m2 ixD (rd 1) (cI 0)) (cI 1))) (orB (mB (m2 gtD (m2 ixD (rd 1) (cI 0)) (cI 12))) (mB (m2 geD (m2 ixD (rd 1) (cI 0)) (cD lenD (consA (rd 0) nilA)))))))) [.sh (.list L), .sh (.list (il [n])), .un, .un, .un] = .ok (decide (¬ (1 ≤ n ∧ n ≤ 12 ∧ n < (r.length : Int) + 1))) := by
          have f1 : (mB (m2 isND (rd 1) cN)) [.sh (.list L), .sh (.list (il [n])), .un, .un, .un] = .ok false := rfl
          have f2 : (mB (m2 neD (cD lenD (consA (rd 1) nilA)) (cI 1))) [.sh (.list L), .sh (.list (il [n])), .un, .un, .un] = .ok false := by simp [rd, il]
          have f3 : (mB (m2 ltD (m2 ixD (rd 1) (cI 0)) (cI 1))) [.sh (.list L), .sh (.list (il [n])), .un, .un, .un] = .ok (decide (n < 1)) := by simp [rd, il]
          have f4 : (mB (m2 gtD (m2 ixD (rd 1) (cI 0)) (cI 12))) [.sh (.list L), .sh (.list (il [n])), .un, .un, .un] = .ok (decide (n > 12)) := by simp [rd, il]
          have f5 : (mB (m2 geD (m2 ixD (rd 1) (cI 0)) (cD lenD (consA (rd 0) nilA)))) [.sh (.list L), .sh (.list (il [n])), .un, .un, .un] = .ok (decide ((r.length : Int) + 1 ≤ n)) := by simp [rd, il, hlen]
          rw [orB_eq, f1, orB_eq, f2, orB_eq, f3, orB_eq, f4, f5]
          by_cases h1 : n < 1
          · rw [decide_eq_true h1, decide_eq_true (show ¬ (1 ≤ n ∧ n ≤ 12 ∧ n < (r.length : Int) + 1) from fun z => by omega)]; rfl
          · rw [decide_eq_false h1]
            by_cases h2 : n > 12
            · rw [decide_eq_true h2, decide_eq_true (show ¬ (1 ≤ n ∧ n ≤ 12 ∧ n < (r.length : Int) + 1) from fun z => by omega)]; rfl
            · rw [decide_eq_false h2]
              show Out.ok (decide ((r.length : Int) + 1 ≤ n)) = _
              congr 1
              exact decide_eq_decide.mpr (by omega)
        by_cases hh : 1 ≤ n ∧ n ≤ 12 ∧ n < (r.length : Int) + 1
        · rw [decide_eq_false (show ¬ ¬ (1 ≤ n ∧ n ≤ 12 ∧ n < (r.length : Int) + 1) from fun z => z hh)] at qor
          rw [if_pos (show 0 < n ∧ n < ((w :: r).length : Int) from ⟨by omega, by rw [List.length_cons]; omega⟩)]
          obtain ⟨k, rfl⟩ : ∃ k : Nat, n = (k : Int) := ⟨n.toNat, by omega⟩
          have hk : k ≤ r.length := by omega
          have hrk : ((k : Int)).toNat = k := by omega
          rw [hrk]
          have pre2 : ∀ d : PyData, _ → F__law_field_in [.list L] = .ok d := fun d h => pre _ d e0 ((seqS_nx (ifS_f qor rfl)).trans ((seqS_nx (show setFS 2 (lstF nilA) [.sh (.list L), .sh (.list (il [(k : Int)])), .un, .un, .un] = .nx [.sh (.list L), .sh (.list (il [(k : Int)])), .own (.lst []), .un, .un] from rfl)).trans h))
          have e3 : seqM (m3S slD (rd 0) (someP (cI 1)) (someP (m2 addD (m2 ixD (rd 1) (cI 0)) (cI 1)))) [.sh (.list L), .sh (.list (il [(k : Int)])), .own (.lst []), .un, .un] = .ok ((r.take k).map .str) := by
            have g : (m2 addD (m2 ixD (rd 1) (cI 0)) (cI 1)) [.sh (.list L), .sh (.list (il [(k : Int)])), .own (.lst []), .un, .un] = .ok (.int ((k : Int) + 1)) := by simp [rd, il]
            simp only [seqM_eq, m3S_eq, g, someP_eq, cI_eq, rd, List.getElem?_cons_zero, Out.ok_bind, asI_int, slD_list]
            rw [← hL, List.map_cons, cut_mid _ _ k (by rw [List.length_map]; exact hk), List.map_take]
            rfl
          have lp := lfloop (.list L) (.list (il [(k : Int)])) (r.take k) [] .un .un (fun x hx => hl x (List.mem_cons_of_mem _ (List.mem_of_mem_take hx))) (by rw [List.length_take]; simp at hz ⊢; omega)
          have hne := nsts_eq (r.take k)
          cases hs : stones72 (r.take k) with
          | none =>
            rw [hs] at hne
            rw [hne] at lp
            exact pre2 _ (seqS_rt (forS_go e3 lp))
          | some st =>
            rw [hs] at hne
            dsimp only at hne ⊢
            have hsl := stones_len hs
            rw [List.length_take, Nat.min_eq_left hk] at hsl
            by_cases hf : ∀ p ∈ st, Near72 p
            · rw [if_pos hf] at hne
              rw [hne] at lp
              obtain ⟨s3, s4, lp⟩ := lp
              rw [if_pos (show Field72 st from ⟨hf, by omega, by omega⟩)]
              refine pre2 _ ((seqS_nx (forS_go e3 lp)).trans ?_)
              show retS _ [.sh (.list L), .sh (.list (il [(k : Int)])), .sh (.list (pl st)), s3, s4] = _
              refine retS_go ?_
              have g : (m2 addD (m2 ixD (rd 1) (cI 0)) (cI 1)) [.sh (.list L), .sh (.list (il [(k : Int)])), .sh (.list (pl st)), s3, s4] = .ok (.int ((k : Int) + 1)) := by simp [rd, il]
              have g2 : (m3S slD (rd 0) (someP (m2 addD (m2 ixD (rd 1) (cI 0)) (cI 1))) noP) [.sh (.list L), .sh (.list (il [(k : Int)])), .sh (.list (pl st)), s3, s4] = .ok (.list ((r.drop k).map .str)) := by
                simp only [m3S_eq, g, someP_eq, noP_eq, cI_eq, rd, List.getElem?_cons_zero, Out.ok_bind, asI_int, slD_list]
                rw [← hL, show ((k : Int) + 1) = ((k + 1 : Nat) : Int) by omega, cut_drop, List.map_cons, List.drop_succ_cons, List.map_drop]
              generalize (m3S slD (rd 0) (someP (m2 addD (m2 ixD (rd 1) (cI 0)) (cI 1))) noP) = mx at g2 ⊢
              simp [g2, rd, z2]
            · rw [if_neg hf] at hne
              rw [hne] at lp
              rw [if_neg (show ¬ Field72 st from fun z => hf z.1)]
              exact pre2 _ (seqS_rt (forS_go e3 lp))
        · rw [decide_eq_true hh] at qor
          have fin : F__law_field_in [.list L] = .ok .none := pre _ _ e0 (seqS_rt (ifS_t qor (retS_go rfl)))
          rw [fin]
          by_cases h3 : 0 < n ∧ n < ((w :: r).length : Int)
          · rw [if_pos h3]
            rw [List.length_cons] at h3
            cases hs : stones72 (r.take n.toNat) with
            | none => rfl
            | some st =>
              have hsl := stones_len hs
              rw [List.length_take, Nat.min_eq_left (by omega)] at hsl
              dsimp only
              rw [if_neg (show ¬ Field72 st from fun z => by have := z.2.2; omega)]
          · rw [if_neg h3]
end lfield72b

end
end Lw
namespace Lw
noncomputable section
open PySem PySem.Spec PyProof.Rows L2 DL
/-! read_field, _law_read_field -/
section rfield72
open HT TL
def rfield72 (s : Str) : Option (List Pt) := match lines72 s with
  | some ls => match field72 ls with
    | some x => if x.2 = [] then some x.1 else none
    | none => none
  | none => none
theorem lines_b {s : Str} {ls : List Str} (hs : s.length ≤ 100000) (h : lines72 s = some ls) : ls.length ≤ 100000 ∧ ∀ w ∈ ls, w.length ≤ 100000 := by
  obtain ⟨b1, b2, b3⟩ := lines_len h
  exact ⟨by omega, fun w hw => Nat.le_trans (b3 w hw) hs⟩
theorem not_rest (r : List Str) : (!(r.map PyData.str).isEmpty) = !decide (r = []) := by cases r <;> simp
theorem F_read_field_ok {s : Str} (hs : s.length ≤ 100000) : F_read_field [.str s] = match rfield72 s with
    | some l => .ok (pl l)
    | none => .ex "InvalidLine" := by
  have e0 := F_lines_of_ok hs
  have q0 : (consA (cD F_lines_of (consA (rd 0) nilA)) nilA) [.sh (.str s), .un, .un] = match lines72 s with
      | some ls => .ok [.list (ls.map .str)]
      | none => .ex "InvalidLine" := by
    have e1 : (cD F_lines_of (consA (rd 0) nilA)) [.sh (.str s), .un, .un] = F_lines_of [.str s] := rfl
    rw [consA_eq, e1, e0]
    cases lines72 s <;> rfl
  unfold F_read_field runF
  rw [if_pos (show ([PyData.str s] : List PyData).length = 1 from rfl), show start0 3 [.str s] = [.sh (.str s), .un, .un] from rfl]
  unfold m_read_field
  have q1 : unpY 1 2 F_field_in (consA (cD F_lines_of (consA (rd 0) nilA)) nilA) [.sh (.str s), .un, .un] = match lines72 s with
      | some ls => (match field72 ls with
        | some x => .nx [.sh (.str s), .own (.lst (pl x.1)), .sh (.list (x.2.map .str))]
        | none => .ex "InvalidLine" [.sh (.str s), .un, .un])
      | none => .ex "InvalidLine" [.sh (.str s), .un, .un] := by
    unfold unpY
    rw [q0]
    cases hl : lines72 s with
    | none => rfl
    | some ls =>
      obtain ⟨b1, b2⟩ := lines_b hs hl
      have e2 := F_field_in_ok b1 b2
      dsimp only
      rw [Out.ok_bind, e2]
      cases field72 ls <;> rfl
  rw [seqS_eq, q1]
  unfold rfield72
  cases hl : lines72 s with
  | none => rfl
  | some ls =>
    dsimp only
    cases field72 ls with
    | none => rfl
    | some x =>
      dsimp only
      have q2 : exprS (cD F_demand (consA (notT (rd 2)) nilA)) [.sh (.str s), .own (.lst (pl x.1)), .sh (.list (x.2.map .str))] = if x.2 = [] then .nx [.sh (.str s), .own (.lst (pl x.1)), .sh (.list (x.2.map .str))] else .ex "InvalidLine" [.sh (.str s), .own (.lst (pl x.1)), .sh (.list (x.2.map .str))] := by
        have e3 : (notT (rd 2)) [.sh (.str s), .own (.lst (pl x.1)), .sh (.list (x.2.map .str))] = .ok (.bool (decide (x.2 = []))) := by
          cases x.2 <;> simp [rd, truD]
        unfold exprS
        rw [cD_eq, consA_eq, e3]
        simp only [Out.ok_bind, nilA_eq]
        by_cases h : x.2 = []
        · rw [decide_eq_true h, F_demand_t, if_pos h]; rfl
        · rw [decide_eq_false h, F_demand_f, if_neg h]; rfl
      rw [seqS_eq, q2]
      by_cases h : x.2 = []
      · rw [if_pos h, if_pos h]; rfl
      · rw [if_neg h, if_neg h]
theorem F_lread_field_ok {s : Str} (hs : s.length ≤ 100000) : F__law_read_field [.str s] = match rfield72 s with
    | some l => .ok (.list (pl l))
    | none => .ok .none := by
  have e0 := F_llines_ok hs
  have run : ∀ d, m__law_read_field [.sh (.str s), .un, .un] = .rt d → F__law_read_field [.str s] = .ok d := fun d h => runD_rt h rfl
  have e1 : (cD F__law_lines_in (consA (rd 0) nilA)) [.sh (.str s), .un, .un] = F__law_lines_in [.str s] := rfl
  unfold rfield72
  cases hl : lines72 s with
  | none =>
    rw [hl] at e0
    refine run _ ?_
    unfold m__law_read_field
    exact (seqS_nx (setS_go (e1.trans e0))).trans (seqS_rt (ifS_t (by simp [rd]) (retS_go rfl)))
  | some ls =>
    rw [hl] at e0
    dsimp only at e0 ⊢
    obtain ⟨b1, b2⟩ := lines_b hs hl
    have e2 := F_lfield_in_ok b1 b2
    have pre : ∀ d1 d : PyData, F__law_field_in [.list (ls.map .str)] = .ok d1 → _ → F__law_read_field [.str s] = .ok d := fun d1 d h1 h2 => run d ((seqS_nx (setS_go (e1.trans e0))).trans ((seqS_nx (ifS_f (by simp [rd]) rfl)).trans ((seqS_nx (setS_go (show (cD F__law_field_in (consA (rd 1) nilA)) [.sh (.str s), .sh (.list (ls.map .str)), .un] = .ok d1 from h1))).trans h2)))
    cases hf : field72 ls with
    | none =>
      rw [hf] at e2
      exact pre _ _ e2 (seqS_rt (ifS_t (by simp [rd]) (retS_go rfl)))
    | some x =>
      rw [hf] at e2
      dsimp only at e2 ⊢
      have q : orB (mB (m2 isND (rd 2) cN)) (mB (m2 gtD (cD lenD (consA (m2 ixD (rd 2) (cI 1)) nilA)) (cI 0))) [.sh (.str s), .sh (.list (ls.map .str)), .sh (.tuple [.list (pl x.1), .list (x.2.map .str)])] = .ok (!decide (x.2 = [])) := by
        have f1 : (mB (m2 isND (rd 2) cN)) [.sh (.str s), .sh (.list (ls.map .str)), .sh (.tuple [.list (pl x.1), .list (x.2.map .str)])] = .ok false := rfl
        rw [orB_eq, f1]
        show (mB (m2 gtD (cD lenD (consA (m2 ixD (rd 2) (cI 1)) nilA)) (cI 0))) [.sh (.str s), .sh (.list (ls.map .str)), .sh (.tuple [.list (pl x.1), .list (x.2.map .str)])] = _
        have f2 : (cD lenD (consA (m2 ixD (rd 2) (cI 1)) nilA)) [.sh (.str s), .sh (.list (ls.map .str)), .sh (.tuple [.list (pl x.1), .list (x.2.map .str)])] = .ok (.int ((x.2.map PyData.str).length : Int)) := rfl
        rw [mB_eq, m2_eq, f2]
        simp only [Out.ok_bind, cI_eq, gtD_int, asB_bool, List.length_map]
        cases x.2 with
        | nil => rfl
        | cons a b => simp
      by_cases h : x.2 = []
      · rw [decide_eq_true h] at q
        rw [if_pos h]
        exact pre _ _ e2 ((seqS_nx (ifS_f q rfl)).trans (retS_go rfl))
      · rw [decide_eq_false h] at q
        rw [if_neg h]
        exact pre _ _ e2 (seqS_rt (ifS_t q (retS_go rfl)))
end rfield72

end
end Lw
namespace Lw
noncomputable section
open PySem PySem.Spec PyProof.Rows L2 DL
/-! read_land -/
section rland72
open HT TL
def fields72 : Nat → List Str → Option (List (List Pt) × List Str)
  | 0, ls => some ([], ls)
  | n + 1, ls => match field72 ls with
    | some x => match fields72 n x.2 with
      | some y => some (x.1 :: y.1, y.2)
      | none => none
    | none => none
def land72 (s : Str) (ls : List Str) : Option (List (List Pt)) := match ls with
  | [] => none
  | w :: r => match count72 "land" w with
    | some n => if 1 ≤ n ∧ n ≤ 8 then (match fields72 n.toNat r with
      | some y => if y.2 = [] then some y.1 else none
      | none => none) else none
    | none => none
def rland72 (s : Str) : Option (List (List Pt)) := match lines72 s with
  | some ls => land72 s ls
  | none => none
def ll72 (fs : List (List Pt)) : List PyData := fs.map fun l => .list (pl l)
theorem field_rest {ls : List Str} {x : List Pt × List Str} (h : field72 ls = some x) : x.2.length ≤ ls.length ∧ ∀ w ∈ x.2, w ∈ ls := by
  unfold field72 at h
  split at h
  · cases h
  · split at h
    · split at h
      · split at h
        · split at h
          · cases h
            refine ⟨by simp; omega, fun w hw => List.mem_cons_of_mem _ (List.mem_of_mem_drop hw)⟩
          · cases h
        · cases h
      · cases h
    · cases h
theorem forD_ex {g : MG} {b : MS} {d : PyData} {ds : List PyData} {ρ ρ1 ρ2 : Ro} {c : Str} (h1 : g d ρ = some ρ1) (h2 : b ρ1 = .ex c ρ2) : forD g b (d :: ds) ρ = .ex c ρ2 := by
  rw [forD_cons, h1]
  dsimp only
  rw [h2]
theorem land_loop (a1 a2 a3 : Sl) : ∀ (ds : List PyData) (ls : List Str) (acc : List PyData) (s5 s6 : Sl), ls.length ≤ 100000 → (∀ w ∈ ls, w.length ≤ 100000) → acc.length + ds.length ≤ 1000000 → match fields72 ds.length ls with
    | some y => ∃ s5' s6', forD (gN 5) (seqS (unpY 6 3 F_field_in (consA (rd 3) nilA)) (frzS [6] (appS 4 (rd 6)))) ds [a1, a2, a3, .sh (.list (ls.map .str)), .own (.lst acc), s5, s6] = .nx [a1, a2, a3, .sh (.list (y.2.map .str)), .own (.lst (acc ++ ll72 y.1)), s5', s6']
    | none => ∃ ρ, forD (gN 5) (seqS (unpY 6 3 F_field_in (consA (rd 3) nilA)) (frzS [6] (appS 4 (rd 6)))) ds [a1, a2, a3, .sh (.list (ls.map .str)), .own (.lst acc), s5, s6] = .ex "InvalidLine" ρ
  | [], ls, acc, s5, s6, _, _, _ => ⟨s5, s6, by show Fl.nx _ = _; rw [show ll72 ([] : List (List Pt)) = [] from rfl, List.append_nil]⟩
  | d :: ds, ls, acc, s5, s6, h1, h2, h3 => by
    have e := F_field_in_ok h1 h2
    rw [List.length_cons] at h3 ⊢
    unfold fields72
    have q : unpY 6 3 F_field_in (consA (rd 3) nilA) [a1, a2, a3, .sh (.list (ls.map .str)), .own (.lst acc), .sh d, s6] = match field72 ls with
        | some x => .nx [a1, a2, a3, .sh (.list (x.2.map .str)), .own (.lst acc), .sh d, .own (.lst (pl x.1))]
        | none => .ex "InvalidLine" [a1, a2, a3, .sh (.list (ls.map .str)), .own (.lst acc), .sh d, s6] := by
      unfold unpY
      have e1 : (consA (rd 3) nilA) [a1, a2, a3, .sh (.list (ls.map .str)), .own (.lst acc), .sh d, s6] = .ok [.list (ls.map .str)] := rfl
      rw [e1, Out.ok_bind, e]
      cases field72 ls <;> rfl
    cases hf : field72 ls with
    | none =>
      rw [hf] at q
      refine ⟨[a1, a2, a3, .sh (.list (ls.map .str)), .own (.lst acc), .sh d, s6], forD_ex (ρ1 := [a1, a2, a3, .sh (.list (ls.map .str)), .own (.lst acc), .sh d, s6]) rfl ?_⟩
      rw [seqS_eq, q]
    | some x =>
      rw [hf] at q
      obtain ⟨r1, r2⟩ := field_rest hf
      dsimp only at q ⊢
      have hb : (seqS (unpY 6 3 F_field_in (consA (rd 3) nilA)) (frzS [6] (appS 4 (rd 6)))) [a1, a2, a3, .sh (.list (ls.map .str)), .own (.lst acc), .sh d, s6] = .nx [a1, a2, a3, .sh (.list (x.2.map .str)), .own (.lst (acc ++ [.list (pl x.1)])), .sh d, .sh (.list (pl x.1))] := by
        rw [seqS_nx q]
        show appS 4 (rd 6) [a1, a2, a3, .sh (.list (x.2.map .str)), .own (.lst acc), .sh d, .sh (.list (pl x.1))] = _
        rw [appS_go (d := .list (pl x.1)) rfl rfl (by omega)]
        rfl
      have st := forD_nx (g := gN 5) (d := d) (ds := ds) (ρ := [a1, a2, a3, .sh (.list (ls.map .str)), .own (.lst acc), s5, s6]) (ρ1 := [a1, a2, a3, .sh (.list (ls.map .str)), .own (.lst acc), .sh d, s6]) rfl hb
      have ih := land_loop a1 a2 a3 ds x.2 (acc ++ [.list (pl x.1)]) (.sh d) (.sh (.list (pl x.1))) (by omega) (fun w hw => h2 w (r2 w hw)) (by rw [List.length_append, List.length_cons, List.length_nil]; omega)
      rw [st]
      cases hfs : fields72 ds.length x.2 with
      | none =>
        rw [hfs] at ih
        exact ih
      | some y =>
        rw [hfs] at ih
        obtain ⟨s5', s6', ih⟩ := ih
        refine ⟨s5', s6', ih.trans ?_⟩
        rw [List.append_assoc]
        rfl
theorem F_read_land_ok {s : Str} (hs : s.length ≤ 100000) : F_read_land [.str s] = match rland72 s with
    | some fs => .ok (ll72 fs)
    | none => .ex "InvalidLine" := by
  have e0 := F_lines_of_ok hs
  unfold F_read_land runF
  rw [if_pos (show ([PyData.str s] : List PyData).length = 1 from rfl), show start0 7 [.str s] = [.sh (.str s), .un, .un, .un, .un, .un, .un] from rfl]
  unfold m_read_land rland72
  have e1 : (cD F_lines_of (consA (rd 0) nilA)) [.sh (.str s), .un, .un, .un, .un, .un, .un] = F_lines_of [.str s] := rfl
  rw [seqS_eq, setS_eq, e1, e0]
  cases hl : lines72 s with
  | none => rfl
  | some ls =>
    obtain ⟨b1, b2⟩ := lines_b hs hl
    have b0 := (lines_len hl).1
    dsimp only
    rw [thenF_ok]
    dsimp only
    match ls, b0, b1, b2 with
    | [], b0, _, _ => simp at b0
    | w :: r, _, b1, b2 =>
      have hset : ([Sl.sh (.str s), .un, .un, .un, .un, .un, .un].set 1 (.sh (.list ((w :: r).map .str))) : Ro) = [.sh (.str s), .sh (.list ((w :: r).map .str)), .un, .un, .un, .un, .un] := rfl
      rw [hset]
      have hw := b2 w List.mem_cons_self
      have f1 := F_one_ok (line := w) (word := "land") hw
      have q1 : setS 2 (m2 ixD (cD F_numbers_in (consA (m2 ixD (rd 1) (cI 0)) (consA (cS "land") (consA (cI 1) nilA)))) (cI 0)) [.sh (.str s), .sh (.list ((w :: r).map .str)), .un, .un, .un, .un, .un] = match count72 "land" w with
          | some n => .nx [.sh (.str s), .sh (.list ((w :: r).map .str)), .sh (.int n), .un, .un, .un, .un]
          | none => .ex "InvalidLine" [.sh (.str s), .sh (.list ((w :: r).map .str)), .un, .un, .un, .un, .un] := by
        have e6 : (cD F_numbers_in (consA (m2 ixD (rd 1) (cI 0)) (consA (cS "land") (consA (cI 1) nilA)))) [.sh (.str s), .sh (.list ((w :: r).map .str)), .un, .un, .un, .un, .un] = F_numbers_in [.str w, .str "land", .int 1] := by
          simp only [cD_eq, consA_eq, m2_eq, nilA_eq, rd, cI_eq, cS_eq, List.getElem?_cons_succ, List.getElem?_cons_zero, Out.ok_bind, ixD_list, List.map_cons, atI_at0]
        have e7 : (m2 ixD (cD F_numbers_in (consA (m2 ixD (rd 1) (cI 0)) (consA (cS "land") (consA (cI 1) nilA)))) (cI 0)) [.sh (.str s), .sh (.list ((w :: r).map .str)), .un, .un, .un, .un, .un] = match count72 "land" w with
            | some n => .ok (.int n)
            | none => .ex "InvalidLine" := by
          refine Eq.trans ?_ f1
          rw [m2_eq, e6]
          cases F_numbers_in [.str w, .str "land", .int 1] <;> rfl
        rw [setS_eq, e7]
        cases count72 "land" w <;> rfl
      rw [seqS_eq, q1]
      unfold land72
      dsimp only
      cases hc : count72 "land" w with
      | none => rfl
      | some n =>
        dsimp only
        have q2 : exprS (cD F_demand (consA (chD leD leD (cI 1) (rd 2) (cG dv_MOST_FIELDS)) nilA)) [.sh (.str s), .sh (.list ((w :: r).map .str)), .sh (.int n), .un, .un, .un, .un] = if 1 ≤ n ∧ n ≤ 8 then .nx [.sh (.str s), .sh (.list ((w :: r).map .str)), .sh (.int n), .un, .un, .un, .un] else .ex "InvalidLine" [.sh (.str s), .sh (.list ((w :: r).map .str)), .sh (.int n), .un, .un, .un, .un] := by
          have e6 : (chD leD leD (cI 1) (rd 2) (cG dv_MOST_FIELDS)) [.sh (.str s), .sh (.list ((w :: r).map .str)), .sh (.int n), .un, .un, .un, .un] = .ok (.bool (decide (1 ≤ n ∧ n ≤ 8))) := by
            simp only [chD_eq, cI_eq, rd, List.getElem?_cons_succ, List.getElem?_cons_zero, Out.ok_bind, leD_int, asB_bool, cG]
            by_cases h1 : 1 ≤ n
            · by_cases h2 : n ≤ 8
              · simp [h1, h2]
              · simp [h1, h2]
            · simp [h1]
          unfold exprS
          rw [cD_eq, consA_eq, e6]
          simp only [Out.ok_bind, nilA_eq]
          by_cases h1 : 1 ≤ n ∧ n ≤ 8
          · rw [decide_eq_true h1, F_demand_t, if_pos h1]; rfl
          · rw [decide_eq_false h1, F_demand_f, if_neg h1]; rfl
        rw [seqS_eq, q2]
        by_cases hn : 1 ≤ n ∧ n ≤ 8
        · rw [if_pos hn, if_pos hn]
          dsimp only
          obtain ⟨k, rfl⟩ : ∃ k : Nat, n = (k : Int) := ⟨n.toNat, by omega⟩
          rw [show ((k : Int)).toNat = k by omega]
          have q3 : (m3S slD (rd 1) (someP (cI 1)) noP) [.sh (.str s), .sh (.list ((w :: r).map .str)), .sh (.int (k : Int)), .un, .un, .un, .un] = .ok (.list (r.map .str)) := by
            simp only [m3S_eq, rd, someP_eq, cI_eq, noP_eq, List.getElem?_cons_succ, List.getElem?_cons_zero, Out.ok_bind, asI_int, slD_list]
            rw [show (1 : Int) = ((1 : Nat) : Int) from rfl, cut_drop]
            rfl
          rw [seqS_nx (setS_go q3)]
          have hset : ([Sl.sh (.str s), .sh (.list ((w :: r).map .str)), .sh (.int (k : Int)), .un, .un, .un, .un].set 3 (.sh (.list (r.map .str))) : Ro) = [.sh (.str s), .sh (.list ((w :: r).map .str)), .sh (.int (k : Int)), .sh (.list (r.map .str)), .un, .un, .un] := rfl
          rw [hset]
          rw [seqS_nx (show setFS 4 (lstF nilA) [.sh (.str s), .sh (.list ((w :: r).map .str)), .sh (.int (k : Int)), .sh (.list (r.map .str)), .un, .un, .un] = .nx [.sh (.str s), .sh (.list ((w :: r).map .str)), .sh (.int (k : Int)), .sh (.list (r.map .str)), .own (.lst []), .un, .un] from rfl)]
          obtain ⟨ds, hds, hlen⟩ : ∃ ds : List PyData, (cF rng1 (consA (rd 2) nilA)) [.sh (.str s), .sh (.list ((w :: r).map .str)), .sh (.int (k : Int)), .sh (.list (r.map .str)), .own (.lst []), .un, .un] = .ok ds ∧ ds.length = k := by
            refine ⟨rangeL 0 k, rng1_nat (by omega), ?_⟩
            simp [rangeL]
          have lp := land_loop (.sh (.str s)) (.sh (.list ((w :: r).map .str))) (.sh (.int (k : Int))) ds r [] .un .un (by simp at b1; omega) (fun x hx => b2 x (List.mem_cons_of_mem _ hx)) (by simp; omega)
          rw [hlen] at lp
          cases hfs : fields72 k r with
          | none =>
            rw [hfs] at lp
            obtain ⟨ρ, lp⟩ := lp
            rw [seqS_eq, forS_go hds lp]
          | some y =>
            rw [hfs] at lp
            obtain ⟨s5, s6, lp⟩ := lp
            rw [seqS_nx (forS_go hds lp), List.nil_append]
            dsimp only
            have q4 : exprS (cD F_demand (consA (notT (rd 3)) nilA)) [.sh (.str s), .sh (.list ((w :: r).map .str)), .sh (.int (k : Int)), .sh (.list (y.2.map .str)), .own (.lst (ll72 y.1)), s5, s6] = if y.2 = [] then .nx [.sh (.str s), .sh (.list ((w :: r).map .str)), .sh (.int (k : Int)), .sh (.list (y.2.map .str)), .own (.lst (ll72 y.1)), s5, s6] else .ex "InvalidLine" [.sh (.str s), .sh (.list ((w :: r).map .str)), .sh (.int (k : Int)), .sh (.list (y.2.map .str)), .own (.lst (ll72 y.1)), s5, s6] := by
              have e3 : (notT (rd 3)) [.sh (.str s), .sh (.list ((w :: r).map .str)), .sh (.int (k : Int)), .sh (.list (y.2.map .str)), .own (.lst (ll72 y.1)), s5, s6] = .ok (.bool (decide (y.2 = []))) := by
                cases y.2 <;> simp [rd, truD]
              unfold exprS
              rw [cD_eq, consA_eq, e3]
              simp only [Out.ok_bind, nilA_eq]
              by_cases h : y.2 = []
              · rw [decide_eq_true h, F_demand_t, if_pos h]; rfl
              · rw [decide_eq_false h, F_demand_f, if_neg h]; rfl
            rw [seqS_eq, q4]
            by_cases h : y.2 = []
            · rw [if_pos h, if_pos h]; rfl
            · rw [if_neg h, if_neg h]
        · rw [if_neg hn, if_neg hn]
end rland72

end
end Lw
namespace Lw
noncomputable section
open PySem PySem.Spec PyProof.Rows L2 DL
/-! _law_read_land -/
section lrland72
open HT TL
abbrev lland72 : MS := (seqS (setS 6 (cD F__law_field_in (consA (rd 4) nilA)))
    (seqS (ifS (mB (m2 isND (rd 6) cN))
    (retS cN)
    .nx)
    (seqS (appS 3 (m2 ixD (rd 6) (cI 0)))
    (setS 4 (m2 ixD (rd 6) (cI 1))))))
theorem lland_loop (a1 a2 a3 : Sl) : ∀ (ds : List PyData) (ls : List Str) (acc : List PyData) (s5 s6 : Sl), ls.length ≤ 100000 → (∀ w ∈ ls, w.length ≤ 100000) → acc.length + ds.length ≤ 1000000 → match fields72 ds.length ls with
    | some y => ∃ s5' s6', forD (gN 5) lland72 ds [a1, a2, a3, .own (.lst acc), .sh (.list (ls.map .str)), s5, s6] = .nx [a1, a2, a3, .own (.lst (acc ++ ll72 y.1)), .sh (.list (y.2.map .str)), s5', s6']
    | none => forD (gN 5) lland72 ds [a1, a2, a3, .own (.lst acc), .sh (.list (ls.map .str)), s5, s6] = .rt .none
  | [], ls, acc, s5, s6, _, _, _ => ⟨s5, s6, by show Fl.nx _ = _; rw [show ll72 ([] : List (List Pt)) = [] from rfl, List.append_nil]⟩
  | d :: ds, ls, acc, s5, s6, h1, h2, h3 => by
    have e := F_lfield_in_ok h1 h2
    rw [List.length_cons] at h3 ⊢
    unfold fields72
    have e1 : (cD F__law_field_in (consA (rd 4) nilA)) [a1, a2, a3, .own (.lst acc), .sh (.list (ls.map .str)), .sh d, s6] = F__law_field_in [.list (ls.map .str)] := rfl
    cases hf : field72 ls with
    | none =>
      rw [hf] at e
      refine forD_rt (ρ1 := [a1, a2, a3, .own (.lst acc), .sh (.list (ls.map .str)), .sh d, s6]) rfl ?_
      exact (seqS_nx (setS_go (e1.trans e))).trans (seqS_rt (ifS_t rfl (retS_go rfl)))
    | some x =>
      rw [hf] at e
      obtain ⟨r1, r2⟩ := field_rest hf
      dsimp only at e ⊢
      have hb : lland72 [a1, a2, a3, .own (.lst acc), .sh (.list (ls.map .str)), .sh d, s6] = .nx [a1, a2, a3, .own (.lst (acc ++ [.list (pl x.1)])), .sh (.list (x.2.map .str)), .sh d, .sh (.tuple [.list (pl x.1), .list (x.2.map .str)])] := by
        refine (seqS_nx (setS_go (e1.trans e))).trans ((seqS_nx (ifS_f rfl rfl)).trans ((seqS_nx (appS_go (ds := acc) (d := .list (pl x.1)) rfl rfl (by omega))).trans ?_))
        exact setS_go (d := .list (x.2.map .str)) rfl
      have st := forD_nx (g := gN 5) (d := d) (ds := ds) (ρ := [a1, a2, a3, .own (.lst acc), .sh (.list (ls.map .str)), s5, s6]) (ρ1 := [a1, a2, a3, .own (.lst acc), .sh (.list (ls.map .str)), .sh d, s6]) rfl hb
      have ih := lland_loop a1 a2 a3 ds x.2 (acc ++ [.list (pl x.1)]) (.sh d) (.sh (.tuple [.list (pl x.1), .list (x.2.map .str)])) (by omega) (fun w hw => h2 w (r2 w hw)) (by rw [List.length_append, List.length_cons, List.length_nil]; omega)
      rw [st]
      cases hfs : fields72 ds.length x.2 with
      | none =>
        rw [hfs] at ih
        exact ih
      | some y =>
        rw [hfs] at ih
        obtain ⟨s5', s6', ih⟩ := ih
        refine ⟨s5', s6', ih.trans ?_⟩
        rw [List.append_assoc]
        rfl
theorem F_lread_land_ok {s : Str} (hs : s.length ≤ 100000) : F__law_read_land [.str s] = match rland72 s with
    | some fs => .ok (.list (ll72 fs))
    | none => .ok .none := by
  have e0 := F_llines_ok hs
  have run : ∀ d, m__law_read_land [.sh (.str s), .un, .un, .un, .un, .un, .un] = .rt d → F__law_read_land [.str s] = .ok d := fun d h => runD_rt h rfl
  have runF : ∀ es, m__law_read_land [.sh (.str s), .un, .un, .un, .un, .un, .un] = .rtF es → F__law_read_land [.str s] = .ok (.list es) := fun es h => by
    unfold F__law_read_land runD
    rw [if_pos (show ([PyData.str s] : List PyData).length = 1 from rfl), show start0 7 [.str s] = [.sh (.str s), .un, .un, .un, .un, .un, .un] from rfl, h]
  have e1 : (cD F__law_lines_in (consA (rd 0) nilA)) [.sh (.str s), .un, .un, .un, .un, .un, .un] = F__law_lines_in [.str s] := rfl
  unfold rland72
  cases hl : lines72 s with
  | none =>
    rw [hl] at e0
    exact run _ ((seqS_nx (setS_go (e1.trans e0))).trans (seqS_rt (ifS_t rfl (retS_go rfl))))
  | some ls =>
    rw [hl] at e0
    obtain ⟨b1, b2⟩ := lines_b hs hl
    have b0 := (lines_len hl).1
    dsimp only at e0 ⊢
    match ls, b0, b1, b2, e0 with
    | [], b0, _, _, _ => simp at b0
    | w :: r, _, b1, b2, e0 =>
      have hw := b2 w List.mem_cons_self
      have f0 := F_lnumbers_in_ok (line := w) (word := "land") hw
      have e2 : (cD F__law_numbers_in (consA (m2 ixD (rd 1) (cI 0)) (consA (cS "land") nilA))) [.sh (.str s), .sh (.list ((w :: r).map .str)), .un, .un, .un, .un, .un] = F__law_numbers_in [.str w, .str "land"] := by
        simp only [cD_eq, consA_eq, m2_eq, nilA_eq, rd, cI_eq, cS_eq, List.getElem?_cons_succ, List.getElem?_cons_zero, Out.ok_bind, ixD_list, List.map_cons, atI_at0]
      have pre : ∀ (d1 : PyData) (f : Fl), F__law_numbers_in [.str w, .str "land"] = .ok d1 → _ → m__law_read_land [.sh (.str s), .un, .un, .un, .un, .un, .un] = f := fun d1 f h1 h2 => (seqS_nx (setS_go (e1.trans e0))).trans ((seqS_nx (ifS_f rfl rfl)).trans ((seqS_nx (setS_go (e2.trans h1))).trans h2))
      unfold land72 count72
      dsimp only
      cases hn : numsIn72 "land" w with
      | none =>
        rw [hn] at f0
        exact run _ (pre _ _ f0 (seqS_rt (ifS_t (by simp [rd]) (retS_go rfl))))
      | some l =>
        rw [hn] at f0
        dsimp only at f0 ⊢
        match l with
        | [] => exact run _ (pre _ _ f0 (seqS_rt (ifS_t (by simp [rd, il]) (retS_go rfl))))
        | a :: b :: c => exact run _ (pre _ _ f0 (seqS_rt (ifS_t (by
            have : (c.length : Int) + 1 + 1 ≠ 1 := by omega
            simp [rd, il, this]) (retS_go rfl))))
        | [n] =>
          dsimp only
          have qor : (orB (mB (m2 isND (rd 2) cN)) (orB (mB (m2 neD (cD lenD (consA (rd 2) nilA)) (cI 1))) (orB (mB (m2 ltD (m2 ixD (rd 2) (cI 0)) (cI 1))) (mB (m2 gtD (m2 ixD (rd 2) (cI 0)) (cI 8)))))) [.sh (.str s), .sh (.list ((w :: r).map .str)), .sh (.list (il [n])), .un, .un, .un, .un] = .ok (decide (¬ (1 ≤ n ∧ n ≤ 8))) := by
            have g1 : (mB (m2 isND (rd 2) cN)) [.sh (.str s), .sh (.list ((w :: r).map .str)), .sh (.list (il [n])), .un, .un, .un, .un] = .ok false := rfl
            have g2 : (mB (m2 neD (cD lenD (consA (rd 2) nilA)) (cI 1))) [.sh (.str s), .sh (.list ((w :: r).map .str)), .sh (.list (il [n])), .un, .un, .un, .un] = .ok false := by simp [rd, il]
            have g3 : (mB (m2 ltD (m2 ixD (rd 2) (cI 0)) (cI 1))) [.sh (.str s), .sh (.list ((w :: r).map .str)), .sh (.list (il [n])), .un, .un, .un, .un] = .ok (decide (n < 1)) := by simp [rd, il]
            have g4 : (mB (m2 gtD (m2 ixD (rd 2) (cI 0)) (cI 8))) [.sh (.str s), .sh (.list ((w :: r).map .str)), .sh (.list (il [n])), .un, .un, .un, .un] = .ok (decide (n > 8)) := by simp [rd, il]
            rw [orB_eq, g1, orB_eq, g2, orB_eq, g3, g4]
            by_cases h1 : n < 1
            · rw [decide_eq_true h1, decide_eq_true (show ¬ (1 ≤ n ∧ n ≤ 8) from fun z => by omega)]; rfl
            · rw [decide_eq_false h1]
              show Out.ok (decide (n > 8)) = _
              congr 1
              exact decide_eq_decide.mpr (by omega)
          by_cases hh : 1 ≤ n ∧ n ≤ 8
          · rw [decide_eq_false (show ¬ ¬ (1 ≤ n ∧ n ≤ 8) from fun z => z hh)] at qor
            rw [if_pos hh]
            obtain ⟨k, rfl⟩ : ∃ k : Nat, n = (k : Int) := ⟨n.toNat, by omega⟩
            rw [show ((k : Int)).toNat = k by omega]
            have q3 : (m3S slD (rd 1) (someP (cI 1)) noP) [.sh (.str s), .sh (.list ((w :: r).map .str)), .sh (.list (il [(k : Int)])), .own (.lst []), .un, .un, .un] = .ok (.list (r.map .str)) := by
              simp only [m3S_eq, rd, someP_eq, cI_eq, noP_eq, List.getElem?_cons_succ, List.getElem?_cons_zero, Out.ok_bind, asI_int, slD_list]
              rw [show (1 : Int) = ((1 : Nat) : Int) from rfl, cut_drop]
              rfl
            have pre2 : ∀ f : Fl, _ → m__law_read_land [.sh (.str s), .un, .un, .un, .un, .un, .un] = f := fun f h => pre _ f f0 ((seqS_nx (ifS_f qor rfl)).trans ((seqS_nx (show setFS 3 (lstF nilA) [.sh (.str s), .sh (.list ((w :: r).map .str)), .sh (.list (il [(k : Int)])), .un, .un, .un, .un] = .nx [.sh (.str s), .sh (.list ((w :: r).map .str)), .sh (.list (il [(k : Int)])), .own (.lst []), .un, .un, .un] from rfl)).trans ((seqS_nx (setS_go q3)).trans h)))
            have hds : (cF rng1 (consA (m2 ixD (rd 2) (cI 0)) nilA)) [.sh (.str s), .sh (.list ((w :: r).map .str)), .sh (.list (il [(k : Int)])), .own (.lst []), .sh (.list (r.map .str)), .un, .un] = .ok (rangeL 0 k) := rng1_nat (n := k) (by omega)
            have hlen : (rangeL 0 k).length = k := by simp [rangeL]
            have lp := lland_loop (.sh (.str s)) (.sh (.list ((w :: r).map .str))) (.sh (.list (il [(k : Int)]))) (rangeL 0 k) r [] .un .un (by simp at b1; omega) (fun x hx => b2 x (List.mem_cons_of_mem _ hx)) (by rw [hlen]; simp; omega)
            rw [hlen] at lp
            cases hfs : fields72 k r with
            | none =>
              rw [hfs] at lp
              exact run _ (pre2 _ (seqS_rt (forS_go hds lp)))
            | some y =>
              rw [hfs] at lp
              obtain ⟨s5, s6, lp⟩ := lp
              rw [List.nil_append] at lp
              dsimp only
              have q4 : (mB (m2 gtD (cD lenD (consA (rd 4) nilA)) (cI 0))) [.sh (.str s), .sh (.list ((w :: r).map .str)), .sh (.list (il [(k : Int)])), .own (.lst (ll72 y.1)), .sh (.list (y.2.map .str)), s5, s6] = .ok (!decide (y.2 = [])) := by
                cases y.2 <;> simp [rd]
              by_cases h : y.2 = []
              · rw [decide_eq_true h] at q4
                rw [if_pos h]
                exact runF _ (pre2 _ ((seqS_nx (forS_go hds lp)).trans ((seqS_nx (ifS_f q4 rfl)).trans rfl)))
              · rw [decide_eq_false h] at q4
                rw [if_neg h]
                exact run _ (pre2 _ ((seqS_nx (forS_go hds lp)).trans (seqS_rt (ifS_t q4 (retS_go rfl)))))
          · rw [decide_eq_true hh] at qor
            rw [if_neg hh]
            exact run _ (pre _ _ f0 (seqS_rt (ifS_t qor (retS_go rfl))))
end lrland72

end
end Lw
namespace Lw
noncomputable section
open PySem PySem.Spec PyProof.Rows L2 DL
/-! what is told of a text, and what is due -/
section told72
open HT TL
def opt72 : Option PyData → PyData
  | some d => .list [d]
  | none => .str "refused"
def told72 (f : Nat) (s : Str) : PyData := match f with
  | 0 => opt72 ((frac72 s).map pr72)
  | 1 => opt72 ((rfield72 s).map fun l => .list (pl l))
  | _ => opt72 ((rland72 s).map fun fs => .list (ll72 fs))
theorem ret1_ex {mx : MD} {ρ : Ro} {c : Str} (h : mx ρ = .ex c) : retS (asL (lstF (consA mx nilA))) ρ = .ex c ρ := by
  simp [h]
  rfl
theorem ret1_ok {mx : MD} {ρ : Ro} {d : PyData} (h : mx ρ = .ok d) : retS (asL (lstF (consA mx nilA))) ρ = .rt (.list [d]) := by
  have z1 : 1 ≤ sizeLine := sizes (by decide)
  simp [h, z1]
theorem F_ltold_ok {f : Nat} (hf : f < 3) {s : Str} (hs : s.length ≤ 100000) : F__law_told [.int (f : Int), .str s] = .ok (told72 f s) := by
  have z1 : 1 ≤ sizeLine := sizes (by decide)
  have run : ∀ d, m__law_told [.sh (.int (f : Int)), .sh (.str s), .un] = .rt d → F__law_told [.int (f : Int), .str s] = .ok d := fun d h => runD_rt h rfl
  refine run _ ?_
  unfold m__law_told tryS
  match f, hf with
  | 0, _ =>
    have e := F_read_fraction_ok hs
    have e1 : (cD F_read_fraction (consA (rd 1) nilA)) [.sh (.int ((0 : Nat) : Int)), .sh (.str s), .un] = F_read_fraction [.str s] := rfl
    unfold told72
    cases h : frac72 s with
    | none =>
      rw [h] at e
      have q : (retS (asL (lstF (consA (cD F_read_fraction (consA (rd 1) nilA)) nilA)))) [.sh (.int ((0 : Nat) : Int)), .sh (.str s), .un] = .ex "InvalidLine" [.sh (.int ((0 : Nat) : Int)), .sh (.str s), .un] := by
        exact ret1_ex (e1.trans e)
      rw [seqS_eq, ifS_t (by simp [rd]) q]
      rfl
    | some p =>
      rw [h] at e
      have q : (retS (asL (lstF (consA (cD F_read_fraction (consA (rd 1) nilA)) nilA)))) [.sh (.int ((0 : Nat) : Int)), .sh (.str s), .un] = .rt (.list [pr72 p]) := by
        exact ret1_ok (e1.trans e)
      rw [seqS_rt (ifS_t (by simp [rd]) q)]
      rfl
  | 1, _ =>
    have e := F_read_field_ok hs
    have e1 : (cF F_read_field (consA (rd 1) nilA)) [.sh (.int ((1 : Nat) : Int)), .sh (.str s), .un] = F_read_field [.str s] := rfl
    unfold told72
    rw [seqS_nx (ifS_f (by simp [rd]) rfl)]
    cases h : rfield72 s with
    | none =>
      rw [h] at e
      have q : (retS (asL (lstF (consA (asL (cF F_read_field (consA (rd 1) nilA))) nilA)))) [.sh (.int ((1 : Nat) : Int)), .sh (.str s), .un] = .ex "InvalidLine" [.sh (.int ((1 : Nat) : Int)), .sh (.str s), .un] := by
        exact ret1_ex (by rw [asL_eq, e1, e]; rfl)
      rw [seqS_eq, ifS_t (by simp [rd]) q]
      rfl
    | some p =>
      rw [h] at e
      have q : (retS (asL (lstF (consA (asL (cF F_read_field (consA (rd 1) nilA))) nilA)))) [.sh (.int ((1 : Nat) : Int)), .sh (.str s), .un] = .rt (.list [.list (pl p)]) := by
        exact ret1_ok (by rw [asL_eq, e1, e]; rfl)
      rw [seqS_rt (ifS_t (by simp [rd]) q)]
      rfl
  | 2, _ =>
    have e := F_read_land_ok hs
    have e1 : (cF F_read_land (consA (rd 1) nilA)) [.sh (.int ((2 : Nat) : Int)), .sh (.str s), .un] = F_read_land [.str s] := rfl
    unfold told72
    rw [seqS_nx (ifS_f (by simp [rd]) rfl), seqS_nx (ifS_f (by simp [rd]) rfl)]
    cases h : rland72 s with
    | none =>
      rw [h] at e
      have q : (retS (asL (lstF (consA (asL (cF F_read_land (consA (rd 1) nilA))) nilA)))) [.sh (.int ((2 : Nat) : Int)), .sh (.str s), .un] = .ex "InvalidLine" [.sh (.int ((2 : Nat) : Int)), .sh (.str s), .un] := by
        exact ret1_ex (by rw [asL_eq, e1, e]; rfl)
      rw [q]
      rfl
    | some p =>
      rw [h] at e
      have q : (retS (asL (lstF (consA (asL (cF F_read_land (consA (rd 1) nilA))) nilA)))) [.sh (.int ((2 : Nat) : Int)), .sh (.str s), .un] = .rt (.list [.list (ll72 p)]) := by
        exact ret1_ok (by rw [asL_eq, e1, e]; rfl)
      rw [q]
      rfl
theorem F_ldue_ok {f : Nat} (hf : f < 3) {s : Str} (hs : s.length ≤ 100000) : F__law_due [.int (f : Int), .str s] = .ok (told72 f s) := by
  have z1 : 1 ≤ sizeLine := sizes (by decide)
  have run : ∀ d, m__law_due [.sh (.int (f : Int)), .sh (.str s), .un] = .rt d → F__law_due [.int (f : Int), .str s] = .ok d := fun d h => runD_rt h rfl
  have tail : ∀ (o : Option PyData) (t : Sl), (∀ d, o = some d → isND d .none = .ok (.bool false)) → (seqS (ifS (mB (m2 isND (rd 2) cN))
    (retS (cS "refused"))
    .nx)
    (retS (asL (lstF (consA (rd 2) nilA))))) [.sh (.int (f : Int)), .sh (.str s), .sh (o.getD .none)] = .rt (opt72 o) := fun o t ho => by
    cases o with
    | none => exact seqS_rt (ifS_t rfl (retS_go rfl))
    | some d =>
      refine (seqS_nx (ifS_f ?_ rfl)).trans (retS_go ?_)
      · show ((isND d .none) >>= asB) = _
        rw [ho d rfl]; rfl
      · simp [rd, z1]
        rfl
  refine run _ ?_
  unfold m__law_due
  rw [seqS_nx (show setS 2 cN [.sh (.int (f : Int)), .sh (.str s), .un] = .nx [.sh (.int (f : Int)), .sh (.str s), .sh .none] from rfl)]
  match f, hf with
  | 0, _ =>
    have e := F_lfraction_ok hs
    have q : (cD F__law_fraction_in (consA (rd 1) nilA)) [.sh (.int ((0 : Nat) : Int)), .sh (.str s), .sh .none] = .ok (((frac72 s).map pr72).getD .none) := by
      show F__law_fraction_in [.str s] = _
      rw [e]; cases frac72 s <;> rfl
    rw [seqS_nx (ifS_t (by simp [rd]) (setS_go q))]
    exact tail _ .un fun d hd => by
      obtain ⟨p, _, rfl⟩ := Option.map_eq_some_iff.mp hd
      rfl
  | 1, _ =>
    have e := F_lread_field_ok hs
    have q : (cD F__law_read_field (consA (rd 1) nilA)) [.sh (.int ((1 : Nat) : Int)), .sh (.str s), .sh .none] = .ok (((rfield72 s).map fun l => PyData.list (pl l)).getD .none) := by
      show F__law_read_field [.str s] = _
      rw [e]; cases rfield72 s <;> rfl
    rw [seqS_nx (ifS_f (by simp [rd]) (ifS_t (by simp [rd]) (setS_go q)))]
    exact tail _ .un fun d hd => by
      obtain ⟨p, _, rfl⟩ := Option.map_eq_some_iff.mp hd
      rfl
  | 2, _ =>
    have e := F_lread_land_ok hs
    have q : (cD F__law_read_land (consA (rd 1) nilA)) [.sh (.int ((2 : Nat) : Int)), .sh (.str s), .sh .none] = .ok (((rland72 s).map fun l => PyData.list (ll72 l)).getD .none) := by
      show F__law_read_land [.str s] = _
      rw [e]; cases rland72 s <;> rfl
    rw [seqS_nx (ifS_f (by simp [rd]) (ifS_f (by simp [rd]) (setS_go q)))]
    exact tail _ .un fun d hd => by
      obtain ⟨p, _, rfl⟩ := Option.map_eq_some_iff.mp hd
      rfl
end told72

end
end Lw
namespace Lw
noncomputable section
open PySem PySem.Spec PyProof.Rows L2 DL
/-! the writers of the program and of the law are alike -/
section write72
open HT TL
theorem line_same : F__law_text = F_line_of := rfl
theorem field_same : F__law_field_text = F_write_field := rfl
theorem land_same : F__law_land_text = F_write_land := rfl
end write72

end
end Lw
namespace Lw
noncomputable section
open PySem PySem.Spec PyProof.Rows L2 DL
/-! numbers written and read -/
section round72
open HT TL
theorem numL_len : ∀ (k n : Nat), n < 10 ^ (k + 1) → (numL n).length ≤ k + 1
  | 0, n, h => by rw [numL_lt (by simpa using h)]; simp
  | k + 1, n, h => by
    by_cases h10 : n < 10
    · rw [numL_lt h10]; simp
    · rw [numL_step (by omega), List.length_append, List.length_cons, List.length_nil]
      have := numL_len k (n / 10) (by rw [Nat.div_lt_iff_lt_mul (by decide)]; rw [Nat.pow_succ] at h; exact h)
      omega
theorem numL_head (n : Nat) : n ≠ 0 → (numL n).head? ≠ some 48 := by
  induction n using Nat.strongRecOn with
  | _ n ih =>
    intro h0
    by_cases h : n < 10
    · rw [numL_lt h]
      simp
      exact h0
    · rw [numL_step (by omega)]
      have h1 := ih (n / 10) (by omega) (by omega)
      cases hc : numL (n / 10) with
      | nil => exact absurd hc (numL_ne _)
      | cons a b => rw [hc] at h1; simpa using h1
def txt72 (i : Int) : Str := Str.ofString (toString i)
theorem num_nat {n : Nat} (h : n < 10 ^ 30) : num72 (txt72 (n : Int)) = some (n : Int) := by
  have e : tl (txt72 (n : Int)) = numL n := tl_num n
  have hm : ¬ (tl (txt72 (n : Int))).head? = some 45 := by
    rw [e]
    intro z
    have hin : 45 ∈ numL n := by
      cases hc : numL n with
      | nil => rw [hc] at z; cases z
      | cons a b => rw [hc] at z; cases z; exact List.mem_cons_self
    exact numL_free (by omega) hin
  have d : dg72 (txt72 (n : Int)) = numL n := by
    unfold dg72
    rw [if_neg hm, e]
  have ok : IsNum (txt72 (n : Int)) := by
    refine ⟨?_, ?_, ?_, ?_⟩
    · rw [d]
      cases hc : numL n with
      | nil => exact absurd hc (numL_ne n)
      | cons a b => simp
    · rw [d]; exact numL_len 29 n h
    · rw [d]; exact numL_digits n
    · rw [d]
      by_cases h0 : n = 0
      · right
        subst h0
        exact ext_tl (by rw [e, tl_zero, numL_lt (by decide)])
      · exact .inl (numL_head n h0)
  unfold num72
  rw [if_pos ok]
  unfold val72
  rw [if_neg hm, d, numL_val]
end round72

end
end Lw
namespace Lw
noncomputable section
open PySem PySem.Spec PyProof.Rows L2 DL
/-! negative numbers written and read -/
section round72b
open HT TL
theorem tl_neg (m : Nat) : tl (txt72 (Int.negSucc m)) = 45 :: numL (m + 1) := by
  have e0 : (toString (Int.negSucc m) : String) = "-" ++ toString (m + 1) := rfl
  have e1 : tl (Str.ofString (toString (((m + 1 : Nat)) : Int))) = numL (m + 1) := tl_num (m + 1)
  have e2 : (toString (((m + 1 : Nat)) : Int) : String) = toString (m + 1) := rfl
  rw [e2, tl_ofString] at e1
  unfold txt72
  rw [e0, tl_ofString, String.toList_append, List.map_append, e1]
  rfl
theorem num_neg {m : Nat} (h : m + 1 < 10 ^ 30) : num72 (txt72 (Int.negSucc m)) = some (Int.negSucc m) := by
  have e := tl_neg m
  have hm : (tl (txt72 (Int.negSucc m))).head? = some 45 := by rw [e]; rfl
  have d : dg72 (txt72 (Int.negSucc m)) = numL (m + 1) := by
    unfold dg72
    rw [if_pos hm, e]
    rfl
  have ok : IsNum (txt72 (Int.negSucc m)) := by
    refine ⟨?_, ?_, ?_, ?_⟩
    · rw [d]
      cases hc : numL (m + 1) with
      | nil => exact absurd hc (numL_ne (m + 1))
      | cons a b => simp
    · rw [d]; exact Lw.numL_len 29 (m + 1) h
    · rw [d]; exact numL_digits (m + 1)
    · rw [d]; exact .inl (numL_head (m + 1) (by omega))
  unfold num72
  rw [if_pos ok]
  unfold val72
  rw [if_pos hm, d, numL_val]
  rfl
theorem num_int {i : Int} (h : i.natAbs < 10 ^ 30) : num72 (txt72 i) = some i := by
  cases i with
  | ofNat n => exact num_nat h
  | negSucc m => exact num_neg h
/-- the signs of a number's text -/
theorem txt_free {i : Int} {s : Nat} (h : s < 45 ∨ 57 < s ∨ s = 46 ∨ s = 47) : s ∉ tl (txt72 i) := by
  cases i with
  | ofNat n =>
    have e : tl (txt72 (Int.ofNat n)) = numL n := tl_num n
    rw [e]
    exact numL_free (by omega)
  | negSucc m =>
    rw [tl_neg]
    intro z
    rcases List.mem_cons.mp z with rfl | z
    · omega
    · exact numL_free (by omega) z
end round72b

end
end Lw
namespace Lw
noncomputable section
open PySem PySem.Spec PyProof.Rows L2 DL
/-! fractions written and read -/
section round72c
open HT TL
theorem split_one {x y : Str} {s : Nat} (h : Sep y s) (hx : s ∉ tl x) : Txt.split x y = [x] := by
  refine map_tl_inj ?_
  rw [h.spl x, spl_last1 hx]
  rfl
theorem split_two {x z y : Str} {s : Nat} (h : Sep y s) (hx : s ∉ tl x) (hz : s ∉ tl z) : Txt.split (x ++ y ++ z) y = [x, z] := by
  refine map_tl_inj ?_
  rw [h.spl, tl_append, tl_append, h.e, List.append_assoc, spl_part1 hx, spl_last1 hz]
  rfl
theorem frac_back1 {a : Int} (h : a.natAbs < 10 ^ 30) : frac72 (txt72 a) = some (a, 1) := by
  unfold frac72
  rw [split_one sep_slash (txt_free (by omega))]
  rw [nums_cons, num_int h]
  rfl
theorem frac_back2 {a b : Int} (h1 : a.natAbs < 10 ^ 30) (h2 : b.natAbs < 10 ^ 30) (h3 : 1 < b) (h4 : Nat.gcd a.natAbs b.natAbs = 1) : frac72 (txt72 a ++ "/" ++ txt72 b) = some (a, b) := by
  unfold frac72
  rw [split_two sep_slash (txt_free (by omega)) (txt_free (by omega))]
  rw [nums_cons, nums_cons, num_int h1, num_int h2]
  show (if 1 < b ∧ Nat.gcd a.natAbs b.natAbs = 1 then some (a, b) else none) = _
  rw [if_pos ⟨h3, h4⟩]
end round72c

end
end Lw
namespace Lw
noncomputable section
open PySem PySem.Spec PyProof.Rows L2 DL
/-! fractions written by both -/
section wfrac72
open HT TL
theorem txt_len {i : Int} (h : i.natAbs < 10 ^ 30) : (txt72 i).length ≤ 31 := by
  rw [len_tl]
  cases i with
  | ofNat n =>
    have e : tl (txt72 (Int.ofNat n)) = numL n := tl_num n
    rw [e]
    have := Lw.numL_len 29 n h
    omega
  | negSucc m =>
    rw [tl_neg, List.length_cons]
    have := Lw.numL_len 29 (m + 1) h
    omega
theorem log_ok {i : Int} (h : i.natAbs < 10 ^ 30) : i.natAbs.log2 < 1920 := by
  by_cases h0 : i.natAbs = 0
  · rw [h0]; decide
  · exact (Nat.log2_lt h0).mpr (Nat.lt_trans h (by decide))
theorem strD_int {i : Int} (h : i.natAbs < 10 ^ 30) : strD [.int i] = .ok (.str (txt72 i)) := by
  unfold strD
  dsimp only
  rw [if_pos (log_ok h)]
  rfl
theorem fmtD_int {i : Int} (h : i.natAbs < 10 ^ 30) : fmtD (.int i) = .ok (.str (txt72 i)) := by
  unfold fmtD
  dsimp only
  rw [if_pos (log_ok h)]
  rfl
def ftxt72 (p : Int × Int) : Str := if p.2 = 1 then txt72 p.1 else txt72 p.1 ++ "/" ++ txt72 p.2
theorem len_app (x y : Str) : (x ++ y).length = x.length + y.length := by rw [len_tl, tl_append, List.length_append, ← len_tl, ← len_tl]
theorem slash_len : ("/" : Str).length = 1 := by decide +kernel
theorem F_lfraction_text_ok {a b : Int} (ha : a.natAbs < 10 ^ 30) (hb : b.natAbs < 10 ^ 30) : F__law_fraction_text [pr72 (a, b)] = .ok (.str (ftxt72 (a, b))) := by
  have la := txt_len ha
  have lb := txt_len hb
  refine runD_rt ?_ rfl
  unfold m__law_fraction_text ftxt72
  dsimp only
  have s0 : (cD strD (consA (m2 ixD (rd 0) (cI 0)) nilA)) [.sh (pr72 (a, b))] = .ok (.str (txt72 a)) := strD_int ha
  have s1 : (cD strD (consA (m2 ixD (rd 0) (cI 1)) nilA)) [.sh (pr72 (a, b))] = .ok (.str (txt72 b)) := strD_int hb
  have q : (mB (m2 eqD (m2 ixD (rd 0) (cI 1)) (cI 1))) [.sh (pr72 (a, b))] = .ok (decide (b = 1)) := by simp [rd, pr72]
  show (seqS _ _) [.sh (pr72 (a, b))] = _
  by_cases h : b = 1
  · rw [decide_eq_true h] at q
    rw [if_pos h]
    exact seqS_rt (ifS_t q (retS_go s0))
  · rw [decide_eq_false h] at q
    rw [if_neg h]
    refine (seqS_nx (ifS_f q rfl)).trans (retS_go ?_)
    rw [m2_eq, m2_eq, s0, s1]
    simp only [Out.ok_bind, cS_eq, addD_str]
    rw [if_pos (sizes (by rw [slash_len]; omega))]
    simp only [Out.ok_bind, addD_str]
    rw [if_pos (sizes (by rw [len_app, slash_len]; omega))]
theorem F_write_fraction_ok {a b : Int} (ha : a.natAbs < 10 ^ 30) (hb : b.natAbs < 10 ^ 30) : F_write_fraction [pr72 (a, b)] = .ok (.str (ftxt72 (a, b))) := by
  have la := txt_len ha
  have lb := txt_len hb
  refine runD_rt ?_ rfl
  unfold m_write_fraction ftxt72
  dsimp only
  rw [seqS_nx (show unpS (rd 0) (gT (gConsD (gN 1) (gConsD (gN 2) gNilD))) (start0 3 [pr72 (a, b)]) = .nx [.sh (pr72 (a, b)), .sh (.int a), .sh (.int b)] from rfl)]
  refine retS_go ?_
  have q : (mB (m2 eqD (rd 2) (cI 1))) [.sh (pr72 (a, b)), .sh (.int a), .sh (.int b)] = .ok (decide (b = 1)) := by simp [rd]
  rw [ifD_eq, q]
  by_cases h : b = 1
  · rw [decide_eq_true h, if_pos h]
    exact strD_int ha
  · rw [decide_eq_false h, if_neg h]
    show fstrM _ [.sh (pr72 (a, b)), .sh (.int a), .sh (.int b)] = _
    have s1 : (m1 fmtD (rd 1)) [.sh (pr72 (a, b)), .sh (.int a), .sh (.int b)] = .ok (.str (txt72 a)) := fmtD_int ha
    have s2 : (m1 fmtD (rd 2)) [.sh (pr72 (a, b)), .sh (.int a), .sh (.int b)] = .ok (.str (txt72 b)) := fmtD_int hb
    have e0 : Str.empty ++ txt72 a = txt72 a := ext_tl (by rw [tl_append]; rfl)
    unfold fstrM joinM
    rw [s1]
    dsimp only [Out.ok_bind]
    rw [e0, if_pos (sizes (by omega))]
    unfold joinM
    simp only [cS_eq, Out.ok_bind]
    rw [if_pos (sizes (by rw [len_app, slash_len]; omega))]
    unfold joinM
    rw [s2]
    simp only [Out.ok_bind]
    rw [if_pos (sizes (by rw [len_app, len_app, slash_len]; omega))]
    rfl
end wfrac72

end
end Lw
namespace Lw
noncomputable section
open PySem PySem.Spec PyProof.Rows L2 DL
/-! lines written and read -/
section wline72
open HT TL
def body72 (w : Str) (l : List Int) : Str := Txt.join " " (w :: l.map txt72)
def line72 (w : Str) (l : List Int) : Str := body72 w l ++ "\n"
theorem sum_len : ∀ (l : List Int), (∀ i ∈ l, i.natAbs < 10 ^ 30) → ((l.map txt72).map (·.length)).sum ≤ 31 * l.length
  | [], _ => by simp
  | i :: l, h => by
    have h1 := txt_len (h i List.mem_cons_self)
    have h2 := sum_len l fun j hj => h j (List.mem_cons_of_mem _ hj)
    rw [List.map_cons, List.map_cons, List.sum_cons, List.length_cons]
    omega
theorem joinL_len (S : List Nat) : ∀ ps : List (List Nat), (joinL S ps).length ≤ (ps.map (·.length)).sum + ps.length * S.length
  | [] => by simp [joinL]
  | [p] => by simp [joinL]
  | p :: q :: r => by
    have := joinL_len S (q :: r)
    show (p ++ (S ++ joinL S (q :: r))).length ≤ _
    rw [List.length_append, List.length_append, List.map_cons, List.sum_cons, List.length_cons (a := p), Nat.succ_mul]
    omega
theorem space_len : (" " : Str).length = 1 := by decide +kernel
theorem nl_len : ("\n" : Str).length = 1 := by decide +kernel
theorem body_len {w : Str} {l : List Int} (h : ∀ i ∈ l, i.natAbs < 10 ^ 30) : (body72 w l).length ≤ w.length + 32 * l.length + 1 := by
  have hs := sum_len l h
  unfold body72
  rw [len_tl, join_eq, tl_join]
  have := joinL_len (tl " ") ((w :: l.map txt72).map tl)
  have e1 : (((w :: l.map txt72).map tl).map (·.length)) = (w :: l.map txt72).map (·.length) := by
    rw [List.map_map]
    exact List.map_congr_left fun x _ => (len_tl x).symm
  rw [e1, List.length_map, List.length_cons, List.length_map, sep_space.e] at this
  have e2 : ((w :: l.map txt72).map (·.length)).sum = w.length + ((l.map txt72).map (·.length)).sum := by rw [List.map_cons, List.sum_cons]
  rw [e2] at this
  rw [sep_space.e]
  simp only [List.length_cons, List.length_nil] at this
  omega
theorem F_line_of_gen {w : Str} {l : List Int} {d : PyData} (hd : seqO d = .ok (il l)) (hw : w.length ≤ 100) (hl : l.length ≤ 100) (h : ∀ i ∈ l, i.natAbs < 10 ^ 30) : F_line_of [.str w, d] = .ok (.str (line72 w l)) := by
  have hb := body_len (w := w) h
  have hs := sum_len l h
  have q1 : lcF (seqM (rd 1)) (gN 2) yesB (cD strD (consA (rd 2) nilA)) [2] [.sh (.str w), .sh d, .un] = .ok (l.map fun i => .str (txt72 i)) := by
    refine lc_all (l := l) (u := fun i => .int i) hd (by omega) fun i hi => ?_
    show (strD [.int i] >>= fun y => Out.ok (some y)) = _
    rw [strD_int (h i hi)]
    rfl
  have q2 : (m2 addD (asL (lstF (consA (rd 0) nilA))) (asL (lcF (seqM (rd 1)) (gN 2) yesB (cD strD (consA (rd 2) nilA)) [2]))) [.sh (.str w), .sh d, .un] = .ok (.list ((w :: l.map txt72).map .str)) := by
    have e : (asL (lstF (consA (rd 0) nilA))) [.sh (.str w), .sh d, .un] = .ok (.list [.str w]) := by
      have z1 : 1 ≤ sizeLine := sizes (by decide)
      simp [rd, z1]
    rw [m2_eq, e, asL_eq, q1]
    simp only [Out.ok_bind, addD_list]
    rw [if_pos (sizes (by rw [List.length_map]; simp; omega)), List.map_cons, List.map_map]
    rfl
  refine runD_rt ?_ rfl
  unfold m_line_of
  refine retS_go ?_
  show (m2 addD _ _) [.sh (.str w), .sh d, .un] = _
  have q3 : (strM joinO (cS " ") (m2 addD (asL (lstF (consA (rd 0) nilA))) (asL (lcF (seqM (rd 1)) (gN 2) yesB (cD strD (consA (rd 2) nilA)) [2])))) [.sh (.str w), .sh d, .un] = .ok (.str (body72 w l)) := by
    unfold strM
    rw [cS_eq, Out.ok_bind, q2]
    show joinO " " (.list ((w :: l.map txt72).map .str)) = _
    unfold joinO
    dsimp only
    rw [strsOf_map]
    dsimp only
    rw [if_pos (by
      rw [List.map_cons, List.sum_cons, List.length_cons, List.length_map, space_len]
      omega)]
    rfl
  rw [m2_eq, q3]
  simp only [Out.ok_bind, cS_eq, addD_str]
  rw [if_pos (sizes (by rw [nl_len]; omega))]
  rfl
theorem F_line_of_ok {w : Str} {l : List Int} (hw : w.length ≤ 100) (hl : l.length ≤ 100) (h : ∀ i ∈ l, i.natAbs < 10 ^ 30) : F_line_of [.str w, .list (il l)] = .ok (.str (line72 w l)) := F_line_of_gen rfl hw hl h
theorem F_line_of_pd {w : Str} {p : Pt} (hw : w.length ≤ 100) (h1 : p.1.natAbs < 10 ^ 30) (h2 : p.2.natAbs < 10 ^ 30) : F_line_of [.str w, pd p] = .ok (.str (line72 w [p.1, p.2])) := F_line_of_gen (l := [p.1, p.2]) rfl hw (by simp) (fun i hi => by
  simp only [List.mem_cons, List.not_mem_nil, or_false] at hi
  rcases hi with rfl | rfl <;> assumption)
/-- a line, read back -/
theorem nums_back : ∀ (l : List Int), (∀ i ∈ l, i.natAbs < 10 ^ 30) → nums72 (l.map txt72) = some l
  | [], _ => rfl
  | i :: l, h => by
    rw [List.map_cons, nums_cons, num_int (h i List.mem_cons_self), nums_back l fun j hj => h j (List.mem_cons_of_mem _ hj)]
theorem line_back {w : Str} {l : List Int} (hw : 32 ∉ tl w) (h : ∀ i ∈ l, i.natAbs < 10 ^ 30) : numsIn72 w (body72 w l) = some l := by
  unfold numsIn72 body72
  rw [split_join sep_space.e sep_space.k (by simp) (fun p hp => by
    rcases List.mem_cons.mp hp with rfl | hp
    · exact hw
    · obtain ⟨i, _, rfl⟩ := List.mem_map.mp hp
      exact txt_free (by omega))]
  dsimp only
  rw [if_pos rfl, nums_back l h]
end wline72

end
end Lw
namespace Lw
noncomputable section
open PySem PySem.Spec PyProof.Rows L2 DL
/-! fields written -/
section wfield72
open HT TL
def sline72 (p : Pt) : Str := line72 "stone" [p.1, p.2]
def ftext72 (st : List Pt) : Str := line72 "field" [(st.length : Int)] ++ Txt.join "" (st.map sline72)
def Sm72 (st : List Pt) : Prop := ∀ p ∈ st, p.1.natAbs < 10 ^ 30 ∧ p.2.natAbs < 10 ^ 30
theorem line_len {w : Str} {l : List Int} (h : ∀ i ∈ l, i.natAbs < 10 ^ 30) : (line72 w l).length ≤ w.length + 32 * l.length + 2 := by
  have := body_len (w := w) h
  unfold line72
  rw [len_app, nl_len]
  omega
theorem field_len : ("field" : Str).length = 5 := by decide +kernel
theorem stone_len : ("stone" : Str).length = 5 := by decide +kernel
theorem empty_len : ("" : Str).length = 0 := by decide +kernel
theorem sline_len {p : Pt} (h1 : p.1.natAbs < 10 ^ 30) (h2 : p.2.natAbs < 10 ^ 30) : (sline72 p).length ≤ 71 := by
  have := line_len (w := "stone") (l := [p.1, p.2]) (fun i hi => by
    simp only [List.mem_cons, List.not_mem_nil, or_false] at hi
    rcases hi with rfl | rfl <;> assumption)
  rw [stone_len] at this
  unfold sline72
  simpa using this
theorem slines_sum : ∀ st : List Pt, Sm72 st → ((st.map sline72).map (·.length)).sum ≤ 71 * st.length
  | [], _ => by simp
  | p :: st, h => by
    have h1 := sline_len (h p List.mem_cons_self).1 (h p List.mem_cons_self).2
    have h2 := slines_sum st fun q hq => h q (List.mem_cons_of_mem _ hq)
    rw [List.map_cons, List.map_cons, List.sum_cons, List.length_cons]
    omega
theorem join0_len (ps : List Str) : (Txt.join "" ps).length ≤ (ps.map (·.length)).sum := by
  rw [len_tl, join_eq, tl_join]
  have := joinL_len (tl "") (ps.map tl)
  have e1 : ((ps.map tl).map (·.length)) = ps.map (·.length) := by
    rw [List.map_map]
    exact List.map_congr_left fun x _ => (len_tl x).symm
  rw [e1, tl_empty] at this
  rw [tl_empty]
  simpa using this
theorem F_write_field_ok {st : List Pt} (hl : st.length ≤ 100) (h : Sm72 st) : F_write_field [.list (pl st)] = .ok (.str (ftext72 st)) := by
  have hs := slines_sum st h
  have q1 : lcF (seqM (rd 0)) (gN 1) yesB (cD F_line_of (consA (cS "stone") (consA (rd 1) nilA))) [1] [.sh (.list (pl st)), .un] = .ok (st.map fun p => .str (sline72 p)) := by
    refine lc_all (l := st) (u := pd) rfl (by omega) fun p hp => ?_
    show (F_line_of [.str "stone", pd p] >>= fun y => Out.ok (some y)) = _
    rw [F_line_of_pd (by rw [stone_len]; omega) (h p hp).1 (h p hp).2]
    rfl
  have hn : ∀ i ∈ [(st.length : Int)], i.natAbs < 10 ^ 30 := fun i hi => by
    rw [List.mem_singleton] at hi
    subst hi
    exact Nat.lt_of_le_of_lt (show (st.length : Int).natAbs ≤ 100 by omega) (by decide)
  have q2 : (cD F_line_of (consA (cS "field") (consA (asL (lstF (consA (cD lenD (consA (rd 0) nilA)) nilA))) nilA))) [.sh (.list (pl st)), .un] = .ok (.str (line72 "field" [(st.length : Int)])) := by
    have z1 : 1 ≤ sizeLine := sizes (by decide)
    have e : (asL (lstF (consA (cD lenD (consA (rd 0) nilA)) nilA))) [.sh (.list (pl st)), .un] = .ok (.list (il [(st.length : Int)])) := by
      simp [rd, z1, il, pl]
    rw [cD_eq, consA_eq, cS_eq, consA_eq, e]
    show F_line_of [.str "field", .list (il [(st.length : Int)])] = _
    exact F_line_of_ok (by rw [field_len]; omega) (by simp) hn
  have q3 : (strM joinO (cS "") (asL (lcF (seqM (rd 0)) (gN 1) yesB (cD F_line_of (consA (cS "stone") (consA (rd 1) nilA))) [1]))) [.sh (.list (pl st)), .un] = .ok (.str (Txt.join "" (st.map sline72))) := by
    unfold strM
    rw [cS_eq, Out.ok_bind, asL_eq, q1]
    show joinO "" (.list (st.map fun p => .str (sline72 p))) = _
    have e : (st.map fun p => PyData.str (sline72 p)) = (st.map sline72).map .str := by rw [List.map_map]; rfl
    rw [e]
    unfold joinO
    dsimp only
    rw [strsOf_map]
    dsimp only
    rw [if_pos (by rw [empty_len]; omega)]
  have l1 := line_len (w := "field") hn
  have l2 := join0_len (st.map sline72)
  rw [field_len] at l1
  refine runD_rt ?_ rfl
  unfold m_write_field
  refine retS_go ?_
  show (m2 addD _ _) [.sh (.list (pl st)), .un] = _
  rw [m2_eq, q2, q3]
  simp only [Out.ok_bind, addD_str]
  rw [if_pos (sizes (by simp only [List.length_cons, List.length_nil] at l1; omega))]
  rfl
end wfield72

end
end Lw
namespace Lw
noncomputable section
open PySem PySem.Spec PyProof.Rows L2 DL
/-! lines put together, and read back -/
section back72
open HT TL
theorem join_ends : ∀ bs : List (List Nat), bs ≠ [] → (bs.map fun b => b ++ [10]).flatten = joinL [10] bs ++ [10]
  | [], h => absurd rfl h
  | [p], _ => by simp [joinL]
  | p :: q :: r, _ => by
    have ih := join_ends (q :: r) (by simp)
    rw [List.map_cons, List.flatten_cons, ih]
    show _ = (p ++ ([10] ++ joinL [10] (q :: r))) ++ [10]
    simp
theorem joinL_nil : ∀ bs : List (List Nat), joinL [] bs = bs.flatten
  | [] => rfl
  | [p] => by simp [joinL]
  | p :: q :: r => by
    show p ++ ([] ++ joinL [] (q :: r)) = _
    rw [joinL_nil (q :: r), List.flatten_cons (l := p), List.nil_append]
/-- a text of whole lines, read back -/
theorem lines_back {bs : List Str} (hne : bs ≠ []) (h : ∀ b ∈ bs, 10 ∉ tl b) {s : Str} (hs : tl s = (bs.map fun b => tl b ++ [10]).flatten) : lines72 s = some bs := by
  have e1 : tl s = joinL [10] (bs.map tl) ++ [10] := by
    rw [hs, ← join_ends (bs.map tl) (by simpa using hne), List.map_map]
    rfl
  have e2 : tl (Txt.join "\n" bs) = joinL [10] (bs.map tl) := by rw [join_eq, tl_join, sep_line.e]
  rw [lines_yes e1 e2, split_join sep_line.e sep_line.k hne h]
end back72

end
end Lw
namespace Lw
noncomputable section
open PySem PySem.Spec PyProof.Rows L2 DL
/-! a field, read back -/
section fback72
open HT TL
def flines72 (st : List Pt) : List Str := body72 "field" [(st.length : Int)] :: st.map fun p => body72 "stone" [p.1, p.2]
theorem joinL_free {s : Nat} {S : List Nat} : ∀ ps : List (List Nat), s ∉ S → (∀ p ∈ ps, s ∉ p) → s ∉ joinL S ps
  | [], _, _ => by simp [joinL]
  | [p], _, h => h p (by simp)
  | p :: q :: r, hS, h => by
    show s ∉ p ++ (S ++ joinL S (q :: r))
    rw [List.mem_append, List.mem_append]
    rintro (z | z | z)
    · exact h p (by simp) z
    · exact hS z
    · exact joinL_free (q :: r) hS (fun x hx => h x (List.mem_cons_of_mem _ hx)) z
theorem body_free {w : Str} {l : List Int} (hw : 10 ∉ tl w) : 10 ∉ tl (body72 w l) := by
  unfold body72
  rw [join_eq, tl_join, sep_space.e]
  refine joinL_free _ (by simp) fun p hp => ?_
  rw [List.map_cons, List.mem_cons] at hp
  rcases hp with rfl | hp
  · exact hw
  · rw [List.map_map] at hp
    obtain ⟨i, _, rfl⟩ := List.mem_map.mp hp
    exact txt_free (by omega)
theorem field_free : 10 ∉ tl ("field" : Str) ∧ 32 ∉ tl ("field" : Str) := by decide +kernel
theorem stone_free : 10 ∉ tl ("stone" : Str) ∧ 32 ∉ tl ("stone" : Str) := by decide +kernel
theorem tl_ftext (st : List Pt) : tl (ftext72 st) = ((flines72 st).map fun b => tl b ++ [10]).flatten := by
  unfold ftext72 flines72 line72
  rw [tl_append, tl_append, join_eq, tl_join, tl_empty, joinL_nil, List.map_cons, List.flatten_cons, tl_line, List.map_map, List.map_map]
  congr 2
  refine List.map_congr_left fun p _ => ?_
  show tl (line72 "stone" [p.1, p.2]) = _
  unfold line72
  rw [tl_append, tl_line]
  rfl
theorem ftext_lines (st : List Pt) : lines72 (ftext72 st) = some (flines72 st) := by
  refine lines_back (by simp [flines72]) (fun b hb => ?_) (tl_ftext st)
  unfold flines72 at hb
  rcases List.mem_cons.mp hb with rfl | hb
  · exact body_free field_free.1
  · obtain ⟨p, _, rfl⟩ := List.mem_map.mp hb
    exact body_free stone_free.1
end fback72

end
end Lw
namespace Lw
noncomputable section
open PySem PySem.Spec PyProof.Rows L2 DL
/-! a written field is read back -/
section fback72b
open HT TL
theorem near_sm {p : Pt} (h : Near72 p) : p.1.natAbs < 10 ^ 30 ∧ p.2.natAbs < 10 ^ 30 := by
  unfold Near72 at h
  exact ⟨Nat.lt_of_le_of_lt (show p.1.natAbs ≤ 1000 by omega) (by decide), Nat.lt_of_le_of_lt (show p.2.natAbs ≤ 1000 by omega) (by decide)⟩
theorem stones_back : ∀ st : List Pt, (∀ p ∈ st, Near72 p) → stones72 (st.map fun p => body72 "stone" [p.1, p.2]) = some st
  | [], _ => rfl
  | p :: st, h => by
    have hp := near_sm (h p List.mem_cons_self)
    have ih := stones_back st fun q hq => h q (List.mem_cons_of_mem _ hq)
    have e : stone72 (body72 "stone" [p.1, p.2]) = some p := by
      unfold stone72
      rw [line_back stone_free.2 (fun i hi => by
        simp only [List.mem_cons, List.not_mem_nil, or_false] at hi
        rcases hi with rfl | rfl
        · exact hp.1
        · exact hp.2)]
    rw [List.map_cons]
    unfold stones72
    rw [e, ih]
theorem field_back {st : List Pt} (h : Field72 st) (rest : List Str) : field72 (flines72 st ++ rest) = some (st, rest) := by
  have hc : count72 "field" (body72 "field" [(st.length : Int)]) = some (st.length : Int) := by
    unfold count72
    rw [line_back field_free.2 (fun i hi => by
      rw [List.mem_singleton] at hi
      subst hi
      exact Nat.lt_of_le_of_lt (show (st.length : Int).natAbs ≤ 12 by have := h.2.2; omega) (by decide))]
  have h1 := h.2.1
  unfold flines72
  rw [List.cons_append]
  unfold field72
  dsimp only
  rw [hc]
  dsimp only
  have hl : (st.map fun p => body72 "stone" [p.1, p.2]).length = st.length := List.length_map ..
  rw [if_pos ⟨by omega, by rw [List.length_cons, List.length_append, hl]; omega⟩, show ((st.length : Int)).toNat = st.length by omega]
  rw [List.take_append_of_le_length (by rw [hl]; exact Nat.le_refl _), List.take_of_length_le (by rw [hl]; exact Nat.le_refl _), stones_back st h.1]
  dsimp only
  rw [if_pos h, ← hl, List.drop_left]
theorem rfield_back {st : List Pt} (h : Field72 st) : rfield72 (ftext72 st) = some st := by
  unfold rfield72
  rw [ftext_lines]
  dsimp only
  have e := field_back h []
  rw [List.append_nil] at e
  rw [e]
  dsimp only
  rw [if_pos rfl]
end fback72b

end
end Lw
namespace Lw
noncomputable section
open PySem PySem.Spec PyProof.Rows L2 DL
/-! a written land is read back -/
section lback72
open HT TL
def ltext72 (fs : List (List Pt)) : Str := line72 "land" [(fs.length : Int)] ++ Txt.join "" (fs.map ftext72)
def llines72 (fs : List (List Pt)) : List Str := body72 "land" [(fs.length : Int)] :: (fs.map flines72).flatten
theorem land_free : 10 ∉ tl ("land" : Str) ∧ 32 ∉ tl ("land" : Str) := by decide +kernel
theorem fl_flat : ∀ fs : List (List Pt), ((fs.map ftext72).map tl).flatten = (((fs.map flines72).flatten).map fun b => tl b ++ [10]).flatten
  | [] => rfl
  | f :: fs => by
    rw [List.map_cons, List.map_cons, List.flatten_cons, fl_flat fs, tl_ftext, List.map_cons, List.flatten_cons, List.map_append, List.flatten_append]
theorem tl_ltext (fs : List (List Pt)) : tl (ltext72 fs) = ((llines72 fs).map fun b => tl b ++ [10]).flatten := by
  unfold ltext72 llines72 line72
  rw [tl_append, tl_append, join_eq, tl_join, tl_empty, joinL_nil, List.map_cons, List.flatten_cons, tl_line, fl_flat]
theorem ltext_lines (fs : List (List Pt)) : lines72 (ltext72 fs) = some (llines72 fs) := by
  refine lines_back (by simp [llines72]) (fun b hb => ?_) (tl_ltext fs)
  unfold llines72 at hb
  rcases List.mem_cons.mp hb with rfl | hb
  · exact body_free land_free.1
  · obtain ⟨l, hl, hb⟩ := List.mem_flatten.mp hb
    obtain ⟨st, _, rfl⟩ := List.mem_map.mp hl
    unfold flines72 at hb
    rcases List.mem_cons.mp hb with rfl | hb
    · exact body_free field_free.1
    · obtain ⟨p, _, rfl⟩ := List.mem_map.mp hb
      exact body_free stone_free.1
theorem fields_back : ∀ fs : List (List Pt), (∀ f ∈ fs, Field72 f) → fields72 fs.length ((fs.map flines72).flatten) = some (fs, [])
  | [], _ => rfl
  | f :: fs, h => by
    rw [List.length_cons, List.map_cons, List.flatten_cons]
    unfold fields72
    rw [field_back (h f List.mem_cons_self)]
    dsimp only
    rw [fields_back fs fun g hg => h g (List.mem_cons_of_mem _ hg)]
theorem rland_back {fs : List (List Pt)} (h : ∀ f ∈ fs, Field72 f) (h1 : 1 ≤ fs.length) (h2 : fs.length ≤ 8) : rland72 (ltext72 fs) = some fs := by
  unfold rland72
  rw [ltext_lines]
  have hc : count72 "land" (body72 "land" [(fs.length : Int)]) = some (fs.length : Int) := by
    unfold count72
    rw [line_back land_free.2 (fun i hi => by
      rw [List.mem_singleton] at hi
      subst hi
      exact Nat.lt_of_le_of_lt (show (fs.length : Int).natAbs ≤ 8 by omega) (by decide))]
  unfold llines72 land72
  dsimp only
  rw [hc]
  dsimp only
  rw [if_pos ⟨by omega, by omega⟩, show ((fs.length : Int)).toNat = fs.length by omega, fields_back fs h]
  dsimp only
  rw [if_pos rfl]
end lback72

end
end Lw
namespace Lw
noncomputable section
open PySem PySem.Spec PyProof.Rows L2 DL
/-! lands written -/
section wland72
open HT TL
theorem count_sm {n : Nat} (h : n ≤ 100) : ∀ i ∈ [(n : Int)], i.natAbs < 10 ^ 30 := fun i hi => by
  rw [List.mem_singleton] at hi
  subst hi
  exact Nat.lt_of_le_of_lt (show (n : Int).natAbs ≤ 100 by omega) (by decide)
theorem ftext_len {st : List Pt} (hl : st.length ≤ 100) (h : Sm72 st) : (ftext72 st).length ≤ 7200 := by
  have l1 := line_len (w := "field") (count_sm hl)
  have l2 := join0_len (st.map sline72)
  have l3 := slines_sum st h
  rw [field_len] at l1
  simp only [List.length_cons, List.length_nil] at l1
  unfold ftext72
  rw [len_app]
  omega
theorem ftexts_sum : ∀ fs : List (List Pt), (∀ f ∈ fs, f.length ≤ 100 ∧ Sm72 f) → ((fs.map ftext72).map (·.length)).sum ≤ 7200 * fs.length
  | [], _ => by simp
  | p :: st, h => by
    have h1 := ftext_len (h p List.mem_cons_self).1 (h p List.mem_cons_self).2
    have h2 := ftexts_sum st fun q hq => h q (List.mem_cons_of_mem _ hq)
    rw [List.map_cons, List.map_cons, List.sum_cons, List.length_cons]
    omega
theorem land_len : ("land" : Str).length = 4 := by decide +kernel
theorem F_write_land_ok {fs : List (List Pt)} (hl : fs.length ≤ 10) (h : ∀ f ∈ fs, f.length ≤ 100 ∧ Sm72 f) : F_write_land [.list (ll72 fs)] = .ok (.str (ltext72 fs)) ∧ (ltext72 fs).length ≤ 80000 := by
  have hs := ftexts_sum fs h
  have q1 : lcF (seqM (rd 0)) (gN 1) yesB (cD F_write_field (consA (rd 1) nilA)) [1] [.sh (.list (ll72 fs)), .un] = .ok (fs.map fun f => .str (ftext72 f)) := by
    refine lc_all (l := fs) (u := fun f => .list (pl f)) rfl (by omega) fun f hf => ?_
    show (F_write_field [.list (pl f)] >>= fun y => Out.ok (some y)) = _
    rw [F_write_field_ok (h f hf).1 (h f hf).2]
    rfl
  have hn := count_sm (n := fs.length) (by omega)
  have q2 : (cD F_line_of (consA (cS "land") (consA (asL (lstF (consA (cD lenD (consA (rd 0) nilA)) nilA))) nilA))) [.sh (.list (ll72 fs)), .un] = .ok (.str (line72 "land" [(fs.length : Int)])) := by
    have z1 : 1 ≤ sizeLine := sizes (by decide)
    have e : (asL (lstF (consA (cD lenD (consA (rd 0) nilA)) nilA))) [.sh (.list (ll72 fs)), .un] = .ok (.list (il [(fs.length : Int)])) := by
      simp [rd, z1, il, ll72]
    rw [cD_eq, consA_eq, cS_eq, consA_eq, e]
    show F_line_of [.str "land", .list (il [(fs.length : Int)])] = _
    exact F_line_of_ok (by rw [land_len]; omega) (by simp) hn
  have q3 : (strM joinO (cS "") (asL (lcF (seqM (rd 0)) (gN 1) yesB (cD F_write_field (consA (rd 1) nilA)) [1]))) [.sh (.list (ll72 fs)), .un] = .ok (.str (Txt.join "" (fs.map ftext72))) := by
    unfold strM
    rw [cS_eq, Out.ok_bind, asL_eq, q1]
    show joinO "" (.list (fs.map fun p => .str (ftext72 p))) = _
    have e : (fs.map fun p => PyData.str (ftext72 p)) = (fs.map ftext72).map .str := by rw [List.map_map]; rfl
    rw [e]
    unfold joinO
    dsimp only
    rw [strsOf_map]
    dsimp only
    rw [if_pos (by rw [empty_len]; omega)]
  have l1 := line_len (w := "land") hn
  have l2 := join0_len (fs.map ftext72)
  rw [land_len] at l1
  simp only [List.length_cons, List.length_nil] at l1
  refine ⟨runD_rt ?_ rfl, by unfold ltext72; rw [len_app]; omega⟩
  unfold m_write_land
  refine retS_go ?_
  show (m2 addD _ _) [.sh (.list (ll72 fs)), .un] = _
  rw [m2_eq, q2, q3]
  simp only [Out.ok_bind, addD_str]
  rw [if_pos (sizes (by omega))]
  rfl
end wland72

end
end Lw
namespace Lw
noncomputable section
open PySem PySem.Spec PyProof.Rows L2 DL
/-! a text bent -/
section bent72
open HT TL
theorem cut_len (z : Str) (lo hi : Option Int) : (cutS z lo hi).length ≤ z.length := by
  rw [len_tl, tl_cut, len_tl]
  simp
  omega
theorem add_str {x y : Str} (h : x.length + y.length ≤ 1000000) : addD (.str x) (.str y) = .ok (.str (x ++ y)) := by
  rw [addD_str, if_pos (sizes (by omega))]
end bent72

end
end Lw
namespace Lw
noncomputable section
open PySem PySem.Spec PyProof.Rows L2 DL
/-! a text bent, in bounds -/
section bentB
open HT TL
theorem signs_len : ("0123456789 \n-/abfilnostu" : Str).length = 24 := by decide +kernel
theorem ix_strN {z : Str} {i : Nat} (h : i < z.length) (hz : z.length ≤ 1000000) : ∃ c, ixD (.str z) (.int (i : Int)) = .ok (.str ⟨#[c]⟩) := by
  have h' : i < z.cps.toList.length := by simpa [Str.length] using h
  refine ⟨z.cps.toList[i], ?_⟩
  show (if z.length ≤ sizeLine then (match atI z.cps.toList (i : Int) with | some c => Out.ok (PyData.str ⟨#[c]⟩) | none => .no) else .no) = _
  rw [if_pos (sizes (by omega)), atI_cast, List.getElem?_eq_getElem h']
theorem one_len (c : Nat) : (⟨#[c]⟩ : Str).length = 1 := rfl
def extras72 : List Str := [" 0", " 12", "\n", "stone 1 2\n", "field 1\n", "/2", "-", "  "]
theorem extras_len : ∀ x ∈ extras72, x.length ≤ 20 := by decide +kernel
theorem F_bent_ok {s : Str} (hs : s.length ≤ 1300) {l : List Int} {dr : Nat → Int} (D : Dr l dr 60 5040) {k : Nat} (hk : k < 19) : ∃ z : Str, z.length ≤ 100000 ∧ F__law_bent_string [.str s, .list (il l), .int ((3 * k : Nat) : Int)] = .ok (.str z) := by
  obtain ⟨c0, g0, l0⟩ := mods (dr (3 * k)) ((s.length : Int) + 1) (by omega)
  obtain ⟨c1, g1, l1⟩ := mods (dr (3 * k + 1)) 24 (by decide)
  obtain ⟨c2, g2, l2⟩ := mods (dr (3 * k + 2)) 8 (by decide)
  obtain ⟨c5, g5, l5⟩ := mods (dr (3 * k + 1)) ((s.length : Int) + 1) (by omega)
  obtain ⟨c6, g6, l6⟩ := mods (dr (3 * k + 1)) 8 (by decide)
  have i0 := D.ix (k := 3 * k) (by omega)
  have i1 := D.ix (k := 3 * k + 1) (by omega)
  have i2 := D.ix (k := 3 * k + 2) (by omega)
  obtain ⟨sg, hsg⟩ := ix_strN (z := "0123456789 \n-/abfilnostu") (i := c1) (by rw [signs_len]; omega) (by rw [signs_len]; omega)
  have e1 : ((3 * k : Nat) : Int) + 1 = ((3 * k + 1 : Nat) : Int) := by omega
  have e2 : ((3 * k : Nat) : Int) + 2 = ((3 * k + 2 : Nat) : Int) := by omega
  have hlen := lenD_str (z := s) (by omega)
  have hlen2 := lenD_str (z := "0123456789 \n-/abfilnostu") (by rw [signs_len]; omega)
  rw [signs_len] at hlen2
  generalize hρ : ([.sh (.str s), .sh (.list (il l)), .sh (.int ((3 * k : Nat) : Int)), .sh (.str "0123456789 \n-/abfilnostu"), .sh (.int (c0 : Int)), .sh (.str ⟨#[sg]⟩), .sh (.int (c2 : Int))] : Ro) = ρ
  have r0 : rd 0 ρ = .ok (.str s) := by rw [← hρ]; rfl
  have r4 : rd 4 ρ = .ok (.int (c0 : Int)) := by rw [← hρ]; rfl
  have r5 : rd 5 ρ = .ok (.str ⟨#[sg]⟩) := by rw [← hρ]; rfl
  have rs : ∀ (lo hi : Ro → Out (Option Int)) (a b : Option Int), lo ρ = .ok a → hi ρ = .ok b → ∃ z : Str, z.length ≤ 1300 ∧ m3S slD (rd 0) lo hi ρ = .ok (.str z) := fun lo hi a b h1 h2 => ⟨cutS s a b, Nat.le_trans (cut_len _ _ _) hs, by
    rw [m3S_eq, r0, Out.ok_bind, h1, Out.ok_bind, h2, Out.ok_bind, slD_str _ _ (by omega)]⟩
  have ad : ∀ (ma mb : MD) (a b : Nat), (∃ z : Str, z.length ≤ a ∧ ma ρ = .ok (.str z)) → (∃ z : Str, z.length ≤ b ∧ mb ρ = .ok (.str z)) → a + b ≤ 100000 → ∃ z : Str, z.length ≤ a + b ∧ m2 addD ma mb ρ = .ok (.str z) := fun ma mb a b ⟨x, hx, e1⟩ ⟨y, hy, e2⟩ hab => ⟨x ++ y, by rw [len_app]; omega, by rw [m2_eq, e1, Out.ok_bind, e2, Out.ok_bind, add_str (by omega)]⟩
  have p0 : (someP (cI 0)) ρ = .ok (some 0) := rfl
  have p4 : (someP (rd 4)) ρ = .ok (some (c0 : Int)) := by rw [someP_eq, r4]; rfl
  have p41 : (someP (m2 addD (rd 4) (cI 1))) ρ = .ok (some ((c0 : Int) + 1)) := by rw [someP_eq, m2_eq, r4]; rfl
  have p5 : (someP (m2 modD (m2 ixD (rd 1) (m2 addD (rd 2) (cI 1))) (m2 addD (cD lenD (consA (rd 0) nilA)) (cI 1)))) ρ = .ok (some (c5 : Int)) := by
    rw [← hρ]
    simp only [m2_eq, m1_eq, mB_eq, asB_bool, tru_eq, truD_bool, truD_int, truD_list, truD_tuple, truD_none, andB_eq, orB_eq, notB_eq, andD_eq, orD_eq, notD_eq, ifD_eq, chD_eq, cI_eq, cB_eq, cS_eq, cN_eq, nilA_eq, consA_eq, tupD_eq, lstF_eq, asL_eq, cD_eq, cF_eq, m2F_eq, noP_eq, someP_eq, asI_int, m3S_eq, seqM_eq, seqO_list, seqO_tuple, borB_eq, borD_eq, borF_eq, flatO_int, flatO_bool, flatO_str, flatO_none, yesB_eq, addD_int, subD_int, iaddD_int, isubD_int, mulD_int, fdivD_int, modD_int, negD_int, ltD_int, leD_int, gtD_int, geD_int, eqD_int, neD_int, slD_list, slF_list, intD_int, intD_bool, lenD_list, lenD_tuple, absD_int, listF_list, tupleD_list, rd, List.getElem?_cons_succ, List.getElem?_cons_zero, List.set_cons_succ, List.set_cons_zero, Out.ok_bind, List.length_cons, List.length_nil, decide_true, decide_false, Bool.not_true, Bool.not_false, ↓reduceIte, e1, i1, hlen, modD_pos (show (0 : Int) < (s.length : Int) + 1 by omega), g5]
  have sA := rs _ _ _ _ p0 p4
  have sB := rs _ _ _ _ p41 (show noP ρ = .ok none from rfl)
  have sC := rs _ _ _ _ p4 (show noP ρ = .ok none from rfl)
  have sD := rs _ _ _ _ p5 (show noP ρ = .ok none from rfl)
  have sS : ∃ z : Str, z.length ≤ 1300 ∧ rd 0 ρ = .ok (.str z) := ⟨s, hs, r0⟩
  have sG : ∃ z : Str, z.length ≤ 1 ∧ rd 5 ρ = .ok (.str z) := ⟨_, Nat.le_of_eq (one_len sg), r5⟩
  have sE : ∃ z : Str, z.length ≤ 20 ∧ (m2 ixD (asL (lstF (consA (cS " 0") (consA (cS " 12") (consA (cS "\n") (consA (cS "stone 1 2\n") (consA (cS "field 1\n") (consA (cS "/2") (consA (cS "-") (consA (cS "  ") nilA)))))))))) (m2 modD (m2 ixD (rd 1) (m2 addD (rd 2) (cI 1))) (cI 8))) ρ = .ok (.str z) := by
    have h6 : c6 < extras72.length := by show c6 < 8; omega
    refine ⟨extras72[c6], extras_len _ (List.getElem_mem h6), ?_⟩
    have z8 : 8 ≤ sizeLine := sizes (by decide)
    have hx : ixD (.list (extras72.map .str)) (.int (c6 : Int)) = .ok (.str extras72[c6]) := by
      rw [ixD_list, atI_cast, List.getElem?_map, List.getElem?_eq_getElem h6]
      rfl
    rw [← hρ]
    simp only [m2_eq, m1_eq, mB_eq, asB_bool, tru_eq, truD_bool, truD_int, truD_list, truD_tuple, truD_none, andB_eq, orB_eq, notB_eq, andD_eq, orD_eq, notD_eq, ifD_eq, chD_eq, cI_eq, cB_eq, cS_eq, cN_eq, nilA_eq, consA_eq, tupD_eq, lstF_eq, asL_eq, cD_eq, cF_eq, m2F_eq, noP_eq, someP_eq, asI_int, m3S_eq, seqM_eq, seqO_list, seqO_tuple, borB_eq, borD_eq, borF_eq, flatO_int, flatO_bool, flatO_str, flatO_none, yesB_eq, addD_int, subD_int, iaddD_int, isubD_int, mulD_int, fdivD_int, modD_int, negD_int, ltD_int, leD_int, gtD_int, geD_int, eqD_int, neD_int, slD_list, slF_list, intD_int, intD_bool, lenD_list, lenD_tuple, absD_int, listF_list, tupleD_list, rd, List.getElem?_cons_succ, List.getElem?_cons_zero, List.set_cons_succ, List.set_cons_zero, Out.ok_bind, List.length_cons, List.length_nil, decide_true, decide_false, Bool.not_true, Bool.not_false, ↓reduceIte, e1, i1, modD_pos (show (0 : Int) < 8 by decide), g6, if_pos (show 0 + 1 + 1 + 1 + 1 + 1 + 1 + 1 + 1 ≤ sizeLine from z8)]
    exact hx
  have cnd : ∀ j : Int, mB (m2 eqD (rd 6) (cI j)) ρ = .ok (decide ((c2 : Int) = j)) := fun j => by rw [← hρ]; simp only [m2_eq, m1_eq, mB_eq, asB_bool, tru_eq, truD_bool, truD_int, truD_list, truD_tuple, truD_none, andB_eq, orB_eq, notB_eq, andD_eq, orD_eq, notD_eq, ifD_eq, chD_eq, cI_eq, cB_eq, cS_eq, cN_eq, nilA_eq, consA_eq, tupD_eq, lstF_eq, asL_eq, cD_eq, cF_eq, m2F_eq, noP_eq, someP_eq, asI_int, m3S_eq, seqM_eq, seqO_list, seqO_tuple, borB_eq, borD_eq, borF_eq, flatO_int, flatO_bool, flatO_str, flatO_none, yesB_eq, addD_int, subD_int, iaddD_int, isubD_int, mulD_int, fdivD_int, modD_int, negD_int, ltD_int, leD_int, gtD_int, geD_int, eqD_int, neD_int, slD_list, slF_list, intD_int, intD_bool, lenD_list, lenD_tuple, absD_int, listF_list, tupleD_list, rd, List.getElem?_cons_succ, List.getElem?_cons_zero, List.set_cons_succ, List.set_cons_zero, Out.ok_bind, List.length_cons, List.length_nil, decide_true, decide_false, Bool.not_true, Bool.not_false, ↓reduceIte]
  have q4 : (m2 modD (m2 ixD (rd 1) (rd 2)) (m2 addD (cD lenD (consA (rd 0) nilA)) (cI 1))) [.sh (.str s), .sh (.list (il l)), .sh (.int ((3 * k : Nat) : Int)), .sh (.str "0123456789 \n-/abfilnostu"), .un, .un, .un] = .ok (.int (c0 : Int)) := by
    simp only [m2_eq, m1_eq, mB_eq, asB_bool, tru_eq, truD_bool, truD_int, truD_list, truD_tuple, truD_none, andB_eq, orB_eq, notB_eq, andD_eq, orD_eq, notD_eq, ifD_eq, chD_eq, cI_eq, cB_eq, cS_eq, cN_eq, nilA_eq, consA_eq, tupD_eq, lstF_eq, asL_eq, cD_eq, cF_eq, m2F_eq, noP_eq, someP_eq, asI_int, m3S_eq, seqM_eq, seqO_list, seqO_tuple, borB_eq, borD_eq, borF_eq, flatO_int, flatO_bool, flatO_str, flatO_none, yesB_eq, addD_int, subD_int, iaddD_int, isubD_int, mulD_int, fdivD_int, modD_int, negD_int, ltD_int, leD_int, gtD_int, geD_int, eqD_int, neD_int, slD_list, slF_list, intD_int, intD_bool, lenD_list, lenD_tuple, absD_int, listF_list, tupleD_list, rd, List.getElem?_cons_succ, List.getElem?_cons_zero, List.set_cons_succ, List.set_cons_zero, Out.ok_bind, List.length_cons, List.length_nil, decide_true, decide_false, Bool.not_true, Bool.not_false, ↓reduceIte, i0, hlen, modD_pos (show (0 : Int) < (s.length : Int) + 1 by omega), g0]
  have q5 : (m2 ixD (rd 3) (m2 modD (m2 ixD (rd 1) (m2 addD (rd 2) (cI 1))) (cD lenD (consA (rd 3) nilA)))) [.sh (.str s), .sh (.list (il l)), .sh (.int ((3 * k : Nat) : Int)), .sh (.str "0123456789 \n-/abfilnostu"), .sh (.int (c0 : Int)), .un, .un] = .ok (.str ⟨#[sg]⟩) := by
    have h24 : modD (.int (dr (3 * k + 1))) (.int ((24 : Nat) : Int)) = .ok (.int (c1 : Int)) := by rw [modD_pos (by decide)]; exact congrArg (fun x => Out.ok (PyData.int x)) g1
    simp only [m2_eq, cD_eq, consA_eq, nilA_eq, cI_eq, rd, List.getElem?_cons_succ, List.getElem?_cons_zero, Out.ok_bind, addD_int, e1, i1, hlen2, h24]
    exact hsg
  have q6 : (m2 modD (m2 ixD (rd 1) (m2 addD (rd 2) (cI 2))) (cI 8)) [.sh (.str s), .sh (.list (il l)), .sh (.int ((3 * k : Nat) : Int)), .sh (.str "0123456789 \n-/abfilnostu"), .sh (.int (c0 : Int)), .sh (.str ⟨#[sg]⟩), .un] = .ok (.int (c2 : Int)) := by
    simp only [m2_eq, m1_eq, mB_eq, asB_bool, tru_eq, truD_bool, truD_int, truD_list, truD_tuple, truD_none, andB_eq, orB_eq, notB_eq, andD_eq, orD_eq, notD_eq, ifD_eq, chD_eq, cI_eq, cB_eq, cS_eq, cN_eq, nilA_eq, consA_eq, tupD_eq, lstF_eq, asL_eq, cD_eq, cF_eq, m2F_eq, noP_eq, someP_eq, asI_int, m3S_eq, seqM_eq, seqO_list, seqO_tuple, borB_eq, borD_eq, borF_eq, flatO_int, flatO_bool, flatO_str, flatO_none, yesB_eq, addD_int, subD_int, iaddD_int, isubD_int, mulD_int, fdivD_int, modD_int, negD_int, ltD_int, leD_int, gtD_int, geD_int, eqD_int, neD_int, slD_list, slF_list, intD_int, intD_bool, lenD_list, lenD_tuple, absD_int, listF_list, tupleD_list, rd, List.getElem?_cons_succ, List.getElem?_cons_zero, List.set_cons_succ, List.set_cons_zero, Out.ok_bind, List.length_cons, List.length_nil, decide_true, decide_false, Bool.not_true, Bool.not_false, ↓reduceIte, e2, i2, modD_pos (show (0 : Int) < 8 by decide), g2]
  have run : ∀ n, n ≤ 100000 → (∃ z : Str, z.length ≤ n ∧ (seqS (ifS (mB (m2 eqD (rd 6) (cI 0)))
    (retS (m2 addD (m3S slD (rd 0) (someP (cI 0)) (someP (rd 4))) (m3S slD (rd 0) (someP (m2 addD (rd 4) (cI 1))) noP)))
    .nx)
    (seqS (ifS (mB (m2 eqD (rd 6) (cI 1)))
    (retS (m2 addD (m2 addD (m3S slD (rd 0) (someP (cI 0)) (someP (rd 4))) (rd 5)) (m3S slD (rd 0) (someP (m2 addD (rd 4) (cI 1))) noP)))
    .nx)
    (seqS (ifS (mB (m2 eqD (rd 6) (cI 2)))
    (retS (m3S slD (rd 0) (someP (cI 0)) (someP (rd 4))))
    .nx)
    (seqS (ifS (mB (m2 eqD (rd 6) (cI 3)))
    (retS (m2 addD (rd 0) (rd 5)))
    .nx)
    (seqS (ifS (mB (m2 eqD (rd 6) (cI 4)))
    (retS (m2 addD (rd 5) (rd 0)))
    .nx)
    (seqS (ifS (mB (m2 eqD (rd 6) (cI 5)))
    (retS (m2 addD (m3S slD (rd 0) (someP (cI 0)) (someP (rd 4))) (m3S slD (rd 0) (someP (m2 modD (m2 ixD (rd 1) (m2 addD (rd 2) (cI 1))) (m2 addD (cD lenD (consA (rd 0) nilA)) (cI 1)))) noP)))
    .nx)
    (seqS (ifS (mB (m2 eqD (rd 6) (cI 6)))
    (retS (m2 addD (m2 addD (m3S slD (rd 0) (someP (cI 0)) (someP (rd 4))) (m2 ixD (asL (lstF (consA (cS " 0") (consA (cS " 12") (consA (cS "\n") (consA (cS "stone 1 2\n") (consA (cS "field 1\n") (consA (cS "/2") (consA (cS "-") (consA (cS "  ") nilA)))))))))) (m2 modD (m2 ixD (rd 1) (m2 addD (rd 2) (cI 1))) (cI 8)))) (m3S slD (rd 0) (someP (rd 4)) noP)))
    .nx)
    (retS (m2 addD (m2 addD (m3S slD (rd 0) (someP (cI 0)) (someP (rd 4))) (rd 5)) (m3S slD (rd 0) (someP (rd 4)) noP)))))))))) ρ = .rt (.str z)) → ∃ z : Str, z.length ≤ 100000 ∧ F__law_bent_string [.str s, .list (il l), .int ((3 * k : Nat) : Int)] = .ok (.str z) := fun n hn ⟨z, hz, h⟩ => by
    refine ⟨z, by omega, runD_rt ?_ rfl⟩
    unfold m__law_bent_string
    refine (seqS_nx (setS_go (d := .str "0123456789 \n-/abfilnostu") rfl)).trans ?_
    refine (seqS_nx (setS_go (d := .int (c0 : Int)) q4)).trans ?_
    refine (seqS_nx (setS_go (d := .str ⟨#[sg]⟩) q5)).trans ?_
    refine (seqS_nx (setS_go (d := .int (c2 : Int)) q6)).trans ?_
    rw [← hρ] at h
    exact h
  have no : ∀ (j : Int) {m m' : MS}, ¬ (c2 : Int) = j → seqS (ifS (mB (m2 eqD (rd 6) (cI j))) m .nx) m' ρ = m' ρ := fun j m m' h => seqS_nx (ifS_f ((cnd j).trans (by rw [decide_eq_false h])) rfl)
  have ya : ∀ (j : Int) {m : MD} {m' : MS} {d : PyData}, (c2 : Int) = j → m ρ = .ok d → seqS (ifS (mB (m2 eqD (rd 6) (cI j))) (retS m) .nx) m' ρ = .rt d := fun j m m' d h e => seqS_rt (ifS_t ((cnd j).trans (by rw [decide_eq_true h])) (retS_go e))
  by_cases h0 : (c2 : Int) = 0
  · obtain ⟨z, h1, h2⟩ := ad _ _ _ _ sA sB (by decide)
    exact run _ (by decide) ⟨z, h1, ya 0 h0 h2⟩
  by_cases h1 : (c2 : Int) = 1
  · obtain ⟨z, q1, q2⟩ := ad _ _ _ _ (ad _ _ _ _ sA sG (by decide)) sB (by decide)
    exact run _ (by decide) ⟨z, q1, (no 0 h0).trans (ya 1 h1 q2)⟩
  by_cases h2 : (c2 : Int) = 2
  · obtain ⟨z, q1, q2⟩ := sA
    exact run _ (by decide) ⟨z, q1, (no 0 h0).trans ((no 1 h1).trans (ya 2 h2 q2))⟩
  by_cases h3 : (c2 : Int) = 3
  · obtain ⟨z, q1, q2⟩ := ad _ _ _ _ sS sG (by decide)
    exact run _ (by decide) ⟨z, q1, (no 0 h0).trans ((no 1 h1).trans ((no 2 h2).trans (ya 3 h3 q2)))⟩
  by_cases h4 : (c2 : Int) = 4
  · obtain ⟨z, q1, q2⟩ := ad _ _ _ _ sG sS (by decide)
    exact run _ (by decide) ⟨z, q1, (no 0 h0).trans ((no 1 h1).trans ((no 2 h2).trans ((no 3 h3).trans (ya 4 h4 q2))))⟩
  by_cases h5 : (c2 : Int) = 5
  · obtain ⟨z, q1, q2⟩ := ad _ _ _ _ sA sD (by decide)
    exact run _ (by decide) ⟨z, q1, (no 0 h0).trans ((no 1 h1).trans ((no 2 h2).trans ((no 3 h3).trans ((no 4 h4).trans (ya 5 h5 q2)))))⟩
  by_cases h6 : (c2 : Int) = 6
  · obtain ⟨z, q1, q2⟩ := ad _ _ _ _ (ad _ _ _ _ sA sE (by decide)) sC (by decide)
    exact run _ (by decide) ⟨z, q1, (no 0 h0).trans ((no 1 h1).trans ((no 2 h2).trans ((no 3 h3).trans ((no 4 h4).trans ((no 5 h5).trans (ya 6 h6 q2))))))⟩
  · obtain ⟨z, q1, q2⟩ := ad _ _ _ _ (ad _ _ _ _ sA sG (by decide)) sC (by decide)
    exact run _ (by decide) ⟨z, q1, (no 0 h0).trans ((no 1 h1).trans ((no 2 h2).trans ((no 3 h3).trans ((no 4 h4).trans ((no 5 h5).trans ((no 6 h6).trans (retS_go q2)))))))⟩
end bentB

end
end Lw
namespace Lw
noncomputable section
open PySem PySem.Spec PyProof.Rows L2 DL
/-! lists of texts -/
section odd72
open HT TL
def IsTx (d : PyData) : Prop := ∃ z : Str, d = .str z ∧ z.length ≤ 100000
def TxL (ml : ML) (ρ : Ro) (n : Nat) : Prop := ∃ ds : List PyData, ml ρ = .ok ds ∧ ds.length = n ∧ ∀ d ∈ ds, IsTx d
theorem tx_nil {ρ : Ro} : TxL nilA ρ 0 := ⟨[], rfl, rfl, by simp⟩
theorem tx_s {ml : ML} {ρ : Ro} {n : Nat} (z : Str) (hz : z.length ≤ 100000) (h : TxL ml ρ n) : TxL (consA (cS z) ml) ρ (n + 1) := by
  obtain ⟨ds, h1, h2, h3⟩ := h
  refine ⟨.str z :: ds, by rw [consA_eq, cS_eq, Out.ok_bind, h1]; rfl, by rw [List.length_cons, h2], fun d hd => ?_⟩
  rcases List.mem_cons.mp hd with rfl | hd
  · exact ⟨z, rfl, hz⟩
  · exact h3 d hd
theorem tx_m {ml : ML} {ρ : Ro} {n : Nat} (a b : Str) (k : Nat) (ha : a.length ≤ 100) (hb : b.length ≤ 100) (hk : k ≤ 100) (h : TxL ml ρ n) : TxL (consA (m2 addD (cS a) (m2 mulT (cS b) (cI (k : Int)))) ml) ρ (n + 1) := by
  obtain ⟨ds, h1, h2, h3⟩ := h
  have hm : MulOk b (k : Int) := mulOk_of 100 100 hb (by omega) (by omega) (by decide) (by decide)
  have hl : (Txt.mul b (k : Int)).length ≤ 100 * 100 := len_mul_leN hb (by omega)
  have e : m2 addD (cS a) (m2 mulT (cS b) (cI (k : Int))) ρ = .ok (.str (a ++ Txt.mul b (k : Int))) := by
    rw [m2_eq, m2_eq, cS_eq, cS_eq, cI_eq, Out.ok_bind, Out.ok_bind, Out.ok_bind]
    show ((if MulOk b (k : Int) then Out.ok (PyData.str (Txt.mul b (k : Int))) else .no) >>= fun e => addD (.str a) e) = _
    rw [if_pos hm, Out.ok_bind, add_str (by omega)]
  refine ⟨.str (a ++ Txt.mul b (k : Int)) :: ds, by rw [consA_eq, e, Out.ok_bind, h1]; rfl, by rw [List.length_cons, h2], fun d hd => ?_⟩
  rcases List.mem_cons.mp hd with rfl | hd
  · exact ⟨_, rfl, by rw [len_app]; omega⟩
  · exact h3 d hd
theorem tx_add {ma : MD} {ml : ML} {ρ : Ro} {n : Nat} {ds : List PyData} (ha : ma ρ = .ok (.list ds)) (hd : ∀ d ∈ ds, IsTx d) (hn : ds.length ≤ 1000) (h : TxL ml ρ n) (hn2 : n ≤ 1000) : ∃ es : List PyData, m2 addD ma (asL (lstF ml)) ρ = .ok (.list es) ∧ es.length = ds.length + n ∧ ∀ d ∈ es, IsTx d := by
  obtain ⟨ds2, h1, h2, h3⟩ := h
  refine ⟨ds ++ ds2, ?_, by rw [List.length_append, h2], fun d hd' => ?_⟩
  · rw [m2_eq, ha, Out.ok_bind, asL_eq, lstF_eq, h1, Out.ok_bind, if_pos (sizes (by omega)), Out.ok_bind, Out.ok_bind, addD_list, if_pos (sizes (by omega))]
  · rcases List.mem_append.mp hd' with h | h
    · exact hd d h
    · exact h3 d h
theorem tx_lst {ml : ML} {ρ : Ro} {n : Nat} (h : TxL ml ρ n) (hn2 : n ≤ 1000) : ∃ es : List PyData, asL (lstF ml) ρ = .ok (.list es) ∧ es.length = n ∧ ∀ d ∈ es, IsTx d := by
  obtain ⟨ds2, h1, h2, h3⟩ := h
  exact ⟨ds2, by rw [asL_eq, lstF_eq, h1, Out.ok_bind, if_pos (sizes (by omega))]; rfl, h2, h3⟩
def odd1 : MD := (asL (lstF (consA (cS "") (consA (cS "\n") (consA (cS "0") (consA (cS "-0") (consA (cS "00") (consA (cS "1/1") (consA (cS "2/4") (consA (cS "3/2") (consA (cS "-3/2") (consA (cS "3/-2") (consA (cS "0/5") (consA (cS "1/0") (consA (cS "1/2/3") (consA (cS "/") (consA (cS "1/") (consA (cS "/2") (consA (cS " 1") (consA (cS "1 ") (consA (cS "field 0\n") (consA (cS "field 1\n") (consA (cS "field 1\nstone 0 0\n") nilA)))))))))))))))))))))))
theorem odd1_ok (ρ : Ro) : ∃ es : List PyData, odd1 ρ = .ok (.list es) ∧ es.length = 21 ∧ ∀ d ∈ es, IsTx d := by
  unfold odd1
  refine tx_lst ?_ (by decide)
  iterate 21 refine tx_s _ (by decide +kernel) ?_
  exact tx_nil
def odd2 : MD := (m2 addD (rd 9) (asL (lstF (consA (cS "field 1\nstone 0 0") (consA (cS "field 1\nstone 0\n") (consA (cS "field 1\nstone 0 0 0\n") nilA))))))
theorem odd2_ok {ρ : Ro} {ds : List PyData} (h : rd 9 ρ = .ok (.list ds)) (hd : ∀ d ∈ ds, IsTx d) (hn : ds.length ≤ 1000) : ∃ es : List PyData, odd2 ρ = .ok (.list es) ∧ es.length = ds.length + 3 ∧ ∀ d ∈ es, IsTx d := by
  unfold odd2
  refine tx_add h hd hn ?_ (by decide)
  iterate 3 refine tx_s _ (by decide +kernel) ?_
  exact tx_nil
def odd3 : MD := (m2 addD (rd 9) (asL (lstF (consA (cS "field 1\nstone 1001 0\n") (consA (cS "field 1\nstone -1000 1000\n") (consA (cS "field 2\nstone 0 0\n") (consA (cS "field 1\nstone 0 0\nstone 0 0\n") (consA (m2 addD (cS "field 12\n") (m2 mulT (cS "stone 0 0\n") (cI 12))) nilA))))))))
theorem odd3_ok {ρ : Ro} {ds : List PyData} (h : rd 9 ρ = .ok (.list ds)) (hd : ∀ d ∈ ds, IsTx d) (hn : ds.length ≤ 1000) : ∃ es : List PyData, odd3 ρ = .ok (.list es) ∧ es.length = ds.length + 5 ∧ ∀ d ∈ es, IsTx d := by
  unfold odd3
  refine tx_add h hd hn ?_ (by decide)
  iterate 4 refine tx_s _ (by decide +kernel) ?_
  exact tx_m _ _ 12 (by decide +kernel) (by decide +kernel) (by decide) tx_nil
def odd4 : MD := (m2 addD (rd 9) (asL (lstF (consA (m2 addD (cS "field 13\n") (m2 mulT (cS "stone 0 0\n") (cI 13))) (consA (cS "land 0\n") (consA (cS "land 1\n") (consA (cS "land 1\nfield 1\nstone 0 0\n") (consA (cS "land 2\nfield 1\nstone 0 0\n") nilA))))))))
theorem odd4_ok {ρ : Ro} {ds : List PyData} (h : rd 9 ρ = .ok (.list ds)) (hd : ∀ d ∈ ds, IsTx d) (hn : ds.length ≤ 1000) : ∃ es : List PyData, odd4 ρ = .ok (.list es) ∧ es.length = ds.length + 5 ∧ ∀ d ∈ es, IsTx d := by
  unfold odd4
  refine tx_add h hd hn (tx_m _ _ 13 (by decide +kernel) (by decide +kernel) (by decide) ?_) (by decide)
  iterate 4 refine tx_s _ (by decide +kernel) ?_
  exact tx_nil
def odd5 : MD := (m2 addD (rd 9) (asL (lstF (consA (m2 addD (cS "land 8\n") (m2 mulT (cS "field 1\nstone 0 0\n") (cI 8))) (consA (m2 addD (cS "land 9\n") (m2 mulT (cS "field 1\nstone 0 0\n") (cI 9))) (consA (cS "land 01\nfield 1\nstone 0 0\n") (consA (cS "land 1\nfield 1\nstone 0 0\n\n") nilA)))))))
theorem odd5_ok {ρ : Ro} {ds : List PyData} (h : rd 9 ρ = .ok (.list ds)) (hd : ∀ d ∈ ds, IsTx d) (hn : ds.length ≤ 1000) : ∃ es : List PyData, odd5 ρ = .ok (.list es) ∧ es.length = ds.length + 4 ∧ ∀ d ∈ es, IsTx d := by
  unfold odd5
  refine tx_add h hd hn (tx_m _ _ 8 (by decide +kernel) (by decide +kernel) (by decide) (tx_m _ _ 9 (by decide +kernel) (by decide +kernel) (by decide) ?_)) (by decide)
  iterate 2 refine tx_s _ (by decide +kernel) ?_
  exact tx_nil
/-! small lands have small texts -/
theorem ftext_small {st : List Pt} (hl : st.length ≤ 5) (h : Sm72 st) : (ftext72 st).length ≤ 394 := by
  have hs := slines_sum st h
  have l1 := line_len (w := "field") (count_sm (n := st.length) (by omega))
  have l2 := join0_len (st.map sline72)
  rw [field_len] at l1
  unfold ftext72
  rw [len_app]
  simp only [List.length_cons, List.length_nil] at l1
  omega
theorem ltext_small {fs : List (List Pt)} (hl : fs.length ≤ 3) (h : ∀ f ∈ fs, f.length ≤ 5 ∧ Sm72 f) : (ltext72 fs).length ≤ 1300 := by
  have hs : ∀ fs : List (List Pt), (∀ f ∈ fs, f.length ≤ 5 ∧ Sm72 f) → ((fs.map ftext72).map (·.length)).sum ≤ 394 * fs.length := fun fs => by
    induction fs with
    | nil => intro _; simp
    | cons f fs ih =>
      intro h
      have h1 := ih fun g hg => h g (List.mem_cons_of_mem _ hg)
      have h2 := ftext_small (h f List.mem_cons_self).1 (h f List.mem_cons_self).2
      rw [List.map_cons, List.map_cons, List.sum_cons, List.length_cons]
      omega
  have hs := hs fs h
  have l1 := line_len (w := "land") (count_sm (n := fs.length) (by omega))
  have l2 := join0_len (fs.map ftext72)
  rw [land_len] at l1
  unfold ltext72
  rw [len_app]
  simp only [List.length_cons, List.length_nil] at l1
  omega
theorem ftxt_small {a b : Int} (ha : a.natAbs < 10 ^ 30) (hb : b.natAbs < 10 ^ 30) : (ftxt72 (a, b)).length ≤ 1300 := by
  have la := txt_len ha
  have lb := txt_len hb
  unfold ftxt72
  dsimp only
  split
  · omega
  · rw [len_app, len_app, slash_len]; omega
end odd72

end
end Lw
namespace Lw
noncomputable section
open PySem PySem.Spec PyProof.Rows L2 DL
/-! the law -/
section law72
open HT TL
theorem forD_tx {b : MS} {a0 a1 a2 a3 a4 a5 a6 a7 a8 a9 a10 a13 : Sl} (H : ∀ z : Str, z.length ≤ 100000 → ∀ s12, ∃ t12, b [a0, a1, a2, a3, a4, a5, a6, a7, a8, a9, a10, .sh (.str z), s12, a13] = .nx [a0, a1, a2, a3, a4, a5, a6, a7, a8, a9, a10, .sh (.str z), t12, a13]) :
    ∀ (ds : List PyData), (∀ d ∈ ds, IsTx d) → ∀ s11 s12, ∃ t11 t12, forD (gN 11) b ds [a0, a1, a2, a3, a4, a5, a6, a7, a8, a9, a10, s11, s12, a13] = .nx [a0, a1, a2, a3, a4, a5, a6, a7, a8, a9, a10, t11, t12, a13]
  | [], _, s11, s12 => ⟨s11, s12, rfl⟩
  | d :: ds, h, s11, s12 => by
    obtain ⟨z, rfl, hz⟩ := h d List.mem_cons_self
    obtain ⟨t, e⟩ := H z hz s12
    obtain ⟨t11, t12, e2⟩ := forD_tx H ds (fun x hx => h x (List.mem_cons_of_mem _ hx)) (.sh (.str z)) t
    exact ⟨t11, t12, (forD_nx rfl e).trans e2⟩
theorem field_ok {ls : List Str} {x : List Pt × List Str} (h : field72 ls = some x) : Field72 x.1 := by
  unfold field72 at h
  split at h
  · cases h
  · split at h
    · split at h
      · split at h
        · split at h
          · cases h
            assumption
          · cases h
        · cases h
      · cases h
    · cases h
theorem fields_ok : ∀ (n : Nat) {ls : List Str} {y : List (List Pt) × List Str}, fields72 n ls = some y → y.1.length = n ∧ ∀ f ∈ y.1, Field72 f
  | 0, ls, y, h => by cases h; exact ⟨rfl, by simp⟩
  | n + 1, ls, y, h => by
    unfold fields72 at h
    split at h
    · rename_i x hx
      split at h
      · rename_i z hz
        cases h
        obtain ⟨a, b⟩ := fields_ok n hz
        refine ⟨by simp [a], fun f hf => ?_⟩
        rcases List.mem_cons.mp hf with rfl | hf
        · exact field_ok hx
        · exact b f hf
      · cases h
    · cases h
theorem rfield_ok {s : Str} {l : List Pt} (h : rfield72 s = some l) : Field72 l := by
  unfold rfield72 at h
  split at h
  · split at h
    · rename_i x hx
      split at h
      · cases h; exact field_ok hx
      · cases h
    · cases h
  · cases h
theorem rland_ok {s : Str} {fs : List (List Pt)} (h : rland72 s = some fs) : fs.length ≤ 8 ∧ ∀ f ∈ fs, Field72 f := by
  unfold rland72 land72 at h
  split at h
  · split at h
    · cases h
    · split at h
      · split at h
        · rename_i n hn
          split at h
          · rename_i y hy
            split at h
            · cases h
              obtain ⟨a, b⟩ := fields_ok _ hy
              exact ⟨by omega, b⟩
            · cases h
          · cases h
        · cases h
      · cases h
  · cases h
theorem sameT_pd (k : Nat) (a b : Int) : sameT (k + 2) (.tuple [.int a, .int b]) := ⟨by simp, fun e he => by
    simp only [List.mem_cons, List.not_mem_nil, or_false] at he
    rcases he with rfl | rfl <;> trivial⟩
theorem sameT_pl (k : Nat) {l : List Pt} (h : l.length ≤ 1000000) : sameT (k + 3) (.list (pl l)) := ⟨by rw [pl_len]; omega, fun e he => by
    obtain ⟨p, _, rfl⟩ := mem_pl he
    exact sameT_pd k p.1 p.2⟩
theorem sameT_ll (k : Nat) {fs : List (List Pt)} (h : fs.length ≤ 1000000) (h2 : ∀ f ∈ fs, f.length ≤ 1000000) : sameT (k + 4) (.list (ll72 fs)) := ⟨by unfold ll72; rw [List.length_map]; omega, fun e he => by
    obtain ⟨f, hf, rfl⟩ := List.mem_map.mp he
    exact sameT_pl k (h2 f hf)⟩
theorem sameT_told (f : Nat) (s : Str) : sameT 6 (told72 f s) := by
  have ho : ∀ o : Option PyData, (∀ d, o = some d → sameT 5 d) → sameT 6 (opt72 o) := fun o h => by
    cases o with
    | none => trivial
    | some d => exact ⟨by simp, fun e he => by rw [List.mem_singleton] at he; subst he; exact h e rfl⟩
  unfold told72
  split
  · refine ho _ fun d hd => ?_
    obtain ⟨p, _, rfl⟩ := Option.map_eq_some_iff.mp hd
    exact sameT_pd 3 _ _
  · refine ho _ fun d hd => ?_
    obtain ⟨l, hl, rfl⟩ := Option.map_eq_some_iff.mp hd
    exact sameT_pl 2 (by have := (rfield_ok hl).2.2; omega)
  · refine ho _ fun d hd => ?_
    obtain ⟨l, hl, rfl⟩ := Option.map_eq_some_iff.mp hd
    have := rland_ok hl
    exact sameT_ll 1 (by omega) fun f hf => by have := (this.2 f hf).2.2; omega
def askB : MS := (forS (cF rng1 (consA (cI 3) nilA)) (gN 12)
    (ifS (notB (tru (cD (F__law_same 6) (consA (cD F__law_told (consA (rd 12) (consA (rd 11) nilA))) (consA (cD F__law_due (consA (rd 12) (consA (rd 11) nilA))) nilA)))))
    (retS (cB false))
    .nx))
theorem ask_ok (a0 a1 a2 a3 a4 a5 a6 a7 a8 a9 a10 a13 : Sl) (z : Str) (hz : z.length ≤ 100000) (s12 : Sl) : ∃ t12, askB [a0, a1, a2, a3, a4, a5, a6, a7, a8, a9, a10, .sh (.str z), s12, a13] = .nx [a0, a1, a2, a3, a4, a5, a6, a7, a8, a9, a10, .sh (.str z), t12, a13] := by
  have step : ∀ f : Nat, f < 3 → (ifS (notB (tru (cD (F__law_same 6) (consA (cD F__law_told (consA (rd 12) (consA (rd 11) nilA))) (consA (cD F__law_due (consA (rd 12) (consA (rd 11) nilA))) nilA)))))
    (retS (cB false))
    .nx) [a0, a1, a2, a3, a4, a5, a6, a7, a8, a9, a10, .sh (.str z), .sh (.int (f : Int)), a13] = .nx [a0, a1, a2, a3, a4, a5, a6, a7, a8, a9, a10, .sh (.str z), .sh (.int (f : Int)), a13] := fun f hf => by
    refine ifS_f ?_ rfl
    simp only [m2_eq, m1_eq, mB_eq, asB_bool, tru_eq, truD_bool, truD_int, truD_list, truD_tuple, truD_none, andB_eq, orB_eq, notB_eq, andD_eq, orD_eq, notD_eq, ifD_eq, chD_eq, cI_eq, cB_eq, cS_eq, cN_eq, nilA_eq, consA_eq, tupD_eq, lstF_eq, asL_eq, cD_eq, cF_eq, m2F_eq, noP_eq, someP_eq, asI_int, m3S_eq, seqM_eq, seqO_list, seqO_tuple, borB_eq, borD_eq, borF_eq, flatO_int, flatO_bool, flatO_str, flatO_none, yesB_eq, addD_int, subD_int, iaddD_int, isubD_int, mulD_int, fdivD_int, modD_int, negD_int, ltD_int, leD_int, gtD_int, geD_int, eqD_int, neD_int, slD_list, slF_list, intD_int, intD_bool, lenD_list, lenD_tuple, absD_int, listF_list, tupleD_list, rd, List.getElem?_cons_succ, List.getElem?_cons_zero, List.set_cons_succ, List.set_cons_zero, Out.ok_bind, List.length_cons, List.length_nil, decide_true, decide_false, Bool.not_true, Bool.not_false, ↓reduceIte, F_ltold_ok hf hz, F_ldue_ok hf hz, F_sameT 6 _ (sameT_told f z)]
  refine ⟨.sh (.int ((2 : Nat) : Int)), ?_⟩
  unfold askB
  refine forS_go (ds := [.int ((0 : Nat) : Int), .int ((1 : Nat) : Int), .int ((2 : Nat) : Int)]) ?_ ?_
  · simp only [m2_eq, m1_eq, mB_eq, asB_bool, tru_eq, truD_bool, truD_int, truD_list, truD_tuple, truD_none, andB_eq, orB_eq, notB_eq, andD_eq, orD_eq, notD_eq, ifD_eq, chD_eq, cI_eq, cB_eq, cS_eq, cN_eq, nilA_eq, consA_eq, tupD_eq, lstF_eq, asL_eq, cD_eq, cF_eq, m2F_eq, noP_eq, someP_eq, asI_int, m3S_eq, seqM_eq, seqO_list, seqO_tuple, borB_eq, borD_eq, borF_eq, flatO_int, flatO_bool, flatO_str, flatO_none, yesB_eq, addD_int, subD_int, iaddD_int, isubD_int, mulD_int, fdivD_int, modD_int, negD_int, ltD_int, leD_int, gtD_int, geD_int, eqD_int, neD_int, slD_list, slF_list, intD_int, intD_bool, lenD_list, lenD_tuple, absD_int, listF_list, tupleD_list, rd, List.getElem?_cons_succ, List.getElem?_cons_zero, List.set_cons_succ, List.set_cons_zero, Out.ok_bind, List.length_cons, List.length_nil, decide_true, decide_false, Bool.not_true, Bool.not_false, ↓reduceIte, rng1_lit 3 (by decide)]
    rfl
  · exact (forD_nx rfl (step 0 (by decide))).trans ((forD_nx rfl (step 1 (by decide))).trans ((forD_nx rfl (step 2 (by decide))).trans rfl))
theorem told3S_nx {i : Nat} {m0 : MD} {f1 f2 : Ro → Out (List PyData)} {mt : MB} {mr : MS} {ρ : Ro} {d : PyData} {xs ys : List PyData} (hi : i < ρ.length) (h0 : m0 ρ = .ok d) (h1 : f1 ρ = .ok xs) (h2 : f2 ρ = .ok ys) (h3 : mt (ρ.set i (.sh (.list [d, .list xs, .list ys]))) = .ok false) (b1 : xs.length < sizeLine) (b2 : ys.length < sizeLine) : told3S i m0 f1 f2 mt mr ρ = .nx (ρ.set i .un) := by
  unfold told3S
  rw [if_pos hi, h0]
  dsimp only
  rw [h1]
  dsimp only
  rw [h2]
  dsimp only
  rw [h3]
  dsimp only
  rw [if_pos ⟨b1, b2⟩]
theorem bx_near {p : Pt} (h : Bx p) : Near72 p := ⟨⟨by have := h.1; omega, by have := h.1; omega⟩, ⟨by have := h.2; omega, by have := h.2; omega⟩⟩
theorem F_law_ok (ns : List Int) : F_law [roD (ns.map .int)] = .ok (.bool true) := by
  have z0 : 0 ≤ sizeLine := sizes (by decide)
  have z1 : 1 ≤ sizeLine := sizes (by decide)
  have z2 : 2 ≤ sizeLine := sizes (by decide)
  have z3 : 3 ≤ sizeLine := sizes (by decide)
  obtain ⟨l, hl, hnum⟩ := F_numbers (cellOf ns 0) 8 5040 (by decide) (by decide) (by decide)
  obtain ⟨dr, D⟩ := hl.dr
  obtain ⟨cl, hcl, cnum⟩ := F_numbers (cellOf ns 4) 60 5040 (by decide) (by decide) (by decide)
  obtain ⟨cr, E⟩ := hcl.dr
  obtain ⟨c0, g0, l0⟩ := mods (dr 0) 81 (by decide)
  obtain ⟨c1, g1, l1⟩ := mods (dr 1) 2 (by decide)
  obtain ⟨c2, g2, l2⟩ := mods (dr 2) 30 (by decide)
  obtain ⟨c4, g4, l4⟩ := mods (dr 4) 3 (by decide)
  obtain ⟨c5, g5, l5⟩ := mods (dr 5) 3 (by decide)
  have i0 := D.ix0 (by decide)
  have i1 := D.ix1 (by decide)
  have i2 : ixD (.list (il l)) (.int 2) = .ok (.int (dr 2)) := D.ix (k := 2) (by decide)
  have i3 : ixD (.list (il l)) (.int 3) = .ok (.int (dr 3)) := D.ix (k := 3) (by decide)
  have i4 : ixD (.list (il l)) (.int 4) = .ok (.int (dr 4)) := D.ix (k := 4) (by decide)
  have i5 : ixD (.list (il l)) (.int 5) = .ok (.int (dr 5)) := D.ix (k := 5) (by decide)
  have b3 := D.b 3 (by decide)
  have hp9 : powD (.int 10) (.int 9) = .ok (.int 1000000000) := by
    have : CPow 10 9 := by unfold CPow; decide
    rw [powD_int, if_pos this]
    rfl
  obtain ⟨m, hm, hm2⟩ : ∃ m : Int, (m = 1 ∨ m = 1000000000) ∧ ixD (.list [.int 1, .int 1000000000]) (.int (c1 : Int)) = .ok (.int m) := by
    have : c1 = 0 ∨ c1 = 1 := by omega
    rcases this with rfl | rfl
    · exact ⟨1, .inl rfl, rfl⟩
    · exact ⟨1000000000, .inr rfl, rfl⟩
  obtain ⟨b, hb, hb1, hb2⟩ : ∃ b : Int, 0 < b ∧ b ≤ 1000005040 ∧ ixD (.list [.int 1, .int (1 + (c2 : Int)), .int (1000000000 + dr 3)]) (.int (c4 : Int)) = .ok (.int b) := by
    have : c4 = 0 ∨ c4 = 1 ∨ c4 = 2 := by omega
    rcases this with rfl | rfl | rfl
    · exact ⟨1, by decide, by decide, rfl⟩
    · exact ⟨1 + (c2 : Int), by omega, by omega, rfl⟩
    · exact ⟨1000000000 + dr 3, by omega, by omega, rfl⟩
  have mko : mulOk ((c0 : Int) - 40) m := mulOk_ll (by omega) (by omega)
  generalize ht : ((c0 : Int) - 40) * m = t
  have ht2 : t.natAbs ≤ 40000000000 := by rcases hm with rfl | rfl <;> omega
  have h449 : b.natAbs < 2 ^ 449 := Nat.lt_of_lt_of_le (show b.natAbs < 2 ^ 40 by omega) (Nat.pow_le_pow_right (by decide) (by decide))
  have hfr := F_frac t b (by omega) h449
  generalize hr : Rat.divInt t b = r at hfr
  have rn : r.num.natAbs ≤ 40000000000 := by
    rw [← hr, Rat.num_divInt, Int.sign_eq_one_of_pos hb, Int.one_mul]
    exact Nat.le_trans (by
      rw [show t / ((b.gcd t : Nat) : Int) = t / ((b.gcd t : Nat) : Int) from rfl]
      have hd : ((b.gcd t : Nat) : Int) ∣ t := Int.gcd_dvd_right ..
      obtain ⟨q, hq⟩ := hd
      have hg : (0 : Int) < ((b.gcd t : Nat) : Int) := by
        have : 0 < b.gcd t := Int.gcd_pos_of_ne_zero_left _ (by omega)
        omega
      have e : t / ((b.gcd t : Nat) : Int) = q := by
        have := Int.mul_ediv_cancel_left q (show ((b.gcd t : Nat) : Int) ≠ 0 by omega)
        rw [← hq] at this
        exact this
      rw [e]
      have : t.natAbs = ((b.gcd t : Nat) : Int).natAbs * q.natAbs := by
        have := congrArg Int.natAbs hq
        rw [Int.natAbs_mul] at this
        exact this
      rw [this]
      exact Nat.le_mul_of_pos_left _ (by rw [Int.natAbs_natCast]; omega)) ht2
  have rd1 : 0 < r.den := r.den_pos
  have rd2 : r.den ≤ 1000005040 := by
    rw [← hr, Rat.den_divInt, if_neg (by omega)]
    exact Nat.le_trans (Nat.div_le_self _ _) (by omega)
  have ra : r.num.natAbs < 10 ^ 30 := Nat.lt_of_le_of_lt rn (by decide)
  have rb : ((r.den : Nat) : Int).natAbs < 10 ^ 30 := Nat.lt_of_le_of_lt (show ((r.den : Nat) : Int).natAbs ≤ 1000005040 by omega) (by decide)
  have back : frac72 (ftxt72 (r.num, (r.den : Int))) = some (r.num, (r.den : Int)) := by
    unfold ftxt72
    dsimp only
    by_cases h1 : ((r.den : Nat) : Int) = 1
    · rw [if_pos h1, frac_back1 ra, h1]
    · rw [if_neg h1]
      exact frac_back2 ra rb (by omega) r.reduced
  -- the land
  have hst : ∀ k : Nat, ∃ st : List Pt, 1 ≤ st.length ∧ st.length ≤ 5 ∧ (∀ p ∈ st, Bx p) ∧ F__law_field [roD (ns.map .int), .int (((1 + k : Nat)) : Int), .int ((5 : Nat) : Int)] = .ok (.list (pl st)) := fun k => F_field_draw ns (1 + k) 5 (by decide) (by decide)
  obtain ⟨st, hst⟩ := Classical.axiomOfChoice hst
  generalize hla : (List.range (1 + c5)).map st = land
  have la1 : land.length = 1 + c5 := by rw [← hla]; simp
  have la2 : ∀ f ∈ land, 1 ≤ f.length ∧ f.length ≤ 5 ∧ ∀ p ∈ f, Bx p := fun f hf => by
    rw [← hla] at hf
    obtain ⟨k, _, rfl⟩ := List.mem_map.mp hf
    exact ⟨(hst k).1, (hst k).2.1, (hst k).2.2.1⟩
  have laF : ∀ f ∈ land, Field72 f := fun f hf => ⟨fun p hp => bx_near ((la2 f hf).2.2 p hp), (la2 f hf).1, by have := (la2 f hf).2.1; omega⟩
  have laS : ∀ f ∈ land, f.length ≤ 5 ∧ Sm72 f := fun f hf => ⟨(la2 f hf).2.1, fun p hp => near_sm ((laF f hf).1 p hp)⟩
  have la0 : ∃ f0, f0 ∈ land ∧ (ll72 land)[0]? = some (.list (pl f0)) := by
    cases land with
    | nil => simp at la1; omega
    | cons f fs => exact ⟨f, List.mem_cons_self, rfl⟩
  obtain ⟨f0, hf0, ix0⟩ := la0
  have ixl : ixD (.list (ll72 land)) (.int 0) = .ok (.list (pl f0)) := by rw [ixD_list, atI_zero, ix0]
  have wf1 := F_write_fraction_ok ra rb
  have wf2 := F_lfraction_text_ok ra rb
  have wl1 : F_write_field [.list (pl f0)] = .ok (.str (ftext72 f0)) := F_write_field_ok (by have := (laS f0 hf0).1; omega) (laS f0 hf0).2
  have wl2 : F__law_field_text [.list (pl f0)] = .ok (.str (ftext72 f0)) := by rw [field_same]; exact wl1
  have ww1 : F_write_land [.list (ll72 land)] = .ok (.str (ltext72 land)) := (F_write_land_ok (by omega) fun f hf => ⟨by have := (laS f hf).1; omega, (laS f hf).2⟩).1
  have ww2 : F__law_land_text [.list (ll72 land)] = .ok (.str (ltext72 land)) := by rw [land_same]; exact ww1
  have t1 : (ftxt72 (r.num, (r.den : Int))).length ≤ 1300 := ftxt_small ra rb
  have t2 : (ftext72 f0).length ≤ 1300 := by have := ftext_small (laS f0 hf0).1 (laS f0 hf0).2; omega
  have t3 : (ltext72 land).length ≤ 1300 := ltext_small (by omega) laS
  have rf : F_read_fraction [.str (ftxt72 (r.num, (r.den : Int)))] = .ok (fq r) := by rw [F_read_fraction_ok (by omega), back]; rfl
  have rl : F_read_field [.str (ftext72 f0)] = .ok (pl f0) := by rw [F_read_field_ok (by omega), rfield_back (laF f0 hf0)]
  have rw_ : F_read_land [.str (ltext72 land)] = .ok (ll72 land) := by rw [F_read_land_ok (by omega), rland_back laF (by omega) (by omega)]
  -- repr
  have hrep : ReprOk (.tuple [fq r, .list (ll72 land)]) := by
    have p1 : Rp 1968 (fq r) := (rp_tuple (n := 64) (m := 130) (fun d hd => by
      simp only [List.mem_cons, List.not_mem_nil, or_false] at hd
      rcases hd with rfl | rfl
      · exact rp_int (by omega) (by omega)
      · exact rp_int (by omega) (by omega)) (by simp)).mono (by decide)
    have p2 : Rp 1968 (.list (ll72 land)) := rp_list (n := 655) (fun d hd => by
      obtain ⟨f, hf, rfl⟩ := List.mem_map.mp hd
      have hf2 := la2 f hf
      refine rp_list (n := 130) (fun d hd => ?_) (by rw [pl_len]; omega)
      obtain ⟨p, hp, rfl⟩ := mem_pl hd
      have hb := hf2.2.2 p hp
      refine rp_tuple (n := 64) (fun d hd => ?_) (by simp)
      simp only [List.mem_cons, List.not_mem_nil, or_false] at hd
      rcases hd with rfl | rfl
      · exact rp_int (by have := hb.1; omega) (by have := hb.1; omega)
      · exact rp_int (by have := hb.2; omega) (by have := hb.2; omega)) (by unfold ll72; rw [List.length_map]; omega)
    have p3 : Rp 4000 (.tuple [fq r, .list (ll72 land)]) := rp_tuple (n := 1968) (fun d hd => by
      simp only [List.mem_cons, List.not_mem_nil, or_false] at hd
      rcases hd with rfl | rfl
      · exact p1
      · exact p2) (by simp)
    refine reprOk_of p3 (by decide) (k := 4) (shK_tuple fun d hd => ?_) (by decide) (.inr ⟨_, rfl⟩)
    simp only [List.mem_cons, List.not_mem_nil, or_false] at hd
    rcases hd with rfl | rfl
    · exact (shK_fq r).mono (by decide)
    · refine shK_list fun d hd => ?_
      obtain ⟨f, _, rfl⟩ := List.mem_map.mp hd
      exact shK_pl f
  have hrp := reprD_ok hrep
  generalize (PyData.tuple [fq r, .list (ll72 land)]).shown = kept at hrp
  -- the slots
  have q1 : asL (cF F__law_numbers (consA (cD F__law_cell (consA (rd 0) (consA (cI 0) nilA))) (consA (cI 8) (consA (cI 5040) nilA)))) [.sh (roD (ns.map .int)), .un, .un, .un, .un, .un, .un, .un, .un, .un, .un, .un, .un, .un] = .ok (.list (il l)) := by
    have e1 : F__law_cell [roD (ns.map .int), .int 0] = .ok (.int (cellOf ns 0)) := F_cell ns 0
    have e2 : F__law_numbers [.int (cellOf ns 0), .int 8, .int 5040] = .ok (l.map .int) := hnum
    simp only [m2_eq, m1_eq, mB_eq, asB_bool, tru_eq, truD_bool, truD_int, truD_list, truD_tuple, truD_none, andB_eq, orB_eq, notB_eq, andD_eq, orD_eq, notD_eq, ifD_eq, chD_eq, cI_eq, cB_eq, cS_eq, cN_eq, nilA_eq, consA_eq, tupD_eq, lstF_eq, asL_eq, cD_eq, cF_eq, m2F_eq, noP_eq, someP_eq, asI_int, m3S_eq, seqM_eq, seqO_list, seqO_tuple, borB_eq, borD_eq, borF_eq, flatO_int, flatO_bool, flatO_str, flatO_none, yesB_eq, addD_int, subD_int, iaddD_int, isubD_int, mulD_int, fdivD_int, modD_int, negD_int, ltD_int, leD_int, gtD_int, geD_int, eqD_int, neD_int, slD_list, slF_list, intD_int, intD_bool, lenD_list, lenD_tuple, absD_int, listF_list, tupleD_list, rd, List.getElem?_cons_succ, List.getElem?_cons_zero, List.set_cons_succ, List.set_cons_zero, Out.ok_bind, List.length_cons, List.length_nil, decide_true, decide_false, Bool.not_true, Bool.not_false, ↓reduceIte, e1, e2]
    rfl
  have q2 : (cD F__law_frac (consA (m2 mulD (m2 subD (m2 modD (m2 ixD (rd 1) (cI 0)) (cI 81)) (cI 40)) (m2 ixD (asL (lstF (consA (cI 1) (consA (m2 powD (cI 10) (cI 9)) nilA)))) (m2 modD (m2 ixD (rd 1) (cI 1)) (cI 2)))) (consA (m2 ixD (asL (lstF (consA (cI 1) (consA (m2 addD (cI 1) (m2 modD (m2 ixD (rd 1) (cI 2)) (cI 30))) (consA (m2 addD (m2 powD (cI 10) (cI 9)) (m2 ixD (rd 1) (cI 3))) nilA))))) (m2 modD (m2 ixD (rd 1) (cI 4)) (cI 3))) nilA))) [.sh (roD (ns.map .int)), .sh (.list (il l)), .un, .un, .un, .un, .un, .un, .un, .un, .un, .un, .un, .un] = .ok (fq r) := by
    simp only [m2_eq, m1_eq, mB_eq, asB_bool, tru_eq, truD_bool, truD_int, truD_list, truD_tuple, truD_none, andB_eq, orB_eq, notB_eq, andD_eq, orD_eq, notD_eq, ifD_eq, chD_eq, cI_eq, cB_eq, cS_eq, cN_eq, nilA_eq, consA_eq, tupD_eq, lstF_eq, asL_eq, cD_eq, cF_eq, m2F_eq, noP_eq, someP_eq, asI_int, m3S_eq, seqM_eq, seqO_list, seqO_tuple, borB_eq, borD_eq, borF_eq, flatO_int, flatO_bool, flatO_str, flatO_none, yesB_eq, addD_int, subD_int, iaddD_int, isubD_int, mulD_int, fdivD_int, modD_int, negD_int, ltD_int, leD_int, gtD_int, geD_int, eqD_int, neD_int, slD_list, slF_list, intD_int, intD_bool, lenD_list, lenD_tuple, absD_int, listF_list, tupleD_list, rd, List.getElem?_cons_succ, List.getElem?_cons_zero, List.set_cons_succ, List.set_cons_zero, Out.ok_bind, List.length_cons, List.length_nil, decide_true, decide_false, Bool.not_true, Bool.not_false, ↓reduceIte, i0, i1, i2, i3, i4, hp9, modD_pos (show (0 : Int) < 81 by decide), modD_pos (show (0 : Int) < 2 by decide), modD_pos (show (0 : Int) < 30 by decide), modD_pos (show (0 : Int) < 3 by decide), g0, g1, g2, g4, if_pos (show 0 + 1 + 1 ≤ sizeLine from z2), if_pos (show 0 + 1 + 1 + 1 ≤ sizeLine from z3), hm2, hb2, mulD_ok mko, if_pos mko, ht, hfr]
  have q3 : (lcF (cF rng1 (consA (m2 addD (cI 1) (m2 modD (m2 ixD (rd 1) (cI 5)) (cI 3))) nilA)) (gN 13) yesB (cD F__law_field (consA (rd 0) (consA (m2 addD (cI 1) (rd 13)) (consA (cI 5) nilA)))) [13]) [.sh (roD (ns.map .int)), .sh (.list (il l)), .sh (fq r), .un, .un, .un, .un, .un, .un, .un, .un, .un, .un, .un] = .ok (ll72 land) := by
    have e : ll72 land = (List.range (1 + c5)).map fun k => PyData.list (pl (st k)) := by rw [← hla]; unfold ll72; rw [List.map_map]; rfl
    rw [e]
    refine lc_all (l := List.range (1 + c5)) (u := fun (k : Nat) => .int (k : Int)) ?_ (by simp; omega) fun k hk => ?_
    · have e1 : (1 : Int) + (c5 : Int) = ((1 + c5 : Nat) : Int) := by omega
      simp only [m2_eq, m1_eq, mB_eq, asB_bool, tru_eq, truD_bool, truD_int, truD_list, truD_tuple, truD_none, andB_eq, orB_eq, notB_eq, andD_eq, orD_eq, notD_eq, ifD_eq, chD_eq, cI_eq, cB_eq, cS_eq, cN_eq, nilA_eq, consA_eq, tupD_eq, lstF_eq, asL_eq, cD_eq, cF_eq, m2F_eq, noP_eq, someP_eq, asI_int, m3S_eq, seqM_eq, seqO_list, seqO_tuple, borB_eq, borD_eq, borF_eq, flatO_int, flatO_bool, flatO_str, flatO_none, yesB_eq, addD_int, subD_int, iaddD_int, isubD_int, mulD_int, fdivD_int, modD_int, negD_int, ltD_int, leD_int, gtD_int, geD_int, eqD_int, neD_int, slD_list, slF_list, intD_int, intD_bool, lenD_list, lenD_tuple, absD_int, listF_list, tupleD_list, rd, List.getElem?_cons_succ, List.getElem?_cons_zero, List.set_cons_succ, List.set_cons_zero, Out.ok_bind, List.length_cons, List.length_nil, decide_true, decide_false, Bool.not_true, Bool.not_false, ↓reduceIte, i5, modD_pos (show (0 : Int) < 3 by decide), g5, e1, rng1_nat (show 1 + c5 ≤ 1000000000 by omega), rangeL_zero]
    · have e1 : (1 : Int) + (k : Int) = ((1 + k : Nat) : Int) := by omega
      have e2 : F__law_field [roD (ns.map .int), .int (((1 + k : Nat)) : Int), .int 5] = .ok (.list (pl (st k))) := (hst k).2.2.2
      show ((cD F__law_field (consA (rd 0) (consA (m2 addD (cI 1) (rd 13)) (consA (cI 5) nilA)))) [.sh (roD (ns.map .int)), .sh (.list (il l)), .sh (fq r), .un, .un, .un, .un, .un, .un, .un, .un, .un, .un, .sh (.int (k : Int))] >>= fun y => Out.ok (some y)) = _
      simp only [m2_eq, m1_eq, mB_eq, asB_bool, tru_eq, truD_bool, truD_int, truD_list, truD_tuple, truD_none, andB_eq, orB_eq, notB_eq, andD_eq, orD_eq, notD_eq, ifD_eq, chD_eq, cI_eq, cB_eq, cS_eq, cN_eq, nilA_eq, consA_eq, tupD_eq, lstF_eq, asL_eq, cD_eq, cF_eq, m2F_eq, noP_eq, someP_eq, asI_int, m3S_eq, seqM_eq, seqO_list, seqO_tuple, borB_eq, borD_eq, borF_eq, flatO_int, flatO_bool, flatO_str, flatO_none, yesB_eq, addD_int, subD_int, iaddD_int, isubD_int, mulD_int, fdivD_int, modD_int, negD_int, ltD_int, leD_int, gtD_int, geD_int, eqD_int, neD_int, slD_list, slF_list, intD_int, intD_bool, lenD_list, lenD_tuple, absD_int, listF_list, tupleD_list, rd, List.getElem?_cons_succ, List.getElem?_cons_zero, List.set_cons_succ, List.set_cons_zero, Out.ok_bind, List.length_cons, List.length_nil, decide_true, decide_false, Bool.not_true, Bool.not_false, ↓reduceIte, e1, e2]
  have q4 : ∀ a4 a5, (cD reprD (consA (tupD (consA (rd 2) (consA (rd 3) nilA))) nilA)) [.sh (roD (ns.map .int)), .sh (.list (il l)), .sh (fq r), .sh (.list (ll72 land)), a4, a5, .un, .un, .un, .un, .un, .un, .un, .un] = .ok (.str kept) := fun a4 a5 => by
    simp only [m2_eq, m1_eq, mB_eq, asB_bool, tru_eq, truD_bool, truD_int, truD_list, truD_tuple, truD_none, andB_eq, orB_eq, notB_eq, andD_eq, orD_eq, notD_eq, ifD_eq, chD_eq, cI_eq, cB_eq, cS_eq, cN_eq, nilA_eq, consA_eq, tupD_eq, lstF_eq, asL_eq, cD_eq, cF_eq, m2F_eq, noP_eq, someP_eq, asI_int, m3S_eq, seqM_eq, seqO_list, seqO_tuple, borB_eq, borD_eq, borF_eq, flatO_int, flatO_bool, flatO_str, flatO_none, yesB_eq, addD_int, subD_int, iaddD_int, isubD_int, mulD_int, fdivD_int, modD_int, negD_int, ltD_int, leD_int, gtD_int, geD_int, eqD_int, neD_int, slD_list, slF_list, intD_int, intD_bool, lenD_list, lenD_tuple, absD_int, listF_list, tupleD_list, rd, List.getElem?_cons_succ, List.getElem?_cons_zero, List.set_cons_succ, List.set_cons_zero, Out.ok_bind, List.length_cons, List.length_nil, decide_true, decide_false, Bool.not_true, Bool.not_false, ↓reduceIte, if_pos (show 0 + 1 + 1 ≤ sizeLine from z2), hrp]
  have eT : ∀ (x y z : Str), ([.str x, .str y, .str z] : List PyData) = [x, y, z].map .str := fun _ _ _ => rfl
  generalize hT : ([.str (ftxt72 (r.num, (r.den : Int))), .str (ftext72 f0), .str (ltext72 land)] : List PyData) = texts
  have q5 : (asL (lstF (consA (cD F__law_fraction_text (consA (rd 2) nilA)) (consA (cD F__law_field_text (consA (m2 ixD (rd 3) (cI 0)) nilA)) (consA (cD F__law_land_text (consA (rd 3) nilA)) nilA))))) [.sh (roD (ns.map .int)), .sh (.list (il l)), .sh (fq r), .sh (.list (ll72 land)), .sh (.str kept), .un, .un, .un, .un, .un, .un, .un, .un, .un] = .ok (.list texts) := by
    rw [← hT]
    have wf2' : F__law_fraction_text [fq r] = _ := wf2
    simp only [m2_eq, m1_eq, mB_eq, asB_bool, tru_eq, truD_bool, truD_int, truD_list, truD_tuple, truD_none, andB_eq, orB_eq, notB_eq, andD_eq, orD_eq, notD_eq, ifD_eq, chD_eq, cI_eq, cB_eq, cS_eq, cN_eq, nilA_eq, consA_eq, tupD_eq, lstF_eq, asL_eq, cD_eq, cF_eq, m2F_eq, noP_eq, someP_eq, asI_int, m3S_eq, seqM_eq, seqO_list, seqO_tuple, borB_eq, borD_eq, borF_eq, flatO_int, flatO_bool, flatO_str, flatO_none, yesB_eq, addD_int, subD_int, iaddD_int, isubD_int, mulD_int, fdivD_int, modD_int, negD_int, ltD_int, leD_int, gtD_int, geD_int, eqD_int, neD_int, slD_list, slF_list, intD_int, intD_bool, lenD_list, lenD_tuple, absD_int, listF_list, tupleD_list, rd, List.getElem?_cons_succ, List.getElem?_cons_zero, List.set_cons_succ, List.set_cons_zero, Out.ok_bind, List.length_cons, List.length_nil, decide_true, decide_false, Bool.not_true, Bool.not_false, ↓reduceIte, wf2', ixl, wl2, ww2, if_pos (show 0 + 1 + 1 + 1 ≤ sizeLine from z3)]
  have hTs : sameT 6 (.list texts) := by
    rw [← hT]
    refine ⟨by simp, fun e he => ?_⟩
    simp only [List.mem_cons, List.not_mem_nil, or_false] at he
    rcases he with rfl | rfl | rfl <;> trivial
  have q6 : (orB (notB (tru (cD (F__law_same 6) (consA (asL (lstF (consA (cD F_write_fraction (consA (rd 2) nilA)) (consA (cD F_write_field (consA (m2 ixD (rd 3) (cI 0)) nilA)) (consA (cD F_write_land (consA (rd 3) nilA)) nilA))))) (consA (rd 5) nilA))))) (mB (m2 neD (cD reprD (consA (tupD (consA (rd 2) (consA (rd 3) nilA))) nilA)) (rd 4)))) [.sh (roD (ns.map .int)), .sh (.list (il l)), .sh (fq r), .sh (.list (ll72 land)), .sh (.str kept), .sh (.list texts), .un, .un, .un, .un, .un, .un, .un, .un] = .ok false := by
    have wf1' : F_write_fraction [fq r] = _ := wf1
    have e := F_sameT 6 _ hTs
    rw [← hT] at e ⊢
    simp only [m2_eq, m1_eq, mB_eq, asB_bool, tru_eq, truD_bool, truD_int, truD_list, truD_tuple, truD_none, andB_eq, orB_eq, notB_eq, andD_eq, orD_eq, notD_eq, ifD_eq, chD_eq, cI_eq, cB_eq, cS_eq, cN_eq, nilA_eq, consA_eq, tupD_eq, lstF_eq, asL_eq, cD_eq, cF_eq, m2F_eq, noP_eq, someP_eq, asI_int, m3S_eq, seqM_eq, seqO_list, seqO_tuple, borB_eq, borD_eq, borF_eq, flatO_int, flatO_bool, flatO_str, flatO_none, yesB_eq, addD_int, subD_int, iaddD_int, isubD_int, mulD_int, fdivD_int, modD_int, negD_int, ltD_int, leD_int, gtD_int, geD_int, eqD_int, neD_int, slD_list, slF_list, intD_int, intD_bool, lenD_list, lenD_tuple, absD_int, listF_list, tupleD_list, rd, List.getElem?_cons_succ, List.getElem?_cons_zero, List.set_cons_succ, List.set_cons_zero, Out.ok_bind, List.length_cons, List.length_nil, decide_true, decide_false, Bool.not_true, Bool.not_false, ↓reduceIte, wf1', ixl, wl1, ww1, if_pos (show 0 + 1 + 1 + 1 ≤ sizeLine from z3), e, if_pos (show 0 + 1 + 1 ≤ sizeLine from z2), hrp, neD_str]
    rfl
  -- read twice
  have x0 : ixD (.list texts) (.int 0) = .ok (.str (ftxt72 (r.num, (r.den : Int)))) := by rw [← hT]; rfl
  have x1 : ixD (.list texts) (.int 1) = .ok (.str (ftext72 f0)) := by rw [← hT]; rfl
  have x2 : ixD (.list texts) (.int 2) = .ok (.str (ltext72 land)) := by rw [← hT]; rfl
  have hSm : sameT 6 (.list [fq r, .list (pl f0), .list (ll72 land)]) := by
    refine ⟨by simp, fun e he => ?_⟩
    simp only [List.mem_cons, List.not_mem_nil, or_false] at he
    rcases he with rfl | rfl | rfl
    · exact sameT_pd 3 _ _
    · exact sameT_pl 2 (by have := (laS f0 hf0).1; omega)
    · exact sameT_ll 1 (by omega) fun f hf => by have := (laS f hf).1; omega
  have told : ∀ a6 a7, (told3S 7 (cD F_read_fraction (consA (m2 ixD (rd 5) (cI 0)) nilA)) (fun ρ => (consA (m2 ixD (rd 5) (cI 1)) nilA) ρ >>= F_read_field) (fun ρ => (consA (m2 ixD (rd 5) (cI 2)) nilA) ρ >>= F_read_land) (notB (tru (cD (F__law_same 6) (consA (rd 7) (consA (asL (lstF (consA (rd 2) (consA (m2 ixD (rd 3) (cI 0)) (consA (rd 3) nilA))))) nilA))))) (retS (cB false))) [.sh (roD (ns.map .int)), .sh (.list (il l)), .sh (fq r), .sh (.list (ll72 land)), .sh (.str kept), .sh (.list texts), a6, a7, .un, .un, .un, .un, .un, .un] = .nx [.sh (roD (ns.map .int)), .sh (.list (il l)), .sh (fq r), .sh (.list (ll72 land)), .sh (.str kept), .sh (.list texts), a6, .un, .un, .un, .un, .un, .un, .un] := fun a6 a7 => by
    have e0 : (cD F_read_fraction (consA (m2 ixD (rd 5) (cI 0)) nilA)) [.sh (roD (ns.map .int)), .sh (.list (il l)), .sh (fq r), .sh (.list (ll72 land)), .sh (.str kept), .sh (.list texts), a6, a7, .un, .un, .un, .un, .un, .un] = .ok (fq r) := by simp only [m2_eq, m1_eq, mB_eq, asB_bool, tru_eq, truD_bool, truD_int, truD_list, truD_tuple, truD_none, andB_eq, orB_eq, notB_eq, andD_eq, orD_eq, notD_eq, ifD_eq, chD_eq, cI_eq, cB_eq, cS_eq, cN_eq, nilA_eq, consA_eq, tupD_eq, lstF_eq, asL_eq, cD_eq, cF_eq, m2F_eq, noP_eq, someP_eq, asI_int, m3S_eq, seqM_eq, seqO_list, seqO_tuple, borB_eq, borD_eq, borF_eq, flatO_int, flatO_bool, flatO_str, flatO_none, yesB_eq, addD_int, subD_int, iaddD_int, isubD_int, mulD_int, fdivD_int, modD_int, negD_int, ltD_int, leD_int, gtD_int, geD_int, eqD_int, neD_int, slD_list, slF_list, intD_int, intD_bool, lenD_list, lenD_tuple, absD_int, listF_list, tupleD_list, rd, List.getElem?_cons_succ, List.getElem?_cons_zero, List.set_cons_succ, List.set_cons_zero, Out.ok_bind, List.length_cons, List.length_nil, decide_true, decide_false, Bool.not_true, Bool.not_false, ↓reduceIte, x0, rf]
    have e1 : (fun ρ => (consA (m2 ixD (rd 5) (cI 1)) nilA) ρ >>= F_read_field) [.sh (roD (ns.map .int)), .sh (.list (il l)), .sh (fq r), .sh (.list (ll72 land)), .sh (.str kept), .sh (.list texts), a6, a7, .un, .un, .un, .un, .un, .un] = .ok (pl f0) := by simp only [m2_eq, m1_eq, mB_eq, asB_bool, tru_eq, truD_bool, truD_int, truD_list, truD_tuple, truD_none, andB_eq, orB_eq, notB_eq, andD_eq, orD_eq, notD_eq, ifD_eq, chD_eq, cI_eq, cB_eq, cS_eq, cN_eq, nilA_eq, consA_eq, tupD_eq, lstF_eq, asL_eq, cD_eq, cF_eq, m2F_eq, noP_eq, someP_eq, asI_int, m3S_eq, seqM_eq, seqO_list, seqO_tuple, borB_eq, borD_eq, borF_eq, flatO_int, flatO_bool, flatO_str, flatO_none, yesB_eq, addD_int, subD_int, iaddD_int, isubD_int, mulD_int, fdivD_int, modD_int, negD_int, ltD_int, leD_int, gtD_int, geD_int, eqD_int, neD_int, slD_list, slF_list, intD_int, intD_bool, lenD_list, lenD_tuple, absD_int, listF_list, tupleD_list, rd, List.getElem?_cons_succ, List.getElem?_cons_zero, List.set_cons_succ, List.set_cons_zero, Out.ok_bind, List.length_cons, List.length_nil, decide_true, decide_false, Bool.not_true, Bool.not_false, ↓reduceIte, x1, rl]
    have e2 : (fun ρ => (consA (m2 ixD (rd 5) (cI 2)) nilA) ρ >>= F_read_land) [.sh (roD (ns.map .int)), .sh (.list (il l)), .sh (fq r), .sh (.list (ll72 land)), .sh (.str kept), .sh (.list texts), a6, a7, .un, .un, .un, .un, .un, .un] = .ok (ll72 land) := by simp only [m2_eq, m1_eq, mB_eq, asB_bool, tru_eq, truD_bool, truD_int, truD_list, truD_tuple, truD_none, andB_eq, orB_eq, notB_eq, andD_eq, orD_eq, notD_eq, ifD_eq, chD_eq, cI_eq, cB_eq, cS_eq, cN_eq, nilA_eq, consA_eq, tupD_eq, lstF_eq, asL_eq, cD_eq, cF_eq, m2F_eq, noP_eq, someP_eq, asI_int, m3S_eq, seqM_eq, seqO_list, seqO_tuple, borB_eq, borD_eq, borF_eq, flatO_int, flatO_bool, flatO_str, flatO_none, yesB_eq, addD_int, subD_int, iaddD_int, isubD_int, mulD_int, fdivD_int, modD_int, negD_int, ltD_int, leD_int, gtD_int, geD_int, eqD_int, neD_int, slD_list, slF_list, intD_int, intD_bool, lenD_list, lenD_tuple, absD_int, listF_list, tupleD_list, rd, List.getElem?_cons_succ, List.getElem?_cons_zero, List.set_cons_succ, List.set_cons_zero, Out.ok_bind, List.length_cons, List.length_nil, decide_true, decide_false, Bool.not_true, Bool.not_false, ↓reduceIte, x2, rw_]
    have e3 : (notB (tru (cD (F__law_same 6) (consA (rd 7) (consA (asL (lstF (consA (rd 2) (consA (m2 ixD (rd 3) (cI 0)) (consA (rd 3) nilA))))) nilA))))) [.sh (roD (ns.map .int)), .sh (.list (il l)), .sh (fq r), .sh (.list (ll72 land)), .sh (.str kept), .sh (.list texts), a6, .sh (.list [fq r, .list (pl f0), .list (ll72 land)]), .un, .un, .un, .un, .un, .un] = .ok false := by
      have e := F_sameT 6 _ hSm
      simp only [m2_eq, m1_eq, mB_eq, asB_bool, tru_eq, truD_bool, truD_int, truD_list, truD_tuple, truD_none, andB_eq, orB_eq, notB_eq, andD_eq, orD_eq, notD_eq, ifD_eq, chD_eq, cI_eq, cB_eq, cS_eq, cN_eq, nilA_eq, consA_eq, tupD_eq, lstF_eq, asL_eq, cD_eq, cF_eq, m2F_eq, noP_eq, someP_eq, asI_int, m3S_eq, seqM_eq, seqO_list, seqO_tuple, borB_eq, borD_eq, borF_eq, flatO_int, flatO_bool, flatO_str, flatO_none, yesB_eq, addD_int, subD_int, iaddD_int, isubD_int, mulD_int, fdivD_int, modD_int, negD_int, ltD_int, leD_int, gtD_int, geD_int, eqD_int, neD_int, slD_list, slF_list, intD_int, intD_bool, lenD_list, lenD_tuple, absD_int, listF_list, tupleD_list, rd, List.getElem?_cons_succ, List.getElem?_cons_zero, List.set_cons_succ, List.set_cons_zero, Out.ok_bind, List.length_cons, List.length_nil, decide_true, decide_false, Bool.not_true, Bool.not_false, ↓reduceIte, ixl, if_pos (show 0 + 1 + 1 + 1 ≤ sizeLine from z3), e]
    have b1 : (pl f0).length < sizeLine := sizes' (by rw [pl_len]; have := (laS f0 hf0).1; omega)
    have b2 : (ll72 land).length < sizeLine := sizes' (by unfold ll72; rw [List.length_map]; omega)
    exact told3S_nx (by simp) e0 e1 e2 e3 b1 b2
  have q7 : ∃ a6 a7, forS (cF rng1 (consA (cI 2) nilA)) (gN 6) (told3S 7 (cD F_read_fraction (consA (m2 ixD (rd 5) (cI 0)) nilA)) (fun ρ => (consA (m2 ixD (rd 5) (cI 1)) nilA) ρ >>= F_read_field) (fun ρ => (consA (m2 ixD (rd 5) (cI 2)) nilA) ρ >>= F_read_land) (notB (tru (cD (F__law_same 6) (consA (rd 7) (consA (asL (lstF (consA (rd 2) (consA (m2 ixD (rd 3) (cI 0)) (consA (rd 3) nilA))))) nilA))))) (retS (cB false))) [.sh (roD (ns.map .int)), .sh (.list (il l)), .sh (fq r), .sh (.list (ll72 land)), .sh (.str kept), .sh (.list texts), .un, .un, .un, .un, .un, .un, .un, .un] = .nx [.sh (roD (ns.map .int)), .sh (.list (il l)), .sh (fq r), .sh (.list (ll72 land)), .sh (.str kept), .sh (.list texts), a6, a7, .un, .un, .un, .un, .un, .un] := by
    refine ⟨.sh (.int ((1 : Nat) : Int)), .un, forS_go (ds := [.int ((0 : Nat) : Int), .int ((1 : Nat) : Int)]) ?_ ?_⟩
    · simp only [m2_eq, m1_eq, mB_eq, asB_bool, tru_eq, truD_bool, truD_int, truD_list, truD_tuple, truD_none, andB_eq, orB_eq, notB_eq, andD_eq, orD_eq, notD_eq, ifD_eq, chD_eq, cI_eq, cB_eq, cS_eq, cN_eq, nilA_eq, consA_eq, tupD_eq, lstF_eq, asL_eq, cD_eq, cF_eq, m2F_eq, noP_eq, someP_eq, asI_int, m3S_eq, seqM_eq, seqO_list, seqO_tuple, borB_eq, borD_eq, borF_eq, flatO_int, flatO_bool, flatO_str, flatO_none, yesB_eq, addD_int, subD_int, iaddD_int, isubD_int, mulD_int, fdivD_int, modD_int, negD_int, ltD_int, leD_int, gtD_int, geD_int, eqD_int, neD_int, slD_list, slF_list, intD_int, intD_bool, lenD_list, lenD_tuple, absD_int, listF_list, tupleD_list, rd, List.getElem?_cons_succ, List.getElem?_cons_zero, List.set_cons_succ, List.set_cons_zero, Out.ok_bind, List.length_cons, List.length_nil, decide_true, decide_false, Bool.not_true, Bool.not_false, ↓reduceIte, rng1_lit 2 (by decide)]
      rfl
    · exact (forD_nx rfl (told _ _)).trans ((forD_nx rfl (told _ _)).trans rfl)
  obtain ⟨a6, a7, q7⟩ := q7
  have q8 : asL (cF F__law_numbers (consA (cD F__law_cell (consA (rd 0) (consA (cI 4) nilA))) (consA (cI 60) (consA (cI 5040) nilA)))) [.sh (roD (ns.map .int)), .sh (.list (il l)), .sh (fq r), .sh (.list (ll72 land)), .sh (.str kept), .sh (.list texts), a6, a7, .un, .un, .un, .un, .un, .un] = .ok (.list (il cl)) := by
    have e1 : F__law_cell [roD (ns.map .int), .int 4] = .ok (.int (cellOf ns 4)) := F_cell ns 4
    have e2 : F__law_numbers [.int (cellOf ns 4), .int 60, .int 5040] = .ok (cl.map .int) := cnum
    simp only [m2_eq, m1_eq, mB_eq, asB_bool, tru_eq, truD_bool, truD_int, truD_list, truD_tuple, truD_none, andB_eq, orB_eq, notB_eq, andD_eq, orD_eq, notD_eq, ifD_eq, chD_eq, cI_eq, cB_eq, cS_eq, cN_eq, nilA_eq, consA_eq, tupD_eq, lstF_eq, asL_eq, cD_eq, cF_eq, m2F_eq, noP_eq, someP_eq, asI_int, m3S_eq, seqM_eq, seqO_list, seqO_tuple, borB_eq, borD_eq, borF_eq, flatO_int, flatO_bool, flatO_str, flatO_none, yesB_eq, addD_int, subD_int, iaddD_int, isubD_int, mulD_int, fdivD_int, modD_int, negD_int, ltD_int, leD_int, gtD_int, geD_int, eqD_int, neD_int, slD_list, slF_list, intD_int, intD_bool, lenD_list, lenD_tuple, absD_int, listF_list, tupleD_list, rd, List.getElem?_cons_succ, List.getElem?_cons_zero, List.set_cons_succ, List.set_cons_zero, Out.ok_bind, List.length_cons, List.length_nil, decide_true, decide_false, Bool.not_true, Bool.not_false, ↓reduceIte, e1, e2]
    rfl
  obtain ⟨o1, p1, n1, h1⟩ := odd1_ok [.sh (roD (ns.map .int)), .sh (.list (il l)), .sh (fq r), .sh (.list (ll72 land)), .sh (.str kept), .sh (.list texts), a6, a7, .sh (.list (il cl)), .un, .un, .un, .un, .un]
  obtain ⟨o2, p2, n2, h2⟩ := odd2_ok (ρ := [.sh (roD (ns.map .int)), .sh (.list (il l)), .sh (fq r), .sh (.list (ll72 land)), .sh (.str kept), .sh (.list texts), a6, a7, .sh (.list (il cl)), .sh (.list o1), .un, .un, .un, .un]) rfl h1 (by omega)
  obtain ⟨o3, p3, n3, h3⟩ := odd3_ok (ρ := [.sh (roD (ns.map .int)), .sh (.list (il l)), .sh (fq r), .sh (.list (ll72 land)), .sh (.str kept), .sh (.list texts), a6, a7, .sh (.list (il cl)), .sh (.list o2), .un, .un, .un, .un]) rfl h2 (by omega)
  obtain ⟨o4, p4, n4, h4⟩ := odd4_ok (ρ := [.sh (roD (ns.map .int)), .sh (.list (il l)), .sh (fq r), .sh (.list (ll72 land)), .sh (.str kept), .sh (.list texts), a6, a7, .sh (.list (il cl)), .sh (.list o3), .un, .un, .un, .un]) rfl h3 (by omega)
  obtain ⟨o5, p5, n5, h5⟩ := odd5_ok (ρ := [.sh (roD (ns.map .int)), .sh (.list (il l)), .sh (fq r), .sh (.list (ll72 land)), .sh (.str kept), .sh (.list texts), a6, a7, .sh (.list (il cl)), .sh (.list o4), .un, .un, .un, .un]) rfl h4 (by omega)
  have tk3 : ∀ k : Nat, ∃ x : Str, x.length ≤ 1300 ∧ ixD (.list texts) (.int ((k : Int) % 3)) = .ok (.str x) := fun k => by
    have : k % 3 = 0 ∨ k % 3 = 1 ∨ k % 3 = 2 := by omega
    rcases this with h | h | h
    · exact ⟨_, t1, by rw [show (k : Int) % 3 = 0 by omega]; exact x0⟩
    · exact ⟨_, t2, by rw [show (k : Int) % 3 = 1 by omega]; exact x1⟩
    · exact ⟨_, t3, by rw [show (k : Int) % 3 = 2 by omega]; exact x2⟩
  obtain ⟨tx, htx⟩ := Classical.axiomOfChoice tk3
  have hbt : ∀ k : Nat, ∃ z : Str, k < 19 → z.length ≤ 100000 ∧ F__law_bent_string [.str (tx k), .list (il cl), .int ((3 * k : Nat) : Int)] = .ok (.str z) := fun k => by
    by_cases hk : k < 19
    · obtain ⟨z, a, b⟩ := F_bent_ok (htx k).1 E hk
      exact ⟨z, fun _ => ⟨a, b⟩⟩
    · exact ⟨"", fun h => (hk h).elim⟩
  obtain ⟨bz, hbz⟩ := Classical.axiomOfChoice hbt
  have q10 : (lcF (cF rng1 (consA (cI 19) nilA)) (gN 13) yesB (cD F__law_bent_string (consA (m2 ixD (rd 5) (m2 modD (rd 13) (cI 3))) (consA (rd 8) (consA (m2 mulD (cI 3) (rd 13)) nilA)))) [13]) [.sh (roD (ns.map .int)), .sh (.list (il l)), .sh (fq r), .sh (.list (ll72 land)), .sh (.str kept), .sh (.list texts), a6, a7, .sh (.list (il cl)), .sh (.list o5), .un, .un, .un, .un] = .ok ((List.range 19).map fun k => PyData.str (bz k)) := by
    refine lc_all (l := List.range 19) (u := fun (k : Nat) => .int (k : Int)) ?_ (by simp) fun k hk => ?_
    · simp only [m2_eq, m1_eq, mB_eq, asB_bool, tru_eq, truD_bool, truD_int, truD_list, truD_tuple, truD_none, andB_eq, orB_eq, notB_eq, andD_eq, orD_eq, notD_eq, ifD_eq, chD_eq, cI_eq, cB_eq, cS_eq, cN_eq, nilA_eq, consA_eq, tupD_eq, lstF_eq, asL_eq, cD_eq, cF_eq, m2F_eq, noP_eq, someP_eq, asI_int, m3S_eq, seqM_eq, seqO_list, seqO_tuple, borB_eq, borD_eq, borF_eq, flatO_int, flatO_bool, flatO_str, flatO_none, yesB_eq, addD_int, subD_int, iaddD_int, isubD_int, mulD_int, fdivD_int, modD_int, negD_int, ltD_int, leD_int, gtD_int, geD_int, eqD_int, neD_int, slD_list, slF_list, intD_int, intD_bool, lenD_list, lenD_tuple, absD_int, listF_list, tupleD_list, rd, List.getElem?_cons_succ, List.getElem?_cons_zero, List.set_cons_succ, List.set_cons_zero, Out.ok_bind, List.length_cons, List.length_nil, decide_true, decide_false, Bool.not_true, Bool.not_false, ↓reduceIte, rng1_lit 19 (by decide), rangeL_zero]
    · have hk := List.mem_range.mp hk
      have e2 := (hbz k hk).2
      have mk : mulOk 3 (k : Int) := mulOk_ll (by decide) (by decide)
      have e1 : (3 : Int) * (k : Int) = ((3 * k : Nat) : Int) := by omega
      show ((cD F__law_bent_string (consA (m2 ixD (rd 5) (m2 modD (rd 13) (cI 3))) (consA (rd 8) (consA (m2 mulD (cI 3) (rd 13)) nilA)))) [.sh (roD (ns.map .int)), .sh (.list (il l)), .sh (fq r), .sh (.list (ll72 land)), .sh (.str kept), .sh (.list texts), a6, a7, .sh (.list (il cl)), .sh (.list o5), .un, .un, .un, .sh (.int (k : Int))] >>= fun y => Out.ok (some y)) = _
      simp only [cD_eq, consA_eq, nilA_eq, m2_eq, cI_eq, rd, List.getElem?_cons_succ, List.getElem?_cons_zero, Out.ok_bind, modD_pos (show (0 : Int) < 3 by decide), (htx k).2, mulD_ok mk, e1, e2]
  generalize hbl : ((List.range 19).map fun k => PyData.str (bz k)) = bent at q10
  have hbx : (∀ d ∈ bent, IsTx d) ∧ bent.length = 19 := by
    rw [← hbl]
    refine ⟨fun d hd => ?_, by simp⟩
    obtain ⟨k, hk, rfl⟩ := List.mem_map.mp hd
    exact ⟨_, rfl, (hbz k (List.mem_range.mp hk)).1⟩
  have hall : ∀ d ∈ texts ++ o5 ++ bent, IsTx d := fun d hd => by
    rcases List.mem_append.mp hd with hd | hd
    · rcases List.mem_append.mp hd with hd | hd
      · rw [← hT] at hd
        simp only [List.mem_cons, List.not_mem_nil, or_false] at hd
        rcases hd with rfl | rfl | rfl
        · exact ⟨_, rfl, by omega⟩
        · exact ⟨_, rfl, by omega⟩
        · exact ⟨_, rfl, by omega⟩
      · exact h5 d hd
    · exact hbx.1 d hd
  have hTl : texts.length = 3 := by rw [← hT]; rfl
  have q11 : (seqM (m2 addD (m2 addD (rd 5) (rd 9)) (rd 10))) [.sh (roD (ns.map .int)), .sh (.list (il l)), .sh (fq r), .sh (.list (ll72 land)), .sh (.str kept), .sh (.list texts), a6, a7, .sh (.list (il cl)), .sh (.list o5), .sh (.list bent), .un, .un, .un] = .ok (texts ++ o5 ++ bent) := by
    simp only [m2_eq, m1_eq, mB_eq, asB_bool, tru_eq, truD_bool, truD_int, truD_list, truD_tuple, truD_none, andB_eq, orB_eq, notB_eq, andD_eq, orD_eq, notD_eq, ifD_eq, chD_eq, cI_eq, cB_eq, cS_eq, cN_eq, nilA_eq, consA_eq, tupD_eq, lstF_eq, asL_eq, cD_eq, cF_eq, m2F_eq, noP_eq, someP_eq, asI_int, m3S_eq, seqM_eq, seqO_list, seqO_tuple, borB_eq, borD_eq, borF_eq, flatO_int, flatO_bool, flatO_str, flatO_none, yesB_eq, addD_int, subD_int, iaddD_int, isubD_int, mulD_int, fdivD_int, modD_int, negD_int, ltD_int, leD_int, gtD_int, geD_int, eqD_int, neD_int, slD_list, slF_list, intD_int, intD_bool, lenD_list, lenD_tuple, absD_int, listF_list, tupleD_list, rd, List.getElem?_cons_succ, List.getElem?_cons_zero, List.set_cons_succ, List.set_cons_zero, Out.ok_bind, List.length_cons, List.length_nil, decide_true, decide_false, Bool.not_true, Bool.not_false, ↓reduceIte, addD_list, if_pos (show texts.length + o5.length ≤ sizeLine from sizes (by omega))]
    rw [if_pos (show (texts ++ o5).length + bent.length ≤ sizeLine from sizes (by rw [List.length_append, hbx.2]; omega))]
    rfl
  obtain ⟨t11, t12, q12⟩ := forD_tx (b := askB) (ask_ok (.sh (roD (ns.map .int))) (.sh (.list (il l))) (.sh (fq r)) (.sh (.list (ll72 land))) (.sh (.str kept)) (.sh (.list texts)) a6 a7 (.sh (.list (il cl))) (.sh (.list o5)) (.sh (.list bent)) .un) _ hall .un .un
  refine runD_rt ?_ rfl
  show (seqS _ _) [.sh (roD (ns.map .int)), .un, .un, .un, .un, .un, .un, .un, .un, .un, .un, .un, .un, .un] = _
  refine (seqS_nx (setS_go q1)).trans ?_
  refine (seqS_nx (setS_go q2)).trans ?_
  refine (seqS_nx (setLS_go q3)).trans ?_
  refine (seqS_nx (setS_go (q4 .un .un))).trans ?_
  refine (seqS_nx (setS_go q5)).trans ?_
  refine (seqS_nx (ifS_f q6 rfl)).trans ?_
  refine (seqS_nx q7).trans ?_
  refine (seqS_nx (setS_go q8)).trans ?_
  refine (seqS_nx (setS_go p1)).trans ?_
  refine (seqS_nx (setS_go p2)).trans ?_
  refine (seqS_nx (setS_go p3)).trans ?_
  refine (seqS_nx (setS_go p4)).trans ?_
  refine (seqS_nx (setS_go p5)).trans ?_
  refine (seqS_nx (setLS_go q10)).trans ?_
  refine (seqS_nx (forS_go q11 q12)).trans ?_
  rfl
end law72

end
end Lw
namespace Lw
noncomputable section
open PySem PySem.Spec PyProof.Rows L2 DL
/-! ### what the top has written; the law's own head -/
def spLw (K : PySem.W.Frag) : Sp := fun vs H Q _ => ∃ (a : Addr) (ns : List Int), vs = [.ref a] ∧ SqL K H a (ns.map V.int) ∧ ns.length ≤ 63 ∧ ∀ H', Q (.bl true) H'
theorem lw_of {K : PySem.W.Frag} {mg : Str → Option Value} {vs : List V} {H : Hp} {Q : VK} {E : XK} (h : spLw K vs H Q E) : spD K mg F_law vs H Q E := by
  obtain ⟨a, ns, rfl, hS, hl, q⟩ := h
  refine ⟨H, _, .refl _, .cons (.ro hS (dpAll_ints ns)) .nil, ?_⟩
  rw [F_law_ok ns]
  intro G' H' _ v hv
  rw [dp_bool hv]
  exact q H'
set_option maxHeartbeats 0 in
theorem all_mk {l : PySem.W.OpenLaw} {w : World} {K : PySem.W.Frag} {h : Heap} {mg : Str → Option Value} {fa : Addr} {f1 f2 f3 f4 f5 f6 f7 f8 f9 f10 f11 f12 f13 f14 f15 f16 f17 f18 f19 f20 f21 f22 f23 f24 f25 f26 f27 f28 f29 f30 f31 f32 f33 f34 f35 f36 f37 f38 : Addr} (X : K.In h) (G : h.Ns mainGlobals mg) (hfa : mg "law" = some (.ref fa))
    {eo_InvalidStone eo_WrongCount eo_InvalidLine ed_InvalidLine ed_InvalidLine1 ed_InvalidLine2 ed_InvalidLine3 eu_SpotError eu_SpotError1 eu_SpotError2 : Addr}
    {od1 an1 od2 an2 od3 an3 od4 an4 od5 an5 od6 an6 od7 an7 od8 an8 od9 an9 od10 an10 od11 an11 od12 an12 od13 an13 od14 an14 od15 an15 od16 an16 od17 an17 od18 an18 od19 an19 od20 an20 od21 an21 od22 an22 od23 an23 od24 an24 od25 an25 od26 an26 od27 an27 od28 an28 od29 an29 od30 an30 od31 an31 od32 an32 od33 an33 od34 an34 od35 an35 od36 an36 od37 an37 od38 an38 : Option Addr} {sl1 sl2 sl3 sl4 sl5 sl6 sl7 sl8 sl9 sl10 sl11 sl12 sl13 sl14 sl15 sl16 sl17 sl18 sl19 sl20 sl21 sl22 sl23 sl24 sl25 sl26 sl27 sl28 sl29 sl30 sl31 sl32 sl33 sl34 sl35 sl36 sl37 sl38 : Array (Option Value)} {oc1 kV1 dc1 pm1 cd1 ct1 oc2 kV2 dc2 pm2 cd2 ct2 oc3 kV3 dc3 pm3 cd3 ct3 oc4 kV4 dc4 pm4 cd4 ct4 oc5 kV5 dc5 pm5 cd5 ct5 oc6 kV6 dc6 pm6 cd6 ct6 oc7 kV7 dc7 pm7 cd7 ct7 oc8 kV8 dc8 pm8 cd8 ct8 oc9 kV9 dc9 pm9 cd9 ct9 oc10 kV10 dc10 pm10 cd10 ct10 oc11 kV11 dc11 pm11 cd11 ct11 oc12 kV12 dc12 pm12 cd12 ct12 oc13 kV13 dc13 pm13 cd13 ct13 oc14 kV14 dc14 pm14 cd14 ct14 oc15 kV15 dc15 pm15 cd15 ct15 oc16 kV16 dc16 pm16 cd16 ct16 oc17 kV17 dc17 pm17 cd17 ct17 oc18 kV18 dc18 pm18 cd18 ct18 oc19 kV19 dc19 pm19 cd19 ct19 oc20 kV20 dc20 pm20 cd20 ct20 oc21 kV21 dc21 pm21 cd21 ct21 oc22 kV22 dc22 pm22 cd22 ct22 oc23 kV23 dc23 pm23 cd23 ct23 oc24 kV24 dc24 pm24 cd24 ct24 oc25 kV25 dc25 pm25 cd25 ct25 oc26 kV26 dc26 pm26 cd26 ct26 oc27 kV27 dc27 pm27 cd27 ct27 oc28 kV28 dc28 pm28 cd28 ct28 oc29 kV29 dc29 pm29 cd29 ct29 oc30 kV30 dc30 pm30 cd30 ct30 oc31 kV31 dc31 pm31 cd31 ct31 oc32 kV32 dc32 pm32 cd32 ct32 oc33 kV33 dc33 pm33 cd33 ct33 oc34 kV34 dc34 pm34 cd34 ct34 oc35 kV35 dc35 pm35 cd35 ct35 oc36 kV36 dc36 pm36 cd36 ct36 oc37 kV37 dc37 pm37 cd37 ct37 oc38 kV38 dc38 pm38 cd38 ct38 : Value}
    {zs1 : Tok}
    {zs2 : Tok}
    {zs3 : Tok}
    {zs4 : Tok}
    {zs5 : Tok}
    (a1 : PySem.W.nsIn K mainGlobals "is_whole" = some (some (.ref f1))) (l1 : K.lookup f1 = some ⟨oc1, od1, .func (PySem.W.fnOf "is_whole" "is_whole" (defArgs s_is_whole) (defBody s_is_whole) (defScope s_is_whole) .none kV1 dc1 pm1 an1 cd1 ct1), sl1⟩) (c1 : PySem.W.codeIn K cd1 "is_whole" = true) (k1 : PySem.W.keepIn K (.ref f1) = true)
    (a2 : PySem.W.nsIn K mainGlobals "is_fraction" = some (some (.ref f2))) (l2 : K.lookup f2 = some ⟨oc2, od2, .func (PySem.W.fnOf "is_fraction" "is_fraction" (defArgs s_is_fraction) (defBody s_is_fraction) (defScope s_is_fraction) .none kV2 dc2 pm2 an2 cd2 ct2), sl2⟩) (c2 : PySem.W.codeIn K cd2 "is_fraction" = true) (k2 : PySem.W.keepIn K (.ref f2) = true)
    (a3 : PySem.W.nsIn K mainGlobals "is_stone" = some (some (.ref f3))) (l3 : K.lookup f3 = some ⟨oc3, od3, .func (PySem.W.fnOf "is_stone" "is_stone" (defArgs s_is_stone) (defBody s_is_stone) (defScope s_is_stone) .none kV3 dc3 pm3 an3 cd3 ct3), sl3⟩) (c3 : PySem.W.codeIn K cd3 "is_stone" = true) (k3 : PySem.W.keepIn K (.ref f3) = true)
    (a4 : PySem.W.nsIn K mainGlobals "check_field" = some (some (.ref f4))) (l4 : K.lookup f4 = some ⟨oc4, od4, .func (PySem.W.fnOf "check_field" "check_field" (defArgs s_check_field) (defBody s_check_field) (defScope s_check_field) .none kV4 dc4 pm4 an4 cd4 ct4), sl4⟩) (c4 : PySem.W.codeIn K cd4 "check_field" = true) (k4 : PySem.W.keepIn K (.ref f4) = true)
    (a5 : PySem.W.nsIn K mainGlobals "demand" = some (some (.ref f5))) (l5 : K.lookup f5 = some ⟨oc5, od5, .func (PySem.W.fnOf "demand" "demand" (defArgs s_demand) (defBody s_demand) (defScope s_demand) .none kV5 dc5 pm5 an5 cd5 ct5), sl5⟩) (c5 : PySem.W.codeIn K cd5 "demand" = true) (k5 : PySem.W.keepIn K (.ref f5) = true)
    (a6 : PySem.W.nsIn K mainGlobals "number_in" = some (some (.ref f6))) (l6 : K.lookup f6 = some ⟨oc6, od6, .func (PySem.W.fnOf "number_in" "number_in" (defArgs s_number_in) (defBody s_number_in) (defScope s_number_in) .none kV6 dc6 pm6 an6 cd6 ct6), sl6⟩) (c6 : PySem.W.codeIn K cd6 "number_in" = true) (k6 : PySem.W.keepIn K (.ref f6) = true)
    (a7 : PySem.W.nsIn K mainGlobals "write_fraction" = some (some (.ref f7))) (l7 : K.lookup f7 = some ⟨oc7, od7, .func (PySem.W.fnOf "write_fraction" "write_fraction" (defArgs s_write_fraction) (defBody s_write_fraction) (defScope s_write_fraction) .none kV7 dc7 pm7 an7 cd7 ct7), sl7⟩) (c7 : PySem.W.codeIn K cd7 "write_fraction" = true) (k7 : PySem.W.keepIn K (.ref f7) = true)
    (a8 : PySem.W.nsIn K mainGlobals "read_fraction" = some (some (.ref f8))) (l8 : K.lookup f8 = some ⟨oc8, od8, .func (PySem.W.fnOf "read_fraction" "read_fraction" (defArgs s_read_fraction) (defBody s_read_fraction) (defScope s_read_fraction) .none kV8 dc8 pm8 an8 cd8 ct8), sl8⟩) (c8 : PySem.W.codeIn K cd8 "read_fraction" = true) (k8 : PySem.W.keepIn K (.ref f8) = true)
    (a9 : PySem.W.nsIn K mainGlobals "line_of" = some (some (.ref f9))) (l9 : K.lookup f9 = some ⟨oc9, od9, .func (PySem.W.fnOf "line_of" "line_of" (defArgs s_line_of) (defBody s_line_of) (defScope s_line_of) .none kV9 dc9 pm9 an9 cd9 ct9), sl9⟩) (c9 : PySem.W.codeIn K cd9 "line_of" = true) (k9 : PySem.W.keepIn K (.ref f9) = true)
    (a10 : PySem.W.nsIn K mainGlobals "lines_of" = some (some (.ref f10))) (l10 : K.lookup f10 = some ⟨oc10, od10, .func (PySem.W.fnOf "lines_of" "lines_of" (defArgs s_lines_of) (defBody s_lines_of) (defScope s_lines_of) .none kV10 dc10 pm10 an10 cd10 ct10), sl10⟩) (c10 : PySem.W.codeIn K cd10 "lines_of" = true) (k10 : PySem.W.keepIn K (.ref f10) = true)
    (a11 : PySem.W.nsIn K mainGlobals "items_in" = some (some (.ref f11))) (l11 : K.lookup f11 = some ⟨oc11, od11, .func (PySem.W.fnOf "items_in" "items_in" (defArgs s_items_in) (defBody s_items_in) (defScope s_items_in) .none kV11 dc11 pm11 an11 cd11 ct11), sl11⟩) (c11 : PySem.W.codeIn K cd11 "items_in" = true) (k11 : PySem.W.keepIn K (.ref f11) = true)
    (a12 : PySem.W.nsIn K mainGlobals "numbers_in" = some (some (.ref f12))) (l12 : K.lookup f12 = some ⟨oc12, od12, .func (PySem.W.fnOf "numbers_in" "numbers_in" (defArgs s_numbers_in) (defBody s_numbers_in) (defScope s_numbers_in) .none kV12 dc12 pm12 an12 cd12 ct12), sl12⟩) (c12 : PySem.W.codeIn K cd12 "numbers_in" = true) (k12 : PySem.W.keepIn K (.ref f12) = true)
    (a13 : PySem.W.nsIn K mainGlobals "write_field" = some (some (.ref f13))) (l13 : K.lookup f13 = some ⟨oc13, od13, .func (PySem.W.fnOf "write_field" "write_field" (defArgs s_write_field) (defBody s_write_field) (defScope s_write_field) .none kV13 dc13 pm13 an13 cd13 ct13), sl13⟩) (c13 : PySem.W.codeIn K cd13 "write_field" = true) (k13 : PySem.W.keepIn K (.ref f13) = true)
    (a14 : PySem.W.nsIn K mainGlobals "write_land" = some (some (.ref f14))) (l14 : K.lookup f14 = some ⟨oc14, od14, .func (PySem.W.fnOf "write_land" "write_land" (defArgs s_write_land) (defBody s_write_land) (defScope s_write_land) .none kV14 dc14 pm14 an14 cd14 ct14), sl14⟩) (c14 : PySem.W.codeIn K cd14 "write_land" = true) (k14 : PySem.W.keepIn K (.ref f14) = true)
    (a15 : PySem.W.nsIn K mainGlobals "field_in" = some (some (.ref f15))) (l15 : K.lookup f15 = some ⟨oc15, od15, .func (PySem.W.fnOf "field_in" "field_in" (defArgs s_field_in) (defBody s_field_in) (defScope s_field_in) .none kV15 dc15 pm15 an15 cd15 ct15), sl15⟩) (c15 : PySem.W.codeIn K cd15 "field_in" = true) (k15 : PySem.W.keepIn K (.ref f15) = true)
    (a16 : PySem.W.nsIn K mainGlobals "read_field" = some (some (.ref f16))) (l16 : K.lookup f16 = some ⟨oc16, od16, .func (PySem.W.fnOf "read_field" "read_field" (defArgs s_read_field) (defBody s_read_field) (defScope s_read_field) .none kV16 dc16 pm16 an16 cd16 ct16), sl16⟩) (c16 : PySem.W.codeIn K cd16 "read_field" = true) (k16 : PySem.W.keepIn K (.ref f16) = true)
    (a17 : PySem.W.nsIn K mainGlobals "read_land" = some (some (.ref f17))) (l17 : K.lookup f17 = some ⟨oc17, od17, .func (PySem.W.fnOf "read_land" "read_land" (defArgs s_read_land) (defBody s_read_land) (defScope s_read_land) .none kV17 dc17 pm17 an17 cd17 ct17), sl17⟩) (c17 : PySem.W.codeIn K cd17 "read_land" = true) (k17 : PySem.W.keepIn K (.ref f17) = true)
    (a18 : PySem.W.nsIn K mainGlobals "_law_cell" = some (some (.ref f18))) (l18 : K.lookup f18 = some ⟨oc18, od18, .func (PySem.W.fnOf "_law_cell" "_law_cell" (defArgs s__law_cell) (defBody s__law_cell) (defScope s__law_cell) .none kV18 dc18 pm18 an18 cd18 ct18), sl18⟩) (c18 : PySem.W.codeIn K cd18 "_law_cell" = true) (k18 : PySem.W.keepIn K (.ref f18) = true)
    (a19 : PySem.W.nsIn K mainGlobals "_law_numbers" = some (some (.ref f19))) (l19 : K.lookup f19 = some ⟨oc19, od19, .func (PySem.W.fnOf "_law_numbers" "_law_numbers" (defArgs s__law_numbers) (defBody s__law_numbers) (defScope s__law_numbers) .none kV19 dc19 pm19 an19 cd19 ct19), sl19⟩) (c19 : PySem.W.codeIn K cd19 "_law_numbers" = true) (k19 : PySem.W.keepIn K (.ref f19) = true)
    (a20 : PySem.W.nsIn K mainGlobals "_law_common" = some (some (.ref f20))) (l20 : K.lookup f20 = some ⟨oc20, od20, .func (PySem.W.fnOf "_law_common" "_law_common" (defArgs s__law_common) (defBody s__law_common) (defScope s__law_common) .none kV20 dc20 pm20 an20 cd20 ct20), sl20⟩) (c20 : PySem.W.codeIn K cd20 "_law_common" = true) (k20 : PySem.W.keepIn K (.ref f20) = true)
    (a21 : PySem.W.nsIn K mainGlobals "_law_frac" = some (some (.ref f21))) (l21 : K.lookup f21 = some ⟨oc21, od21, .func (PySem.W.fnOf "_law_frac" "_law_frac" (defArgs s__law_frac) (defBody s__law_frac) (defScope s__law_frac) .none kV21 dc21 pm21 an21 cd21 ct21), sl21⟩) (c21 : PySem.W.codeIn K cd21 "_law_frac" = true) (k21 : PySem.W.keepIn K (.ref f21) = true)
    (a22 : PySem.W.nsIn K mainGlobals "_law_field" = some (some (.ref f22))) (l22 : K.lookup f22 = some ⟨oc22, od22, .func (PySem.W.fnOf "_law_field" "_law_field" (defArgs s__law_field) (defBody s__law_field) (defScope s__law_field) .none kV22 dc22 pm22 an22 cd22 ct22), sl22⟩) (c22 : PySem.W.codeIn K cd22 "_law_field" = true) (k22 : PySem.W.keepIn K (.ref f22) = true)
    (a23 : PySem.W.nsIn K mainGlobals "_law_same" = some (some (.ref f23))) (l23 : K.lookup f23 = some ⟨oc23, od23, .func (PySem.W.fnOf "_law_same" "_law_same" (defArgs s__law_same) (defBody s__law_same) (defScope s__law_same) .none kV23 dc23 pm23 an23 cd23 ct23), sl23⟩) (c23 : PySem.W.codeIn K cd23 "_law_same" = true) (k23 : PySem.W.keepIn K (.ref f23) = true)
    (a24 : PySem.W.nsIn K mainGlobals "_law_number" = some (some (.ref f24))) (l24 : K.lookup f24 = some ⟨oc24, od24, .func (PySem.W.fnOf "_law_number" "_law_number" (defArgs s__law_number) (defBody s__law_number) (defScope s__law_number) .none kV24 dc24 pm24 an24 cd24 ct24), sl24⟩) (c24 : PySem.W.codeIn K cd24 "_law_number" = true) (k24 : PySem.W.keepIn K (.ref f24) = true)
    (a25 : PySem.W.nsIn K mainGlobals "_law_fraction_in" = some (some (.ref f25))) (l25 : K.lookup f25 = some ⟨oc25, od25, .func (PySem.W.fnOf "_law_fraction_in" "_law_fraction_in" (defArgs s__law_fraction_in) (defBody s__law_fraction_in) (defScope s__law_fraction_in) .none kV25 dc25 pm25 an25 cd25 ct25), sl25⟩) (c25 : PySem.W.codeIn K cd25 "_law_fraction_in" = true) (k25 : PySem.W.keepIn K (.ref f25) = true)
    (a26 : PySem.W.nsIn K mainGlobals "_law_fraction_text" = some (some (.ref f26))) (l26 : K.lookup f26 = some ⟨oc26, od26, .func (PySem.W.fnOf "_law_fraction_text" "_law_fraction_text" (defArgs s__law_fraction_text) (defBody s__law_fraction_text) (defScope s__law_fraction_text) .none kV26 dc26 pm26 an26 cd26 ct26), sl26⟩) (c26 : PySem.W.codeIn K cd26 "_law_fraction_text" = true) (k26 : PySem.W.keepIn K (.ref f26) = true)
    (a27 : PySem.W.nsIn K mainGlobals "_law_lines_in" = some (some (.ref f27))) (l27 : K.lookup f27 = some ⟨oc27, od27, .func (PySem.W.fnOf "_law_lines_in" "_law_lines_in" (defArgs s__law_lines_in) (defBody s__law_lines_in) (defScope s__law_lines_in) .none kV27 dc27 pm27 an27 cd27 ct27), sl27⟩) (c27 : PySem.W.codeIn K cd27 "_law_lines_in" = true) (k27 : PySem.W.keepIn K (.ref f27) = true)
    (a28 : PySem.W.nsIn K mainGlobals "_law_numbers_in" = some (some (.ref f28))) (l28 : K.lookup f28 = some ⟨oc28, od28, .func (PySem.W.fnOf "_law_numbers_in" "_law_numbers_in" (defArgs s__law_numbers_in) (defBody s__law_numbers_in) (defScope s__law_numbers_in) .none kV28 dc28 pm28 an28 cd28 ct28), sl28⟩) (c28 : PySem.W.codeIn K cd28 "_law_numbers_in" = true) (k28 : PySem.W.keepIn K (.ref f28) = true)
    (a29 : PySem.W.nsIn K mainGlobals "_law_text" = some (some (.ref f29))) (l29 : K.lookup f29 = some ⟨oc29, od29, .func (PySem.W.fnOf "_law_text" "_law_text" (defArgs s__law_text) (defBody s__law_text) (defScope s__law_text) .none kV29 dc29 pm29 an29 cd29 ct29), sl29⟩) (c29 : PySem.W.codeIn K cd29 "_law_text" = true) (k29 : PySem.W.keepIn K (.ref f29) = true)
    (a30 : PySem.W.nsIn K mainGlobals "_law_field_text" = some (some (.ref f30))) (l30 : K.lookup f30 = some ⟨oc30, od30, .func (PySem.W.fnOf "_law_field_text" "_law_field_text" (defArgs s__law_field_text) (defBody s__law_field_text) (defScope s__law_field_text) .none kV30 dc30 pm30 an30 cd30 ct30), sl30⟩) (c30 : PySem.W.codeIn K cd30 "_law_field_text" = true) (k30 : PySem.W.keepIn K (.ref f30) = true)
    (a31 : PySem.W.nsIn K mainGlobals "_law_land_text" = some (some (.ref f31))) (l31 : K.lookup f31 = some ⟨oc31, od31, .func (PySem.W.fnOf "_law_land_text" "_law_land_text" (defArgs s__law_land_text) (defBody s__law_land_text) (defScope s__law_land_text) .none kV31 dc31 pm31 an31 cd31 ct31), sl31⟩) (c31 : PySem.W.codeIn K cd31 "_law_land_text" = true) (k31 : PySem.W.keepIn K (.ref f31) = true)
    (a32 : PySem.W.nsIn K mainGlobals "_law_field_in" = some (some (.ref f32))) (l32 : K.lookup f32 = some ⟨oc32, od32, .func (PySem.W.fnOf "_law_field_in" "_law_field_in" (defArgs s__law_field_in) (defBody s__law_field_in) (defScope s__law_field_in) .none kV32 dc32 pm32 an32 cd32 ct32), sl32⟩) (c32 : PySem.W.codeIn K cd32 "_law_field_in" = true) (k32 : PySem.W.keepIn K (.ref f32) = true)
    (a33 : PySem.W.nsIn K mainGlobals "_law_read_field" = some (some (.ref f33))) (l33 : K.lookup f33 = some ⟨oc33, od33, .func (PySem.W.fnOf "_law_read_field" "_law_read_field" (defArgs s__law_read_field) (defBody s__law_read_field) (defScope s__law_read_field) .none kV33 dc33 pm33 an33 cd33 ct33), sl33⟩) (c33 : PySem.W.codeIn K cd33 "_law_read_field" = true) (k33 : PySem.W.keepIn K (.ref f33) = true)
    (a34 : PySem.W.nsIn K mainGlobals "_law_read_land" = some (some (.ref f34))) (l34 : K.lookup f34 = some ⟨oc34, od34, .func (PySem.W.fnOf "_law_read_land" "_law_read_land" (defArgs s__law_read_land) (defBody s__law_read_land) (defScope s__law_read_land) .none kV34 dc34 pm34 an34 cd34 ct34), sl34⟩) (c34 : PySem.W.codeIn K cd34 "_law_read_land" = true) (k34 : PySem.W.keepIn K (.ref f34) = true)
    (a35 : PySem.W.nsIn K mainGlobals "_law_bent_string" = some (some (.ref f35))) (l35 : K.lookup f35 = some ⟨oc35, od35, .func (PySem.W.fnOf "_law_bent_string" "_law_bent_string" (defArgs s__law_bent_string) (defBody s__law_bent_string) (defScope s__law_bent_string) .none kV35 dc35 pm35 an35 cd35 ct35), sl35⟩) (c35 : PySem.W.codeIn K cd35 "_law_bent_string" = true) (k35 : PySem.W.keepIn K (.ref f35) = true)
    (a36 : PySem.W.nsIn K mainGlobals "_law_told" = some (some (.ref f36))) (l36 : K.lookup f36 = some ⟨oc36, od36, .func (PySem.W.fnOf "_law_told" "_law_told" (defArgs s__law_told) (defBody s__law_told) (defScope s__law_told) .none kV36 dc36 pm36 an36 cd36 ct36), sl36⟩) (c36 : PySem.W.codeIn K cd36 "_law_told" = true) (k36 : PySem.W.keepIn K (.ref f36) = true)
    (a37 : PySem.W.nsIn K mainGlobals "_law_due" = some (some (.ref f37))) (l37 : K.lookup f37 = some ⟨oc37, od37, .func (PySem.W.fnOf "_law_due" "_law_due" (defArgs s__law_due) (defBody s__law_due) (defScope s__law_due) .none kV37 dc37 pm37 an37 cd37 ct37), sl37⟩) (c37 : PySem.W.codeIn K cd37 "_law_due" = true) (k37 : PySem.W.keepIn K (.ref f37) = true)
    (a38 : PySem.W.nsIn K mainGlobals "law" = some (some (.ref f38))) (l38 : K.lookup f38 = some ⟨oc38, od38, .func (PySem.W.fnOf "law" "law" (defArgs s_law) (defBody s_law) (defScope s_law) .none kV38 dc38 pm38 an38 cd38 ct38), sl38⟩) (c38 : PySem.W.codeIn K cd38 "law" = true) (k38 : PySem.W.keepIn K (.ref f38) = true)
    (z1 : PySem.W.nsIn K mainGlobals "isinstance" = some none)
    (z2 : PySem.W.nsIn K mainGlobals "int" = some none)
    (z3 : PySem.W.nsIn K mainGlobals "bool" = some none)
    (z4 : PySem.W.nsIn K mainGlobals "tuple" = some none)
    (z5 : PySem.W.nsIn K mainGlobals "len" = some none)
    (z6 : PySem.W.nsIn K mainGlobals "all" = some none)
    (z7 : PySem.W.nsIn K mainGlobals "str" = some none)
    (z8 : PySem.W.nsIn K mainGlobals "range" = some none)
    (z9 : PySem.W.nsIn K mainGlobals "abs" = some none)
    (z10 : PySem.W.nsIn K mainGlobals "list" = some none)
    (z11 : PySem.W.nsIn K mainGlobals "min" = some none)
    (z12 : PySem.W.nsIn K mainGlobals "max" = some none)
    (z13 : PySem.W.nsIn K mainGlobals "repr" = some none)
    (y1 : PySem.W.nsIn K mainGlobals "gcd" = some (some (.builtin "math.gcd")))
    (xo_InvalidStone1 : PySem.W.nsIn K mainGlobals "InvalidStone" = some (some (.ref eo_InvalidStone)))
    (xo_InvalidStone2 : PySem.W.excIn K eo_InvalidStone [.type "ValueError", .type "Exception", .type "BaseException", .type "object"] "ValueError.__new__" = true)
    (xo_InvalidStone3 : PySem.W.keepIn K (.ref eo_InvalidStone) = true)
    (xo_InvalidStone4 : PySem.W.subIn K (.ref eo_InvalidStone) (.type "BaseException") = some true)
    (xo_InvalidStone5 : PySem.W.typeIn K (.ref eo_InvalidStone) = some (.type "type"))
    (xo_InvalidStone6 : PySem.W.isClsIn K eo_InvalidStone = true)
    (xo_InvalidStone7 : PySem.W.subIn K (.ref eo_InvalidStone) (.ref eo_InvalidStone) = some true)
    (xo_WrongCount1 : PySem.W.nsIn K mainGlobals "WrongCount" = some (some (.ref eo_WrongCount)))
    (xo_WrongCount2 : PySem.W.excIn K eo_WrongCount [.type "ValueError", .type "Exception", .type "BaseException", .type "object"] "ValueError.__new__" = true)
    (xo_WrongCount3 : PySem.W.keepIn K (.ref eo_WrongCount) = true)
    (xo_WrongCount4 : PySem.W.subIn K (.ref eo_WrongCount) (.type "BaseException") = some true)
    (xo_WrongCount5 : PySem.W.typeIn K (.ref eo_WrongCount) = some (.type "type"))
    (xo_WrongCount6 : PySem.W.isClsIn K eo_WrongCount = true)
    (xo_WrongCount7 : PySem.W.subIn K (.ref eo_WrongCount) (.ref eo_WrongCount) = some true)
    (xo_InvalidLine1 : PySem.W.nsIn K mainGlobals "InvalidLine" = some (some (.ref eo_InvalidLine)))
    (xo_InvalidLine2 : PySem.W.excIn K eo_InvalidLine [.type "ValueError", .type "Exception", .type "BaseException", .type "object"] "ValueError.__new__" = true)
    (xo_InvalidLine3 : PySem.W.keepIn K (.ref eo_InvalidLine) = true)
    (xo_InvalidLine4 : PySem.W.subIn K (.ref eo_InvalidLine) (.type "BaseException") = some true)
    (xo_InvalidLine5 : PySem.W.typeIn K (.ref eo_InvalidLine) = some (.type "type"))
    (xo_InvalidLine6 : PySem.W.isClsIn K eo_InvalidLine = true)
    (xo_InvalidLine7 : PySem.W.subIn K (.ref eo_InvalidLine) (.ref eo_InvalidLine) = some true)
    (xd_InvalidLine1 : PySem.W.nsIn K mainGlobals "InvalidLine" = some (some (.ref ed_InvalidLine)))
    (xd_InvalidLine2 : PySem.W.excIn K ed_InvalidLine [.type "ValueError", .type "Exception", .type "BaseException", .type "object"] "ValueError.__new__" = true)
    (xd_InvalidLine3 : PySem.W.keepIn K (.ref ed_InvalidLine) = true)
    (xd_InvalidLine4 : PySem.W.subIn K (.ref ed_InvalidLine) (.type "BaseException") = some true)
    (xd_InvalidLine5 : PySem.W.typeIn K (.ref ed_InvalidLine) = some (.type "type"))
    (xd_InvalidLine6 : PySem.W.isClsIn K ed_InvalidLine = true)
    (xd_InvalidLine7 : PySem.W.subIn K (.ref ed_InvalidLine) (.ref ed_InvalidLine) = some true)
    (xd_InvalidLine8 : PySem.W.findIn K (.ref ed_InvalidLine) "__getattribute__" = some (some (.builtin "BaseException.__getattribute__")))
    (xd_InvalidLine9 : PySem.W.findIn K (.ref ed_InvalidLine) "__getattr__" = some none)
    (xd_InvalidLine10 : PySem.W.subIn K (.ref ed_InvalidLine) (.type "BaseException") = some true)
    (xd_InvalidLine11 : PySem.W.hasDictIn K ed_InvalidLine = true)
    (xd_InvalidLine12 : PySem.W.findIn K (.ref ed_InvalidLine) "__class__" = some (some (.builtin "object.__class__")))
    (xd_InvalidLine13 : PySem.W.specialIn K (.builtin "object.__class__") "__get__" = some (some (.builtin "getset_descriptor.__get__")))
    (xd_InvalidLine14 : PySem.W.takesIn K (.builtin "object.__class__") = some true)
    (xd_InvalidLine15 : PySem.W.mroIn K ed_InvalidLine (.type "object") = some true)
    (xd_InvalidLine16 : PySem.W.nsIn K mainGlobals "SpotError" = some (some (.ref ed_InvalidLine1)))
    (xd_InvalidLine17 : PySem.W.isClsIn K ed_InvalidLine1 = true)
    (xd_InvalidLine18 : PySem.W.typeIn K (.ref ed_InvalidLine1) = some (.type "type"))
    (xd_InvalidLine19 : PySem.W.subIn K (.ref ed_InvalidLine) (.ref ed_InvalidLine1) = some true)
    (xd_InvalidLine20 : PySem.W.nsIn K mainGlobals "InvalidStone" = some (some (.ref ed_InvalidLine2)))
    (xd_InvalidLine21 : PySem.W.isClsIn K ed_InvalidLine2 = true)
    (xd_InvalidLine22 : PySem.W.typeIn K (.ref ed_InvalidLine2) = some (.type "type"))
    (xd_InvalidLine23 : PySem.W.subIn K (.ref ed_InvalidLine) (.ref ed_InvalidLine2) = some false)
    (xd_InvalidLine24 : PySem.W.nsIn K mainGlobals "WrongCount" = some (some (.ref ed_InvalidLine3)))
    (xd_InvalidLine25 : PySem.W.isClsIn K ed_InvalidLine3 = true)
    (xd_InvalidLine26 : PySem.W.typeIn K (.ref ed_InvalidLine3) = some (.type "type"))
    (xd_InvalidLine27 : PySem.W.subIn K (.ref ed_InvalidLine) (.ref ed_InvalidLine3) = some false)
    (xu_SpotError1 : PySem.W.nsIn K mainGlobals "SpotError" = some (some (.ref eu_SpotError)))
    (xu_SpotError2 : PySem.W.subIn K (.ref eu_SpotError) (.type "BaseException") = some true)
    (xu_SpotError3 : PySem.W.isClsIn K eu_SpotError = true)
    (xu_SpotError4 : PySem.W.typeIn K (.ref eu_SpotError) = some (.type "type"))
    (xu_SpotError5 : PySem.W.nsIn K mainGlobals "InvalidStone" = some (some (.ref eu_SpotError1)))
    (xu_SpotError6 : PySem.W.subIn K (.ref eu_SpotError1) (.ref eu_SpotError) = some true)
    (xu_SpotError7 : PySem.W.nsIn K mainGlobals "WrongCount" = some (some (.ref eu_SpotError2)))
    (xu_SpotError8 : PySem.W.subIn K (.ref eu_SpotError2) (.ref eu_SpotError) = some true)
    (g1 : PySem.W.nsIn K mainGlobals "FARTHEST" = some (some (.int 1000 zs1)))
    (g2 : PySem.W.nsIn K mainGlobals "MOST_STONES" = some (some (.int 12 zs2)))
    (g3 : PySem.W.nsIn K mainGlobals "MOST_DIGITS" = some (some (.int 30 zs3)))
    (g4 : PySem.W.nsIn K mainGlobals "DIGITS" = some (some (.str "0123456789" zs4)))
    (g5 : PySem.W.nsIn K mainGlobals "MOST_FIELDS" = some (some (.int 8 zs5)))
    : ∃ fd : FuncData, (∀ (s : Shared) (v : Value), BindsTo s fd ⟨[v], []⟩ [("script", v)]) ∧ ∀ base : Heap, K.In base → base.Ns mainGlobals mg → GOk l.prog w K mg base (L2.CX l.prog w) 7 fa fd ["script"] (spLw K) := by
  have e := hfa.symm.trans (PySem.W.mg_of X G a38)
  cases e
  have F1 : Fun K "is_whole" "is_whole" s_is_whole f1 _ := fun_mk (st := s_is_whole) l1 c1 k1
  have b1 := F1.binds (ps := P_is_whole) fun _ _ _ _ _ _ us hl => match us, hl with | [_], _ => rfl
  have m1 := PySem.W.mg_of X G a1
  have F2 : Fun K "is_fraction" "is_fraction" s_is_fraction f2 _ := fun_mk (st := s_is_fraction) l2 c2 k2
  have b2 := F2.binds (ps := P_is_fraction) fun _ _ _ _ _ _ us hl => match us, hl with | [_], _ => rfl
  have m2 := PySem.W.mg_of X G a2
  have F3 : Fun K "is_stone" "is_stone" s_is_stone f3 _ := fun_mk (st := s_is_stone) l3 c3 k3
  have b3 := F3.binds (ps := P_is_stone) fun _ _ _ _ _ _ us hl => match us, hl with | [_], _ => rfl
  have m3 := PySem.W.mg_of X G a3
  have F4 : Fun K "check_field" "check_field" s_check_field f4 _ := fun_mk (st := s_check_field) l4 c4 k4
  have b4 := F4.binds (ps := P_check_field) fun _ _ _ _ _ _ us hl => match us, hl with | [_], _ => rfl
  have m4 := PySem.W.mg_of X G a4
  have F5 : Fun K "demand" "demand" s_demand f5 _ := fun_mk (st := s_demand) l5 c5 k5
  have b5 := F5.binds (ps := P_demand) fun _ _ _ _ _ _ us hl => match us, hl with | [_], _ => rfl
  have m5 := PySem.W.mg_of X G a5
  have F6 : Fun K "number_in" "number_in" s_number_in f6 _ := fun_mk (st := s_number_in) l6 c6 k6
  have b6 := F6.binds (ps := P_number_in) fun _ _ _ _ _ _ us hl => match us, hl with | [_], _ => rfl
  have m6 := PySem.W.mg_of X G a6
  have F7 : Fun K "write_fraction" "write_fraction" s_write_fraction f7 _ := fun_mk (st := s_write_fraction) l7 c7 k7
  have b7 := F7.binds (ps := P_write_fraction) fun _ _ _ _ _ _ us hl => match us, hl with | [_], _ => rfl
  have m7 := PySem.W.mg_of X G a7
  have F8 : Fun K "read_fraction" "read_fraction" s_read_fraction f8 _ := fun_mk (st := s_read_fraction) l8 c8 k8
  have b8 := F8.binds (ps := P_read_fraction) fun _ _ _ _ _ _ us hl => match us, hl with | [_], _ => rfl
  have m8 := PySem.W.mg_of X G a8
  have F9 : Fun K "line_of" "line_of" s_line_of f9 _ := fun_mk (st := s_line_of) l9 c9 k9
  have b9 := F9.binds (ps := P_line_of) fun _ _ _ _ _ _ us hl => match us, hl with | [_, _], _ => rfl
  have m9 := PySem.W.mg_of X G a9
  have F10 : Fun K "lines_of" "lines_of" s_lines_of f10 _ := fun_mk (st := s_lines_of) l10 c10 k10
  have b10 := F10.binds (ps := P_lines_of) fun _ _ _ _ _ _ us hl => match us, hl with | [_], _ => rfl
  have m10 := PySem.W.mg_of X G a10
  have F11 : Fun K "items_in" "items_in" s_items_in f11 _ := fun_mk (st := s_items_in) l11 c11 k11
  have b11 := F11.binds (ps := P_items_in) fun _ _ _ _ _ _ us hl => match us, hl with | [_, _], _ => rfl
  have m11 := PySem.W.mg_of X G a11
  have F12 : Fun K "numbers_in" "numbers_in" s_numbers_in f12 _ := fun_mk (st := s_numbers_in) l12 c12 k12
  have b12 := F12.binds (ps := P_numbers_in) fun _ _ _ _ _ _ us hl => match us, hl with | [_, _, _], _ => rfl
  have m12 := PySem.W.mg_of X G a12
  have F13 : Fun K "write_field" "write_field" s_write_field f13 _ := fun_mk (st := s_write_field) l13 c13 k13
  have b13 := F13.binds (ps := P_write_field) fun _ _ _ _ _ _ us hl => match us, hl with | [_], _ => rfl
  have m13 := PySem.W.mg_of X G a13
  have F14 : Fun K "write_land" "write_land" s_write_land f14 _ := fun_mk (st := s_write_land) l14 c14 k14
  have b14 := F14.binds (ps := P_write_land) fun _ _ _ _ _ _ us hl => match us, hl with | [_], _ => rfl
  have m14 := PySem.W.mg_of X G a14
  have F15 : Fun K "field_in" "field_in" s_field_in f15 _ := fun_mk (st := s_field_in) l15 c15 k15
  have b15 := F15.binds (ps := P_field_in) fun _ _ _ _ _ _ us hl => match us, hl with | [_], _ => rfl
  have m15 := PySem.W.mg_of X G a15
  have F16 : Fun K "read_field" "read_field" s_read_field f16 _ := fun_mk (st := s_read_field) l16 c16 k16
  have b16 := F16.binds (ps := P_read_field) fun _ _ _ _ _ _ us hl => match us, hl with | [_], _ => rfl
  have m16 := PySem.W.mg_of X G a16
  have F17 : Fun K "read_land" "read_land" s_read_land f17 _ := fun_mk (st := s_read_land) l17 c17 k17
  have b17 := F17.binds (ps := P_read_land) fun _ _ _ _ _ _ us hl => match us, hl with | [_], _ => rfl
  have m17 := PySem.W.mg_of X G a17
  have F18 : Fun K "_law_cell" "_law_cell" s__law_cell f18 _ := fun_mk (st := s__law_cell) l18 c18 k18
  have b18 := F18.binds (ps := P__law_cell) fun _ _ _ _ _ _ us hl => match us, hl with | [_, _], _ => rfl
  have m18 := PySem.W.mg_of X G a18
  have F19 : Fun K "_law_numbers" "_law_numbers" s__law_numbers f19 _ := fun_mk (st := s__law_numbers) l19 c19 k19
  have b19 := F19.binds (ps := P__law_numbers) fun _ _ _ _ _ _ us hl => match us, hl with | [_, _, _], _ => rfl
  have m19 := PySem.W.mg_of X G a19
  have F20 : Fun K "_law_common" "_law_common" s__law_common f20 _ := fun_mk (st := s__law_common) l20 c20 k20
  have b20 := F20.binds (ps := P__law_common) fun _ _ _ _ _ _ us hl => match us, hl with | [_, _], _ => rfl
  have m20 := PySem.W.mg_of X G a20
  have F21 : Fun K "_law_frac" "_law_frac" s__law_frac f21 _ := fun_mk (st := s__law_frac) l21 c21 k21
  have b21 := F21.binds (ps := P__law_frac) fun _ _ _ _ _ _ us hl => match us, hl with | [_, _], _ => rfl
  have m21 := PySem.W.mg_of X G a21
  have F22 : Fun K "_law_field" "_law_field" s__law_field f22 _ := fun_mk (st := s__law_field) l22 c22 k22
  have b22 := F22.binds (ps := P__law_field) fun _ _ _ _ _ _ us hl => match us, hl with | [_, _, _], _ => rfl
  have m22 := PySem.W.mg_of X G a22
  have F23 : Fun K "_law_same" "_law_same" s__law_same f23 _ := fun_mk (st := s__law_same) l23 c23 k23
  have b23 := F23.binds (ps := P__law_same) fun _ _ _ _ _ _ us hl => match us, hl with | [_, _], _ => rfl
  have m23 := PySem.W.mg_of X G a23
  have F24 : Fun K "_law_number" "_law_number" s__law_number f24 _ := fun_mk (st := s__law_number) l24 c24 k24
  have b24 := F24.binds (ps := P__law_number) fun _ _ _ _ _ _ us hl => match us, hl with | [_], _ => rfl
  have m24 := PySem.W.mg_of X G a24
  have F25 : Fun K "_law_fraction_in" "_law_fraction_in" s__law_fraction_in f25 _ := fun_mk (st := s__law_fraction_in) l25 c25 k25
  have b25 := F25.binds (ps := P__law_fraction_in) fun _ _ _ _ _ _ us hl => match us, hl with | [_], _ => rfl
  have m25 := PySem.W.mg_of X G a25
  have F26 : Fun K "_law_fraction_text" "_law_fraction_text" s__law_fraction_text f26 _ := fun_mk (st := s__law_fraction_text) l26 c26 k26
  have b26 := F26.binds (ps := P__law_fraction_text) fun _ _ _ _ _ _ us hl => match us, hl with | [_], _ => rfl
  have m26 := PySem.W.mg_of X G a26
  have F27 : Fun K "_law_lines_in" "_law_lines_in" s__law_lines_in f27 _ := fun_mk (st := s__law_lines_in) l27 c27 k27
  have b27 := F27.binds (ps := P__law_lines_in) fun _ _ _ _ _ _ us hl => match us, hl with | [_], _ => rfl
  have m27 := PySem.W.mg_of X G a27
  have F28 : Fun K "_law_numbers_in" "_law_numbers_in" s__law_numbers_in f28 _ := fun_mk (st := s__law_numbers_in) l28 c28 k28
  have b28 := F28.binds (ps := P__law_numbers_in) fun _ _ _ _ _ _ us hl => match us, hl with | [_, _], _ => rfl
  have m28 := PySem.W.mg_of X G a28
  have F29 : Fun K "_law_text" "_law_text" s__law_text f29 _ := fun_mk (st := s__law_text) l29 c29 k29
  have b29 := F29.binds (ps := P__law_text) fun _ _ _ _ _ _ us hl => match us, hl with | [_, _], _ => rfl
  have m29 := PySem.W.mg_of X G a29
  have F30 : Fun K "_law_field_text" "_law_field_text" s__law_field_text f30 _ := fun_mk (st := s__law_field_text) l30 c30 k30
  have b30 := F30.binds (ps := P__law_field_text) fun _ _ _ _ _ _ us hl => match us, hl with | [_], _ => rfl
  have m30 := PySem.W.mg_of X G a30
  have F31 : Fun K "_law_land_text" "_law_land_text" s__law_land_text f31 _ := fun_mk (st := s__law_land_text) l31 c31 k31
  have b31 := F31.binds (ps := P__law_land_text) fun _ _ _ _ _ _ us hl => match us, hl with | [_], _ => rfl
  have m31 := PySem.W.mg_of X G a31
  have F32 : Fun K "_law_field_in" "_law_field_in" s__law_field_in f32 _ := fun_mk (st := s__law_field_in) l32 c32 k32
  have b32 := F32.binds (ps := P__law_field_in) fun _ _ _ _ _ _ us hl => match us, hl with | [_], _ => rfl
  have m32 := PySem.W.mg_of X G a32
  have F33 : Fun K "_law_read_field" "_law_read_field" s__law_read_field f33 _ := fun_mk (st := s__law_read_field) l33 c33 k33
  have b33 := F33.binds (ps := P__law_read_field) fun _ _ _ _ _ _ us hl => match us, hl with | [_], _ => rfl
  have m33 := PySem.W.mg_of X G a33
  have F34 : Fun K "_law_read_land" "_law_read_land" s__law_read_land f34 _ := fun_mk (st := s__law_read_land) l34 c34 k34
  have b34 := F34.binds (ps := P__law_read_land) fun _ _ _ _ _ _ us hl => match us, hl with | [_], _ => rfl
  have m34 := PySem.W.mg_of X G a34
  have F35 : Fun K "_law_bent_string" "_law_bent_string" s__law_bent_string f35 _ := fun_mk (st := s__law_bent_string) l35 c35 k35
  have b35 := F35.binds (ps := P__law_bent_string) fun _ _ _ _ _ _ us hl => match us, hl with | [_, _, _], _ => rfl
  have m35 := PySem.W.mg_of X G a35
  have F36 : Fun K "_law_told" "_law_told" s__law_told f36 _ := fun_mk (st := s__law_told) l36 c36 k36
  have b36 := F36.binds (ps := P__law_told) fun _ _ _ _ _ _ us hl => match us, hl with | [_, _], _ => rfl
  have m36 := PySem.W.mg_of X G a36
  have F37 : Fun K "_law_due" "_law_due" s__law_due f37 _ := fun_mk (st := s__law_due) l37 c37 k37
  have b37 := F37.binds (ps := P__law_due) fun _ _ _ _ _ _ us hl => match us, hl with | [_, _], _ => rfl
  have m37 := PySem.W.mg_of X G a37
  have F38 : Fun K "law" "law" s_law fa _ := fun_mk (st := s_law) l38 c38 k38
  have T : Tx K mg := ⟨PySem.W.mg_none_of X G z1, PySem.W.mg_none_of X G z2, PySem.W.mg_none_of X G z3, PySem.W.mg_none_of X G z4, PySem.W.mg_none_of X G z5, PySem.W.mg_none_of X G z6, PySem.W.mg_none_of X G z7, PySem.W.mg_none_of X G z8, PySem.W.mg_none_of X G z9, PySem.W.mg_none_of X G z10, PySem.W.mg_none_of X G z11, PySem.W.mg_none_of X G z12, PySem.W.mg_none_of X G z13, PySem.W.mg_of X G y1, ⟨eo_InvalidStone, ⟨PySem.W.mg_of X G xo_InvalidStone1, xo_InvalidStone2, xo_InvalidStone3, xo_InvalidStone4, xo_InvalidStone5, ex_self xo_InvalidStone4 xo_InvalidStone6 xo_InvalidStone5 xo_InvalidStone7⟩⟩, ⟨eo_WrongCount, ⟨PySem.W.mg_of X G xo_WrongCount1, xo_WrongCount2, xo_WrongCount3, xo_WrongCount4, xo_WrongCount5, ex_self xo_WrongCount4 xo_WrongCount6 xo_WrongCount5 xo_WrongCount7⟩⟩, ⟨eo_InvalidLine, ⟨PySem.W.mg_of X G xo_InvalidLine1, xo_InvalidLine2, xo_InvalidLine3, xo_InvalidLine4, xo_InvalidLine5, ex_self xo_InvalidLine4 xo_InvalidLine6 xo_InvalidLine5 xo_InvalidLine7⟩⟩, ⟨ed_InvalidLine, ed_InvalidLine1, ed_InvalidLine2, ed_InvalidLine3, ⟨PySem.W.mg_of X G xd_InvalidLine1, xd_InvalidLine2, xd_InvalidLine3, xd_InvalidLine4, xd_InvalidLine5, ex_self xd_InvalidLine4 xd_InvalidLine6 xd_InvalidLine5 xd_InvalidLine7⟩, ⟨xd_InvalidLine8, xd_InvalidLine9, xd_InvalidLine10, xd_InvalidLine11, xd_InvalidLine12, xd_InvalidLine13, xd_InvalidLine14, xd_InvalidLine15⟩, PySem.W.mg_of X G xd_InvalidLine16, kit_yes xd_InvalidLine17 xd_InvalidLine18 xd_InvalidLine19, PySem.W.mg_of X G xd_InvalidLine20, PySem.W.mg_of X G xd_InvalidLine24, kit_no xd_InvalidLine7 xd_InvalidLine21 xd_InvalidLine22 xd_InvalidLine23, kit_no xd_InvalidLine7 xd_InvalidLine25 xd_InvalidLine26 xd_InvalidLine27⟩, ⟨eu_SpotError, PySem.W.mg_of X G xu_SpotError1, fun c hc => by (simp only [List.mem_cons, List.not_mem_nil, or_false] at hc; rcases hc with rfl | rfl <;> first | exact ⟨_, PySem.W.mg_of X G xu_SpotError5, ex_sub xu_SpotError2 xu_SpotError3 xu_SpotError4 xu_SpotError6⟩ | exact ⟨_, PySem.W.mg_of X G xu_SpotError7, ex_sub xu_SpotError2 xu_SpotError3 xu_SpotError4 xu_SpotError8⟩)⟩, ⟨_, .int (1000), PySem.W.mg_of X G g1, ⟨_, rfl⟩, fun _ => .int _⟩, ⟨_, .int (12), PySem.W.mg_of X G g2, ⟨_, rfl⟩, fun _ => .int _⟩, ⟨_, .int (30), PySem.W.mg_of X G g3, ⟨_, rfl⟩, fun _ => .int _⟩, ⟨_, .str "0123456789", PySem.W.mg_of X G g4, ⟨_, rfl⟩, fun _ => .str _⟩, ⟨_, .int (8), PySem.W.mg_of X G g5, ⟨_, rfl⟩, fun _ => .int _⟩⟩
  refine ⟨PySem.W.fnOf "law" "law" (defArgs s_law) (defBody s_law) (defScope s_law) .none kV38 dc38 pm38 an38 cd38 ct38, fun s v => .of_eq rfl, fun base KB NB => ?_⟩
  have q1 : Cal l.prog w K mg base 1 "is_whole" P_is_whole _ := .mk' F1 m1 b1 (w_is_whole T F1 )
  have q2 : Cal l.prog w K mg base 2 "is_fraction" P_is_fraction _ := .mk' F2 m2 b2 (w_is_fraction T F2 q1)
  have q3 : Cal l.prog w K mg base 2 "is_stone" P_is_stone _ := .mk' F3 m3 b3 (w_is_stone T F3 q1)
  have q4 : CalN l.prog w K mg base 3 "check_field" P_check_field _ := .mk' F4 m4 b4 (w_check_field T F4 q3)
  have q5 : Cal l.prog w K mg base 1 "demand" P_demand _ := .mk' F5 m5 b5 (w_demand T F5 )
  have q6 : Cal l.prog w K mg base 2 "number_in" P_number_in _ := .mk' F6 m6 b6 (w_number_in T F6 q5)
  have q7 : Cal l.prog w K mg base 1 "write_fraction" P_write_fraction _ := .mk' F7 m7 b7 (w_write_fraction T F7 )
  have q8 : Cal l.prog w K mg base 3 "read_fraction" P_read_fraction _ := .mk' F8 m8 b8 (w_read_fraction T F8 q5 q6 q2)
  have q9 : Cal l.prog w K mg base 1 "line_of" P_line_of _ := .mk' F9 m9 b9 (w_line_of T F9 )
  have q10 : Cal l.prog w K mg base 2 "lines_of" P_lines_of _ := .mk' F10 m10 b10 (w_lines_of T F10 q5)
  have q11 : Cal l.prog w K mg base 2 "items_in" P_items_in _ := .mk' F11 m11 b11 (w_items_in T F11 q5)
  have q12 : Cal l.prog w K mg base 3 "numbers_in" P_numbers_in _ := .mk' F12 m12 b12 (w_numbers_in T F12 q11 q6 q5)
  have q13 : Cal l.prog w K mg base 2 "write_field" P_write_field _ := .mk' F13 m13 b13 (w_write_field T F13 q9)
  have q14 : Cal l.prog w K mg base 3 "write_land" P_write_land _ := .mk' F14 m14 b14 (w_write_land T F14 q9 q13)
  have q15 : Cal l.prog w K mg base 4 "field_in" P_field_in _ := .mk' F15 m15 b15 (w_field_in T F15 q5 q12 q4)
  have q16 : Cal l.prog w K mg base 5 "read_field" P_read_field _ := .mk' F16 m16 b16 (w_read_field T F16 q10 q15 q5)
  have q17 : Cal l.prog w K mg base 5 "read_land" P_read_land _ := .mk' F17 m17 b17 (w_read_land T F17 q10 q12 q5 q15)
  have q18 : Cal l.prog w K mg base 1 "_law_cell" P__law_cell _ := .mk' F18 m18 b18 (w__law_cell T F18 )
  have q19 : Cal l.prog w K mg base 1 "_law_numbers" P__law_numbers _ := .mk' F19 m19 b19 (w__law_numbers T F19 )
  have q20 : Cal l.prog w K mg base 1 "_law_common" P__law_common _ := .mk' F20 m20 b20 (w__law_common T F20 )
  have q21 : Cal l.prog w K mg base 2 "_law_frac" P__law_frac _ := .mk' F21 m21 b21 (w__law_frac T F21 q20)
  have q22 : Cal l.prog w K mg base 2 "_law_field" P__law_field _ := .mk' F22 m22 b22 (w__law_field T F22 q18 q19)
  have q23 := c__law_same (P := l.prog) (w := w) (base := base) T F23 m23 b23  6
  have q24 : Cal l.prog w K mg base 1 "_law_number" P__law_number _ := .mk' F24 m24 b24 (w__law_number T F24 )
  have q25 : Cal l.prog w K mg base 2 "_law_fraction_in" P__law_fraction_in _ := .mk' F25 m25 b25 (w__law_fraction_in T F25 q24 q20)
  have q26 : Cal l.prog w K mg base 1 "_law_fraction_text" P__law_fraction_text _ := .mk' F26 m26 b26 (w__law_fraction_text T F26 )
  have q27 : Cal l.prog w K mg base 1 "_law_lines_in" P__law_lines_in _ := .mk' F27 m27 b27 (w__law_lines_in T F27 )
  have q28 : Cal l.prog w K mg base 2 "_law_numbers_in" P__law_numbers_in _ := .mk' F28 m28 b28 (w__law_numbers_in T F28 q24)
  have q29 : Cal l.prog w K mg base 1 "_law_text" P__law_text _ := .mk' F29 m29 b29 (w__law_text T F29 )
  have q30 : Cal l.prog w K mg base 2 "_law_field_text" P__law_field_text _ := .mk' F30 m30 b30 (w__law_field_text T F30 q29)
  have q31 : Cal l.prog w K mg base 3 "_law_land_text" P__law_land_text _ := .mk' F31 m31 b31 (w__law_land_text T F31 q29 q30)
  have q32 : Cal l.prog w K mg base 3 "_law_field_in" P__law_field_in _ := .mk' F32 m32 b32 (w__law_field_in T F32 q28)
  have q33 : Cal l.prog w K mg base 4 "_law_read_field" P__law_read_field _ := .mk' F33 m33 b33 (w__law_read_field T F33 q27 q32)
  have q34 : Cal l.prog w K mg base 4 "_law_read_land" P__law_read_land _ := .mk' F34 m34 b34 (w__law_read_land T F34 q27 q28 q32)
  have q35 : Cal l.prog w K mg base 1 "_law_bent_string" P__law_bent_string _ := .mk' F35 m35 b35 (w__law_bent_string T F35 )
  have q36 : Cal l.prog w K mg base 6 "_law_told" P__law_told _ := .mk' F36 m36 b36 (w__law_told T F36 q8 q16 q17)
  have q37 : Cal l.prog w K mg base 5 "_law_due" P__law_due _ := .mk' F37 m37 b37 (w__law_due T F37 q25 q33 q34)
  exact (w_law T F38 q18 q19 q21 q22 q31 q30 q26 q14 q13 q7 q23 q8 q16 q17 q35 q37 q36).imp fun _ _ _ _ h => lw_of h
end
end Lw
open PySem PySem.W PyProof.Rows
set_option maxHeartbeats 0 in
theorem PySem.Challenge.cw_spotincommon_k72_fractions_fields_and_la_holds : PySem.Challenge.rw_spotincommon_k72_fractions_fields_and_la.Holds := by
  w_on; o_law; k_head; (case hw => w_witness2)
  k_fill
  refine DL.walk_ofG (l := PySem.Challenge.rw_spotincommon_k72_fractions_fields_and_la) (n := 63) (k := 7) (x := "script") (C := fun w => L2.CX PySem.Challenge.pw_spotincommon_k72_fractions_fields_and_la w) (sp := fun w => Lw.spLw _) rfl (by decide) rfl ⟨rfl, by decide, by decide⟩ (fun w h Y => PySem.W.kIn_of Y) ?F (fun _ _ a ns hl _ hS => ⟨a, ns, rfl, hS, hl, fun _ => rfl⟩) (fun w H s e s' h => DL.no_cx H s e s' h)
  case F =>
    intro w mg fa h KX G hmg
    refine' Lw.all_mk KX G hmg ?a1 ?l1 ?c1 ?k1 ?a2 ?l2 ?c2 ?k2 ?a3 ?l3 ?c3 ?k3 ?a4 ?l4 ?c4 ?k4 ?a5 ?l5 ?c5 ?k5 ?a6 ?l6 ?c6 ?k6 ?a7 ?l7 ?c7 ?k7 ?a8 ?l8 ?c8 ?k8 ?a9 ?l9 ?c9 ?k9 ?a10 ?l10 ?c10 ?k10 ?a11 ?l11 ?c11 ?k11 ?a12 ?l12 ?c12 ?k12 ?a13 ?l13 ?c13 ?k13 ?a14 ?l14 ?c14 ?k14 ?a15 ?l15 ?c15 ?k15 ?a16 ?l16 ?c16 ?k16 ?a17 ?l17 ?c17 ?k17 ?a18 ?l18 ?c18 ?k18 ?a19 ?l19 ?c19 ?k19 ?a20 ?l20 ?c20 ?k20 ?a21 ?l21 ?c21 ?k21 ?a22 ?l22 ?c22 ?k22 ?a23 ?l23 ?c23 ?k23 ?a24 ?l24 ?c24 ?k24 ?a25 ?l25 ?c25 ?k25 ?a26 ?l26 ?c26 ?k26 ?a27 ?l27 ?c27 ?k27 ?a28 ?l28 ?c28 ?k28 ?a29 ?l29 ?c29 ?k29 ?a30 ?l30 ?c30 ?k30 ?a31 ?l31 ?c31 ?k31 ?a32 ?l32 ?c32 ?k32 ?a33 ?l33 ?c33 ?k33 ?a34 ?l34 ?c34 ?k34 ?a35 ?l35 ?c35 ?k35 ?a36 ?l36 ?c36 ?k36 ?a37 ?l37 ?c37 ?k37 ?a38 ?l38 ?c38 ?k38 ?z1 ?z2 ?z3 ?z4 ?z5 ?z6 ?z7 ?z8 ?z9 ?z10 ?z11 ?z12 ?z13 ?y1 ?xo_InvalidStone1 ?xo_InvalidStone2 ?xo_InvalidStone3 ?xo_InvalidStone4 ?xo_InvalidStone5 ?xo_InvalidStone6 ?xo_InvalidStone7 ?xo_WrongCount1 ?xo_WrongCount2 ?xo_WrongCount3 ?xo_WrongCount4 ?xo_WrongCount5 ?xo_WrongCount6 ?xo_WrongCount7 ?xo_InvalidLine1 ?xo_InvalidLine2 ?xo_InvalidLine3 ?xo_InvalidLine4 ?xo_InvalidLine5 ?xo_InvalidLine6 ?xo_InvalidLine7 ?xd_InvalidLine1 ?xd_InvalidLine2 ?xd_InvalidLine3 ?xd_InvalidLine4 ?xd_InvalidLine5 ?xd_InvalidLine6 ?xd_InvalidLine7 ?xd_InvalidLine8 ?xd_InvalidLine9 ?xd_InvalidLine10 ?xd_InvalidLine11 ?xd_InvalidLine12 ?xd_InvalidLine13 ?xd_InvalidLine14 ?xd_InvalidLine15 ?xd_InvalidLine16 ?xd_InvalidLine17 ?xd_InvalidLine18 ?xd_InvalidLine19 ?xd_InvalidLine20 ?xd_InvalidLine21 ?xd_InvalidLine22 ?xd_InvalidLine23 ?xd_InvalidLine24 ?xd_InvalidLine25 ?xd_InvalidLine26 ?xd_InvalidLine27 ?xu_SpotError1 ?xu_SpotError2 ?xu_SpotError3 ?xu_SpotError4 ?xu_SpotError5 ?xu_SpotError6 ?xu_SpotError7 ?xu_SpotError8 ?g1 ?g2 ?g3 ?g4 ?g5
    (case a1 => k_is)
    (case l1 => k_is)
    (case c1 => k_is)
    (case k1 => k_is)
    (case a2 => k_is)
    (case l2 => k_is)
    (case c2 => k_is)
    (case k2 => k_is)
    (case a3 => k_is)
    (case l3 => k_is)
    (case c3 => k_is)
    (case k3 => k_is)
    (case a4 => k_is)
    (case l4 => k_is)
    (case c4 => k_is)
    (case k4 => k_is)
    (case a5 => k_is)
    (case l5 => k_is)
    (case c5 => k_is)
    (case k5 => k_is)
    (case a6 => k_is)
    (case l6 => k_is)
    (case c6 => k_is)
    (case k6 => k_is)
    (case a7 => k_is)
    (case l7 => k_is)
    (case c7 => k_is)
    (case k7 => k_is)
    (case a8 => k_is)
    (case l8 => k_is)
    (case c8 => k_is)
    (case k8 => k_is)
    (case a9 => k_is)
    (case l9 => k_is)
    (case c9 => k_is)
    (case k9 => k_is)
    (case a10 => k_is)
    (case l10 => k_is)
    (case c10 => k_is)
    (case k10 => k_is)
    (case a11 => k_is)
    (case l11 => k_is)
    (case c11 => k_is)
    (case k11 => k_is)
    (case a12 => k_is)
    (case l12 => k_is)
    (case c12 => k_is)
    (case k12 => k_is)
    (case a13 => k_is)
    (case l13 => k_is)
    (case c13 => k_is)
    (case k13 => k_is)
    (case a14 => k_is)
    (case l14 => k_is)
    (case c14 => k_is)
    (case k14 => k_is)
    (case a15 => k_is)
    (case l15 => k_is)
    (case c15 => k_is)
    (case k15 => k_is)
    (case a16 => k_is)
    (case l16 => k_is)
    (case c16 => k_is)
    (case k16 => k_is)
    (case a17 => k_is)
    (case l17 => k_is)
    (case c17 => k_is)
    (case k17 => k_is)
    (case a18 => k_is)
    (case l18 => k_is)
    (case c18 => k_is)
    (case k18 => k_is)
    (case a19 => k_is)
    (case l19 => k_is)
    (case c19 => k_is)
    (case k19 => k_is)
    (case a20 => k_is)
    (case l20 => k_is)
    (case c20 => k_is)
    (case k20 => k_is)
    (case a21 => k_is)
    (case l21 => k_is)
    (case c21 => k_is)
    (case k21 => k_is)
    (case a22 => k_is)
    (case l22 => k_is)
    (case c22 => k_is)
    (case k22 => k_is)
    (case a23 => k_is)
    (case l23 => k_is)
    (case c23 => k_is)
    (case k23 => k_is)
    (case a24 => k_is)
    (case l24 => k_is)
    (case c24 => k_is)
    (case k24 => k_is)
    (case a25 => k_is)
    (case l25 => k_is)
    (case c25 => k_is)
    (case k25 => k_is)
    (case a26 => k_is)
    (case l26 => k_is)
    (case c26 => k_is)
    (case k26 => k_is)
    (case a27 => k_is)
    (case l27 => k_is)
    (case c27 => k_is)
    (case k27 => k_is)
    (case a28 => k_is)
    (case l28 => k_is)
    (case c28 => k_is)
    (case k28 => k_is)
    (case a29 => k_is)
    (case l29 => k_is)
    (case c29 => k_is)
    (case k29 => k_is)
    (case a30 => k_is)
    (case l30 => k_is)
    (case c30 => k_is)
    (case k30 => k_is)
    (case a31 => k_is)
    (case l31 => k_is)
    (case c31 => k_is)
    (case k31 => k_is)
    (case a32 => k_is)
    (case l32 => k_is)
    (case c32 => k_is)
    (case k32 => k_is)
    (case a33 => k_is)
    (case l33 => k_is)
    (case c33 => k_is)
    (case k33 => k_is)
    (case a34 => k_is)
    (case l34 => k_is)
    (case c34 => k_is)
    (case k34 => k_is)
    (case a35 => k_is)
    (case l35 => k_is)
    (case c35 => k_is)
    (case k35 => k_is)
    (case a36 => k_is)
    (case l36 => k_is)
    (case c36 => k_is)
    (case k36 => k_is)
    (case a37 => k_is)
    (case l37 => k_is)
    (case c37 => k_is)
    (case k37 => k_is)
    (case a38 => k_is)
    (case l38 => k_is)
    (case c38 => k_is)
    (case k38 => k_is)
    (case z1 => k_is)
    (case z2 => k_is)
    (case z3 => k_is)
    (case z4 => k_is)
    (case z5 => k_is)
    (case z6 => k_is)
    (case z7 => k_is)
    (case z8 => k_is)
    (case z9 => k_is)
    (case z10 => k_is)
    (case z11 => k_is)
    (case z12 => k_is)
    (case z13 => k_is)
    (case y1 => k_is)
    (case xo_InvalidStone1 => k_is)
    (case xo_InvalidStone2 => k_exc)
    (case xo_InvalidStone3 => k_is)
    (case xo_InvalidStone4 => k_is)
    (case xo_InvalidStone5 => k_is)
    (case xo_InvalidStone6 => k_is)
    (case xo_InvalidStone7 => first | rfl | k_is)
    (case xo_WrongCount1 => k_is)
    (case xo_WrongCount2 => k_exc)
    (case xo_WrongCount3 => k_is)
    (case xo_WrongCount4 => k_is)
    (case xo_WrongCount5 => k_is)
    (case xo_WrongCount6 => k_is)
    (case xo_WrongCount7 => first | rfl | k_is)
    (case xo_InvalidLine1 => k_is)
    (case xo_InvalidLine2 => k_exc)
    (case xo_InvalidLine3 => k_is)
    (case xo_InvalidLine4 => k_is)
    (case xo_InvalidLine5 => k_is)
    (case xo_InvalidLine6 => k_is)
    (case xo_InvalidLine7 => first | rfl | k_is)
    (case xd_InvalidLine1 => k_is)
    (case xd_InvalidLine2 => k_exc)
    (case xd_InvalidLine3 => k_is)
    (case xd_InvalidLine4 => k_is)
    (case xd_InvalidLine5 => k_is)
    (case xd_InvalidLine6 => k_is)
    (case xd_InvalidLine7 => first | rfl | k_is)
    (case xd_InvalidLine8 => k_is)
    (case xd_InvalidLine9 => k_is)
    (case xd_InvalidLine10 => k_is)
    (case xd_InvalidLine11 => k_is)
    (case xd_InvalidLine12 => k_is)
    (case xd_InvalidLine13 => k_is)
    (case xd_InvalidLine14 => k_is)
    (case xd_InvalidLine15 => k_is)
    (case xd_InvalidLine16 => k_is)
    (case xd_InvalidLine17 => k_is)
    (case xd_InvalidLine18 => k_is)
    (case xd_InvalidLine19 => k_is)
    (case xd_InvalidLine20 => k_is)
    (case xd_InvalidLine21 => k_is)
    (case xd_InvalidLine22 => k_is)
    (case xd_InvalidLine23 => k_is)
    (case xd_InvalidLine24 => k_is)
    (case xd_InvalidLine25 => k_is)
    (case xd_InvalidLine26 => k_is)
    (case xd_InvalidLine27 => k_is)
    (case xu_SpotError1 => k_is)
    (case xu_SpotError2 => k_is)
    (case xu_SpotError3 => k_is)
    (case xu_SpotError4 => k_is)
    (case xu_SpotError5 => k_is)
    (case xu_SpotError6 => k_is)
    (case xu_SpotError7 => k_is)
    (case xu_SpotError8 => k_is)
    (case g1 => k_is)
    (case g2 => k_is)
    (case g3 => k_is)
    (case g4 => k_is)
    (case g5 => k_is)
