import PyProof.Rows.All
import Wide.All
import OpenK.AllK
import Wide.FinOn
import HandS.ForMost
import HandS.Walk
import HandS.Zip
import HandS.TupAny
import HandS.TupLe
import KE.GoesMore
import KE.GoesZip
import KE.GoesEnum
import HandS.More
import HandS.WordsExc
import HandS.Defaults
import HandS.Head0
import HandS.Head1
import HandS.Head2
import HandS.HeadEnd
import HandS.HeadHook1
import HandS.HeadHook2
import HandS.Deep
import HandS.IsInst
import HandS.SortInts
import HandS.Style
import HandS.TupMul
import HandS.Conv
import KE.KDictZip
import PySem.Challenge.RW_fillorder_k21_whole_unknown_amounts
set_option Elab.async false
set_option linter.all false
set_option maxRecDepth 100000
set_option maxHeartbeats 4000000
namespace Fi
open PySem L2

theorem sqT_up {K : PySem.W.Frag} {H H' : Hp} {a : Addr} {xs : List V} (e : Same H H') (h : SqT K H a xs) : SqT K H' a xs := by
  rcases h with h | h
  · rcases h with h | ⟨o, h⟩
    · exact .inl (.inl (e a _ h))
    · exact .inl (.inr ⟨o, e a _ h⟩)
  · exact .inr h
mutual
theorem Dp_up {K : PySem.W.Frag} {H H' : Hp} (e : Same H H') : ∀ {v : V} {d : PyData}, Dp K H v d → Dp K H' v d
  | _, _, .non => .non
  | _, _, .bl b => .bl b
  | _, _, .int i => .int i
  | _, _, .str x => .str x
  | _, _, .lst hs ha => .lst (e.seq hs) (DpAll_up e ha)
  | _, _, .tup hs ha => .tup (sqT_up e hs) (DpAll_up e ha)
theorem DpAll_up {K : PySem.W.Frag} {H H' : Hp} (e : Same H H') : ∀ {vs : List V} {ds : List PyData}, DpAll K H vs ds → DpAll K H' vs ds
  | _, _, .nil => .nil
  | _, _, .cons h t => .cons (Dp_up e h) (DpAll_up e t)
end
end Fi
namespace L2
open PySem
section
variable {K : PySem.W.Frag} {H : Hp}
theorem DpAll.len : ∀ {vs : List V} {ds : List PyData}, DpAll K H vs ds → vs.length = ds.length
  | _, _, .nil => rfl
  | _, _, .cons _ t => by rw [List.length_cons, List.length_cons, DpAll.len t]
theorem DpAll.get : ∀ {vs : List V} {ds : List PyData} {i : Nat} {v : V}, DpAll K H vs ds → vs[i]? = some v → ∃ d, ds[i]? = some d ∧ Dp K H v d
  | _, _, _, _, .nil, e => by simp at e
  | _, _, 0, _, .cons h _, e => by
    simp at e
    subst e
    exact ⟨_, rfl, h⟩
  | _, _, i + 1, v, .cons _ t, e => by
    obtain ⟨d, h1, h2⟩ := DpAll.get (i := i) (v := v) t (by simpa using e)
    exact ⟨d, by simpa using h1, h2⟩
theorem DpAll.at : ∀ {vs : List V} {ds : List PyData} {i : Nat} {d : PyData}, DpAll K H vs ds → ds[i]? = some d → ∃ v, vs[i]? = some v ∧ Dp K H v d
  | _, _, _, _, .nil, e => by simp at e
  | _, _, 0, _, .cons h _, e => by
    simp at e
    subst e
    exact ⟨_, rfl, h⟩
  | _, _, i + 1, v, .cons _ t, e => by
    obtain ⟨d, h1, h2⟩ := DpAll.at (i := i) t (by simpa using e)
    exact ⟨d, by simpa using h1, h2⟩
theorem DpAll.app : ∀ {vs us : List V} {ds es : List PyData}, DpAll K H vs ds → DpAll K H us es → DpAll K H (vs ++ us) (ds ++ es)
  | _, _, _, _, .nil, h => h
  | _, _, _, _, .cons h t, q => .cons h (DpAll.app t q)
theorem DpAll.tk : ∀ {vs : List V} {ds : List PyData} (n : Nat), DpAll K H vs ds → DpAll K H (vs.take n) (ds.take n)
  | _, _, 0, _ => .nil
  | _, _, _ + 1, .nil => .nil
  | _, _, n + 1, .cons h t => .cons h (DpAll.tk n t)
theorem DpAll.dr : ∀ {vs : List V} {ds : List PyData} (n : Nat), DpAll K H vs ds → DpAll K H (vs.drop n) (ds.drop n)
  | _, _, 0, h => h
  | _, _, _ + 1, .nil => .nil
  | _, _, n + 1, .cons _ t => DpAll.dr n t
theorem DpAll.set {v : V} {d : PyData} (h : Dp K H v d) : ∀ {vs : List V} {ds : List PyData} (i : Nat), DpAll K H vs ds → DpAll K H (vs.set i v) (ds.set i d)
  | _, _, _, .nil => .nil
  | _, _, 0, .cons _ t => .cons h t
  | _, _, i + 1, .cons q t => .cons q (DpAll.set h i t)
theorem Dp.int_eq {v : V} {i : Int} (h : Dp K H v (.int i)) : v = .int i := by cases h; rfl
theorem Dp.bl_eq {v : V} {b : Bool} (h : Dp K H v (.bool b)) : v = .bl b := by cases h; rfl
theorem Dp.str_eq {v : V} {x : Str} (h : Dp K H v (.str x)) : v = .str x := by cases h; rfl
theorem Dp.non_eq {v : V} (h : Dp K H v .none) : v = .non := by cases h; rfl
theorem Dp.tup_of {v : V} {ds : List PyData} (h : Dp K H v (.tuple ds)) : ∃ a xs, v = .ref a ∧ SqT K H a xs ∧ DpAll K H xs ds := by
  cases h with
  | tup hs ha => exact ⟨_, _, rfl, hs, ha⟩
theorem Dp.lst_of {v : V} {ds : List PyData} (h : Dp K H v (.list ds)) : ∃ a xs, v = .ref a ∧ SqL K H a xs ∧ DpAll K H xs ds := by
  cases h with
  | lst hs ha => exact ⟨_, _, rfl, hs, ha⟩
theorem DpAll.ints : ∀ {ns : List Int} {vs : List V}, DpAll K H vs (ns.map PyData.int) → vs = ns.map V.int
  | [], vs, h => by cases h; rfl
  | n :: ns, vs, h => by
    cases h with
    | cons h t => rw [h.int_eq, DpAll.ints t]; rfl
theorem DpAll.bools : ∀ {ns : List Bool} {vs : List V}, DpAll K H vs (ns.map PyData.bool) → vs = ns.map V.bl
  | [], vs, h => by cases h; rfl
  | n :: ns, vs, h => by
    cases h with
    | cons h t => rw [h.bl_eq, DpAll.bools t]; rfl
theorem DpAll.one {vs : List V} {d : PyData} (h : DpAll K H vs [d]) : ∃ v, vs = [v] ∧ Dp K H v d := by
  cases h with
  | cons h t => cases t; exact ⟨_, rfl, h⟩
theorem DpAll.two {vs : List V} {d e : PyData} (h : DpAll K H vs [d, e]) : ∃ v w, vs = [v, w] ∧ Dp K H v d ∧ Dp K H w e := by
  cases h with
  | cons h t =>
    obtain ⟨w, rfl, q⟩ := t.one
    exact ⟨_, w, rfl, h, q⟩
end

end L2
namespace Fi
open PySem L2
inductive Sl where
  | val (d : PyData)
  | own (ds : List PyData)
abbrev En := List (Option Sl)
inductive Out where
  | next (e : En) | brk (e : En) | cont (e : En) | ret (d : PyData) | retL (ds : List PyData)
abbrev FE := En → Option PyData
abbrev FL := En → Option (List PyData)
abbrev FT := En → Option Bool
abbrev FS := En → Option Out

/-- the heap steps on: Hf what may be pointed to, H all that is tracked -/
structure Stp (Hf H Hf' H' : Hp) : Prop where
  f : Same Hf Hf'
  i : Same Hf' H'
  h : Same H H'
  n : ∀ a o, H a = some o → Hf a = none → Hf' a = none
theorem Stp.refl {Hf H : Hp} (i : Same Hf H) : Stp Hf H Hf H := ⟨Same.refl _, i, Same.refl _, fun _ _ _ h => h⟩
theorem Stp.trans {A B C E F G : Hp} (a : Stp A B C E) (b : Stp C E F G) : Stp A B F G :=
  ⟨a.f.trans b.f, b.i, a.h.trans b.h, fun x o h1 h2 => b.n x o (a.h x o h1) (a.n x o h1 h2)⟩
theorem same_new {H : Hp} {p : Addr} {o : HO} (h : H p = none) : Same H (upd H p o) := fun b x e => by
  rw [upd_ne (ne_of_none e h)]
  exact e
theorem same_both {Hf H : Hp} {p : Addr} {o : HO} (i : Same Hf H) : Same (upd Hf p o) (upd H p o) := fun b x e => by
  by_cases hb : b = p
  · subst hb
    rw [upd_same] at e ⊢
    exact e
  · rw [upd_ne hb] at e ⊢
    exact i b x e
theorem Stp.new {Hf H : Hp} {p : Addr} {o : HO} (i : Same Hf H) (h : H p = none) : Stp Hf H (upd Hf p o) (upd H p o) :=
  ⟨same_new (i.free h), same_both i, same_new h, fun a x e q => by
    rw [upd_ne (ne_of_none e h)]
    exact q⟩
theorem Stp.hid {Hf H : Hp} {p : Addr} {o : HO} (i : Same Hf H) (h : H p = none) : Stp Hf H Hf (upd H p o) :=
  ⟨Same.refl _, i.trans (same_new h), same_new h, fun a x e q => q⟩
/-- what was hidden and new may be pointed to -/
theorem Stp.show {Hf H Hf' H' : Hp} {p : Addr} {o : HO} (s : Stp Hf H Hf' H') (h : H p = none) (h1 : Hf' p = none) (h2 : H' p = some o) : Stp Hf H (upd Hf' p o) H' :=
  ⟨s.f.trans (same_new h1), fun b x e => by
    by_cases hb : b = p
    · subst hb
      rw [upd_same] at e
      rw [h2, e]
    · rw [upd_ne hb] at e
      exact s.i b x e, s.h, fun a x e q => by
    rw [upd_ne (ne_of_none e h)]
    exact s.n a x e q⟩

def SlOk (K : PySem.W.Frag) (H0 Hf H : Hp) (v : V) : Sl → Prop
  | .val d => Dp K Hf v d
  | .own ds => ∃ p vs, v = .ref p ∧ H0 p = none ∧ Hf p = none ∧ H p = some (.lst vs) ∧ DpAll K Hf vs ds
/-- Z: the two heaps at the def's entry -/
structure Rel (K : PySem.W.Frag) (Z : Hp × Hp) (Hf H : Hp) (env : En) (σ : L2.St) : Prop where
  st : Stp Z.1 Z.2 Hf H
  len : env.length = σ.length
  sl : ∀ (i : Nat) (s : Sl), env[i]? = some (some s) → ∃ v, σ[i]? = some (some v) ∧ SlOk K Z.2 Hf H v s
  ds : ∀ (i j : Nat) (x y : List PyData) (p : Addr), env[i]? = some (some (.own x)) → env[j]? = some (some (.own y)) → σ[i]? = some (some (.ref p)) → σ[j]? = some (some (.ref p)) → i = j
section
variable {K : PySem.W.Frag} {Z : Hp × Hp} {Hf H Hf' H' : Hp} {env : En} {σ : L2.St}
theorem Rel.step (R : Rel K Z Hf H env σ) (s : Stp Hf H Hf' H') : Rel K Z Hf' H' env σ := by
  refine ⟨R.st.trans s, R.len, fun i x e => ?_, R.ds⟩
  obtain ⟨v, h1, h2⟩ := R.sl i x e
  refine ⟨v, h1, ?_⟩
  cases x with
  | val d => exact Dp_up s.f h2
  | own l =>
    obtain ⟨p, vs, a, b, c, d, e⟩ := h2
    exact ⟨p, vs, a, b, s.n p _ d c, s.h p _ d, DpAll_up s.f e⟩
theorem set_cases {α : Type} {l : List (Option α)} {i j : Nat} {x : Option α} {y : α} (h : (l.set i x)[j]? = some (some y)) : (i = j ∧ x = some y) ∨ (i ≠ j ∧ l[j]? = some (some y)) := by
  by_cases e : i = j
  · subst e
    by_cases hl : i < l.length
    · rw [List.getElem?_set_self hl] at h
      exact .inl ⟨rfl, Option.some.inj h⟩
    · rw [List.getElem?_eq_none (by rw [List.length_set]; omega)] at h
      cases h
  · rw [List.getElem?_set_ne e] at h
    exact .inr ⟨e, h⟩
theorem set_some_lt {α : Type} {l : List (Option α)} {i : Nat} {x y : Option α} (h : (l.set i x)[i]? = some y) : i < l.length := by
  by_cases hl : i < l.length
  · exact hl
  · rw [List.getElem?_eq_none (by rw [List.length_set]; omega)] at h
    cases h
/-- a value is stored -/
theorem Rel.set {v : V} {d : PyData} (R : Rel K Z Hf H env σ) (i : Nat) (h : Dp K Hf v d) : Rel K Z Hf H (env.set i (some (.val d))) (σ.set i (some v)) := by
  refine ⟨R.st, by rw [List.length_set, List.length_set, R.len], fun j s e => ?_, fun j k x y p ej ek hj hk => ?_⟩
  · rcases set_cases e with ⟨rfl, q⟩ | ⟨hn, q⟩
    · cases q
      have hl := set_some_lt e
      refine ⟨v, List.getElem?_set_self (by rw [← R.len]; exact hl), h⟩
    · obtain ⟨w, h1, h2⟩ := R.sl j s q
      exact ⟨w, by rw [List.getElem?_set_ne hn]; exact h1, h2⟩
  · rcases set_cases ej with ⟨rfl, q⟩ | ⟨hn, q⟩
    · cases q
    · rcases set_cases ek with ⟨rfl, q2⟩ | ⟨hn2, q2⟩
      · cases q2
      · rw [List.getElem?_set_ne hn] at hj
        rw [List.getElem?_set_ne hn2] at hk
        exact R.ds j k x y p q q2 hj hk
/-- a slot is forgotten, in the functions' view -/
theorem Rel.drop (R : Rel K Z Hf H env σ) (i : Nat) (o : Option V) : Rel K Z Hf H (env.set i none) (σ.set i o) := by
  refine ⟨R.st, by rw [List.length_set, List.length_set, R.len], fun j s e => ?_, fun j k x y p ej ek hj hk => ?_⟩
  · rcases set_cases e with ⟨rfl, q⟩ | ⟨hn, q⟩
    · cases q
    · obtain ⟨w, h1, h2⟩ := R.sl j s q
      exact ⟨w, by rw [List.getElem?_set_ne hn]; exact h1, h2⟩
  · rcases set_cases ej with ⟨rfl, q⟩ | ⟨hn, q⟩
    · cases q
    · rcases set_cases ek with ⟨rfl, q2⟩ | ⟨hn2, q2⟩
      · cases q2
      · rw [List.getElem?_set_ne hn] at hj
        rw [List.getElem?_set_ne hn2] at hk
        exact R.ds j k x y p q q2 hj hk
/-- a new list is stored, to be changed here alone -/
theorem Rel.setOwn {p : Addr} {vs : List V} {ds : List PyData} (R : Rel K Z Hf H env σ) (s : Stp Hf H Hf' H') (i : Nat) (h0 : H p = none) (h1 : Hf' p = none) (h2 : H' p = some (.lst vs)) (h3 : DpAll K Hf' vs ds) :
    Rel K Z Hf' H' (env.set i (some (.own ds))) (σ.set i (some (.ref p))) := by
  have R' := R.step s
  have hz : Z.2 p = none := R.st.h.free h0
  -- an own slot of before stands elsewhere
  have ne : ∀ (j : Nat) (x : List PyData) (q : Addr), env[j]? = some (some (Sl.own x)) → σ[j]? = some (some (V.ref q)) → q ≠ p := fun j x q e1 e2 => by
    obtain ⟨v, g1, g2⟩ := R.sl j _ e1
    obtain ⟨r, ws, rfl, _, _, g3, _⟩ := g2
    rw [e2] at g1
    cases g1
    exact ne_of_none g3 h0
  refine ⟨R'.st, by rw [List.length_set, List.length_set, R.len], fun j t e => ?_, fun j k x y q ej ek hj hk => ?_⟩
  · rcases set_cases e with ⟨rfl, z⟩ | ⟨hn, z⟩
    · cases z
      have hl := set_some_lt e
      exact ⟨.ref p, List.getElem?_set_self (by rw [← R.len]; exact hl), p, vs, rfl, hz, h1, h2, h3⟩
    · obtain ⟨w, g1, g2⟩ := R'.sl j t z
      exact ⟨w, by rw [List.getElem?_set_ne hn]; exact g1, g2⟩
  · rcases set_cases ej with ⟨rfl, z⟩ | ⟨hn, z⟩
    · rcases set_cases ek with ⟨rfl, z2⟩ | ⟨hn2, z2⟩
      · rfl
      · have hl := set_some_lt ej
        rw [List.getElem?_set_self (by rw [← R.len]; exact hl)] at hj
        cases hj
        rw [List.getElem?_set_ne hn2] at hk
        exact absurd rfl (ne k y _ z2 hk)
    · rcases set_cases ek with ⟨rfl, z2⟩ | ⟨hn2, z2⟩
      · have hl := set_some_lt ek
        rw [List.getElem?_set_self (by rw [← R.len]; exact hl)] at hk
        cases hk
        rw [List.getElem?_set_ne hn] at hj
        exact absurd rfl (ne j x _ z hj)
      · rw [List.getElem?_set_ne hn] at hj
        rw [List.getElem?_set_ne hn2] at hk
        exact R.ds j k x y q z z2 hj hk
/-- the list of an own slot is changed -/
theorem Rel.mut {i : Nat} {l l' : List PyData} {p : Addr} {vs' : List V} (R : Rel K Z Hf H env σ) (he : env[i]? = some (some (.own l))) (hs : σ[i]? = some (some (.ref p))) (h3 : DpAll K Hf vs' l') :
    Rel K Z Hf (upd H p (.lst vs')) (env.set i (some (.own l'))) σ := by
  obtain ⟨v, g1, q, vs, rfl, hz, hf, hp, hd⟩ := R.sl i _ he
  rw [hs] at g1
  cases g1
  have hi : i < env.length := (List.getElem?_eq_some_iff.mp he).1
  refine ⟨⟨R.st.f, fun b o e => ?_, fun b o e => ?_, R.st.n⟩, by rw [List.length_set, R.len], fun j t e => ?_, fun j k x y q ej ek hj hk => ?_⟩
  · rw [upd_ne (ne_of_none e hf)]
    exact R.st.i b o e
  · rw [upd_ne (ne_of_none e hz)]
    exact R.st.h b o e
  · rcases set_cases e with ⟨rfl, z⟩ | ⟨hn, z⟩
    · cases z
      exact ⟨.ref p, hs, p, vs', rfl, hz, hf, upd_same, h3⟩
    · obtain ⟨w, g1, g2⟩ := R.sl j t z
      refine ⟨w, g1, ?_⟩
      cases t with
      | val d => exact g2
      | own m =>
        obtain ⟨r, ws, rfl, a, b, c, d⟩ := g2
        refine ⟨r, ws, rfl, a, b, ?_, d⟩
        have hr : r ≠ p := fun q => hn (R.ds i j l m p he z hs (by rw [g1, q]))
        rw [upd_ne hr]
        exact c
  · have e1 : ∃ x', env[j]? = some (some (.own x')) := by
      rcases set_cases ej with ⟨rfl, z⟩ | ⟨hn, z⟩
      · exact ⟨l, he⟩
      · exact ⟨x, z⟩
    have e2 : ∃ y', env[k]? = some (some (.own y')) := by
      rcases set_cases ek with ⟨rfl, z⟩ | ⟨hn, z⟩
      · exact ⟨l, he⟩
      · exact ⟨y, z⟩
    obtain ⟨x', e1⟩ := e1
    obtain ⟨y', e2⟩ := e2
    exact R.ds j k x' y' q e1 e2 hj hk
/-- an own slot becomes a value: from here on it is read alone -/
def frz (i : Nat) (env : En) : En := match env[i]? with
  | some (some (.own l)) => env.set i (some (.val (.list l)))
  | _ => env
theorem Rel.frz (R : Rel K Z Hf H env σ) (i : Nat) : ∃ Hf', Same Hf Hf' ∧ Rel K Z Hf' H (frz i env) σ := by
  unfold Fi.frz
  split
  · rename_i l he
    obtain ⟨v, hs, p, vs, rfl, hz, hf, hp, hd⟩ := R.sl i _ he
    have hsm : Same Hf (upd Hf p (.lst vs)) := same_new hf
    refine ⟨upd Hf p (.lst vs), hsm, ⟨⟨R.st.f.trans hsm, fun b o e => ?_, R.st.h, fun a o e q => ?_⟩, by rw [List.length_set, R.len], fun j t e => ?_, fun j k x y q ej ek hj hk => ?_⟩⟩
    · by_cases hb : b = p
      · subst hb
        rw [upd_same] at e
        rw [hp, e]
      · rw [upd_ne hb] at e
        exact R.st.i b o e
    · rw [upd_ne (ne_of_none e hz)]
      exact R.st.n a o e q
    · rcases set_cases e with ⟨rfl, z⟩ | ⟨hn, z⟩
      · cases z
        exact ⟨.ref p, hs, .lst (SqL.of upd_same) (DpAll_up hsm hd)⟩
      · obtain ⟨w, g1, g2⟩ := R.sl j t z
        refine ⟨w, g1, ?_⟩
        cases t with
        | val d => exact Dp_up hsm g2
        | own m =>
          obtain ⟨r, ws, rfl, a, b, c, d⟩ := g2
          have hr : r ≠ p := fun q => hn (R.ds i j l m p he z hs (by rw [g1, q]))
          exact ⟨r, ws, rfl, a, by rw [upd_ne hr]; exact b, c, DpAll_up hsm d⟩
    · rcases set_cases ej with ⟨rfl, z⟩ | ⟨hn, z⟩
      · cases z
      · rcases set_cases ek with ⟨rfl, z2⟩ | ⟨hn2, z2⟩
        · cases z2
        · exact R.ds j k x y q z z2 hj hk
  · exact ⟨Hf, Same.refl _, R⟩
end

def tE (K : PySem.W.Frag) (f : FE) : TE := fun σ H Q => ∃ (Z : Hp × Hp) (Hf : Hp) (env : En) (d : PyData), Rel K Z Hf H env σ ∧ f env = some d ∧ ∀ v H' Hf', Stp Hf H Hf' H' → Dp K Hf' v d → Q v H'
/-- a new list, hidden as yet -/
def tL (K : PySem.W.Frag) (f : FL) : TE := fun σ H Q => ∃ (Z : Hp × Hp) (Hf : Hp) (env : En) (ds : List PyData), Rel K Z Hf H env σ ∧ f env = some ds ∧
  ∀ p vs H' Hf', Stp Hf H Hf' H' → H p = none → Hf' p = none → H' p = some (.lst vs) → DpAll K Hf' vs ds → Q (.ref p) H'
def tA (K : PySem.W.Frag) (f : FL) : TA := fun σ H Q => ∃ (Z : Hp × Hp) (Hf : Hp) (env : En) (ds : List PyData), Rel K Z Hf H env σ ∧ f env = some ds ∧ ∀ vs H' Hf', Stp Hf H Hf' H' → DpAll K Hf' vs ds → Q vs H'
def tT (K : PySem.W.Frag) (f : FT) : TT := fun σ H Q => ∃ (Z : Hp × Hp) (Hf : Hp) (env : En) (b : Bool), Rel K Z Hf H env σ ∧ f env = some b ∧ ∀ H' Hf', Stp Hf H Hf' H' → Q b H'
def tO (K : PySem.W.Frag) (f : En → Option (Option Int)) : TO := fun σ H Q => ∃ (Z : Hp × Hp) (Hf : Hp) (env : En) (o : Option Int), Rel K Z Hf H env σ ∧ f env = some o ∧ ∀ H' Hf', Stp Hf H Hf' H' → Q o H'
def Fin (K : PySem.W.Frag) (Z : Hp × Hp) (Hf : Hp) (D : Ends) : Out → Prop
  | .next e => ∀ σ' H' Hf', Same Hf Hf' → Rel K Z Hf' H' e σ' → D.nx σ' H'
  | .brk e => ∀ σ' H' Hf', Same Hf Hf' → Rel K Z Hf' H' e σ' → D.bk σ' H'
  | .cont e => ∀ σ' H' Hf', Same Hf Hf' → Rel K Z Hf' H' e σ' → D.ct σ' H'
  | .ret d => ∀ v H' Hf', Stp Z.1 Z.2 Hf' H' → Dp K Hf' v d → D.rt v H'
  | .retL ds => ∀ p vs H' Hf', Stp Z.1 Z.2 Hf' H' → Z.2 p = none → Hf' p = none → H' p = some (.lst vs) → DpAll K Hf' vs ds → D.rt (.ref p) H'
theorem Fin.up {K : PySem.W.Frag} {Z : Hp × Hp} {Hf Hf' : Hp} {D : Ends} (e : Same Hf Hf') : ∀ {o : Out}, Fin K Z Hf D o → Fin K Z Hf' D o
  | .next _, h => fun σ' H' Hg s R => h σ' H' Hg (e.trans s) R
  | .brk _, h => fun σ' H' Hg s R => h σ' H' Hg (e.trans s) R
  | .cont _, h => fun σ' H' Hg s R => h σ' H' Hg (e.trans s) R
  | .ret _, h => h
  | .retL _, h => h
def tS (K : PySem.W.Frag) (f : FS) : TS := fun D σ H => ∃ (Z : Hp × Hp) (Hf : Hp) (env : En) (o : Out), Rel K Z Hf H env σ ∧ f env = some o ∧ Fin K Z Hf D o
section
variable {X : Cx}
theorem pe_le {e : Expr} {t t' : TE} (h : PE X e t) (hm : ∀ σ H Q, t' σ H Q → t σ H Q) : PE X e t' := ⟨fun pins s σ H Q I q => h.run pins s σ H Q I (hm σ H Q q)⟩
theorem pt_le {e : Expr} {t t' : TT} (h : PT X e t) (hm : ∀ σ H Q, t' σ H Q → t σ H Q) : PT X e t' := ⟨fun pins s σ H Q I q => h.run pins s σ H Q I (hm σ H Q q)⟩
theorem pa_le {e : List Expr} {t t' : TA} (h : PA X e t) (hm : ∀ σ H Q, t' σ H Q → t σ H Q) : PA X e t' := ⟨fun pos pins s σ H Q I q => h.run pos pins s σ H Q I (hm σ H Q q)⟩
theorem po_le {e : Option Expr} {t t' : TO} (h : PO X e t) (hm : ∀ σ H Q, t' σ H Q → t σ H Q) : PO X e t' := ⟨fun pins s σ H Q I q => h.run pins s σ H Q I (hm σ H Q q)⟩
theorem ps_le {e : Stmt} {t t' : TS} (h : PS X e t) (hm : ∀ D σ H, t' D σ H → t D σ H) : PS X e t' := ⟨fun pins s σ H D I q => h.run pins s σ H D I (hm D σ H q)⟩
theorem pss_le {e : List Stmt} {t t' : TS} (h : PSs X e t) (hm : ∀ D σ H, t' D σ H → t D σ H) : PSs X e t' := ⟨fun pins s σ H D I q => h.run pins s σ H D I (hm D σ H q)⟩
theorem pi_le {tg e : Expr} {t t' : TI} (h : PI X tg e t) (hm : ∀ σ H R, t' σ H R → t σ H R) : PI X tg e t' := ⟨fun pins s σ H R I q => h.run pins s σ H R I (hm σ H R q)⟩
theorem pg_le {e : Expr} {t t' : TG} (h : PG X e t) (hm : ∀ v σ H Q, t' v σ H Q → t v σ H Q) : PG X e t' := ⟨fun pins s σ H v u Q I r q => h.run pins s σ H v u Q I r (hm v σ H Q q)⟩
end
end Fi

namespace Fi
open PySem L2

def rD2 (K : PySem.W.Frag) (F : PyData → PyData → Option PyData) : R2 := fun x y H Q => ∃ (Hf : Hp) (dx dy dz : PyData), Same Hf H ∧ Dp K Hf x dx ∧ Dp K Hf y dy ∧ F dx dy = some dz ∧ ∀ v H' Hf', Stp Hf H Hf' H' → Dp K Hf' v dz → Q v H'
abbrev OpD (X : Cx) (f : Value → Value → Sem Value) (F : PyData → PyData → Option PyData) : Prop := OpR X f (rD2 X.K F)
def rD1 (K : PySem.W.Frag) (F : PyData → Option PyData) : V → Hp → VK → Prop := fun x H Q => ∃ (Hf : Hp) (dx dz : PyData), Same Hf H ∧ Dp K Hf x dx ∧ F dx = some dz ∧ ∀ v H' Hf', Stp Hf H Hf' H' → Dp K Hf' v dz → Q v H'
def rDc (K : PySem.W.Frag) (F : List PyData → Option PyData) : List V → Hp → VK → Prop := fun vs H Q => ∃ (Hf : Hp) (ds : List PyData) (dz : PyData), Same Hf H ∧ DpAll K Hf vs ds ∧ F ds = some dz ∧ ∀ v H' Hf', Stp Hf H Hf' H' → Dp K Hf' v dz → Q v H'
abbrev CallD (X : Cx) (f : Value) (F : List PyData → Option PyData) : Prop := CallR X f (rDc X.K F)
/-- a new list comes of it -/
def rDcL (K : PySem.W.Frag) (F : List PyData → Option (List PyData)) : List V → Hp → VK → Prop := fun vs H Q => ∃ (Hf : Hp) (ds dz : List PyData), Same Hf H ∧ DpAll K Hf vs ds ∧ F ds = some dz ∧ ∀ p us H' Hf', Stp Hf H Hf' H' → H p = none → Hf' p = none → H' p = some (.lst us) → DpAll K Hf' us dz → Q (.ref p) H'
abbrev CallL (X : Cx) (f : Value) (F : List PyData → Option (List PyData)) : Prop := CallR X f (rDcL X.K F)

def fAdd : PyData → PyData → Option PyData
  | .int a, .int b => some (.int (a + b))
  | .tuple a, .tuple b => if a.length + b.length ≤ 100000 then some (.tuple (a ++ b)) else none
  | .str a, .str b => if a.length + b.length ≤ 100000 then some (.str (a ++ b)) else none
  | _, _ => none
def fSub : PyData → PyData → Option PyData
  | .int a, .int b => some (.int (a - b))
  | _, _ => none
def fMul : PyData → PyData → Option PyData
  | .int a, .int b => if (-(2 ^ 64) < a ∧ a < 2 ^ 64) ∨ (-(2 ^ 64) < b ∧ b < 2 ^ 64) then some (.int (a * b)) else none
  | _, _ => none
def fDiv : PyData → PyData → Option PyData
  | .int a, .int b => if 0 < b ∧ b < 1073741824 then some (.int (a / b)) else none
  | _, _ => none
def fMod : PyData → PyData → Option PyData
  | .int a, .int b => if 0 < b then some (.int (a % b)) else none
  | _, _ => none
def fPow : PyData → PyData → Option PyData
  | .int a, .int b => if 0 ≤ b ∧ b ≤ 1000000 ∧ a.natAbs < 2 ^ 64 then some (.int (a ^ b.toNat)) else none
  | _, _ => none
def fLt : PyData → PyData → Option PyData
  | .int a, .int b => some (.bool (decide (a < b)))
  | _, _ => none
def fLe : PyData → PyData → Option PyData
  | .int a, .int b => some (.bool (decide (a ≤ b)))
  | _, _ => none
def fGt : PyData → PyData → Option PyData
  | .int a, .int b => some (.bool (decide (b < a)))
  | _, _ => none
def fGe : PyData → PyData → Option PyData
  | .int a, .int b => some (.bool (decide (b ≤ a)))
  | _, _ => none
def fEq : PyData → PyData → Option PyData
  | .int a, .int b => some (.bool (decide (a = b)))
  | .str a, .str b => some (.bool (decide (a = b)))
  | .bool a, .bool b => some (.bool (decide (a = b)))
  | a, b => if SeqAt.shaped a = true ∧ SeqAt.shaped b = true then some (.bool (PyData.eqv a b)) else none
def fNe : PyData → PyData → Option PyData
  | .int a, .int b => some (.bool (!decide (a = b)))
  | .str a, .str b => some (.bool (!decide (a = b)))
  | .bool a, .bool b => some (.bool (!decide (a = b)))
  | a, b => if SeqAt.shaped a = true ∧ SeqAt.shaped b = true then some (.bool (!PyData.eqv a b)) else none
def isN : PyData → Bool
  | .none => true
  | _ => false
def fIs : PyData → PyData → Option PyData
  | a, .none => some (.bool (isN a))
  | .bool a, .bool b => some (.bool (decide (a = b)))
  | _, _ => none
def fIsNot : PyData → PyData → Option PyData
  | a, .none => some (.bool (!isN a))
  | .bool a, .bool b => some (.bool (!decide (a = b)))
  | _, _ => none
def fIx : PyData → PyData → Option PyData
  | .list l, .int i => atI l i
  | .tuple l, .int i => atI l i
  | _, _ => none
def fNeg : PyData → Option PyData
  | .int i => some (.int (-i))
  | _ => none
section
variable {X : Cx}
theorem od_sub : OpD X (binaryOp .Sub) fSub := by
  intro pins s σ H x y v u Q I rx ry ⟨Hf, dx, dy, dz, hi, hx, hy, hf, k⟩
  unfold fSub at hf
  split at hf
  · cases hf
    cases hx.int_eq
    cases hy.int_eq
    exact op_sub pins s σ H _ _ v u Q I rx ry ⟨_, _, rfl, rfl, k _ _ _ (.refl hi) (.int _)⟩
  · cases hf
theorem od_mul : OpD X (binaryOp .Mult) fMul := by
  intro pins s σ H x y v u Q I rx ry ⟨Hf, dx, dy, dz, hi, hx, hy, hf, k⟩
  unfold fMul at hf
  split at hf
  · split at hf
    · rename_i hc
      cases hf
      cases hx.int_eq
      cases hy.int_eq
      exact op_mul pins s σ H _ _ v u Q I rx ry ⟨_, _, rfl, rfl, hc, k _ _ _ (.refl hi) (.int _)⟩
    · cases hf
  · cases hf
theorem od_div : OpD X (binaryOp .FloorDiv) fDiv := by
  intro pins s σ H x y v u Q I rx ry ⟨Hf, dx, dy, dz, hi, hx, hy, hf, k⟩
  unfold fDiv at hf
  split at hf
  · split at hf
    · rename_i hc
      cases hf
      cases hx.int_eq
      cases hy.int_eq
      exact op_fdiv pins s σ H _ _ v u Q I rx ry ⟨_, _, rfl, rfl, hc, k _ _ _ (.refl hi) (.int _)⟩
    · cases hf
  · cases hf
theorem od_mod : OpD X (binaryOp .Mod) fMod := by
  intro pins s σ H x y v u Q I rx ry ⟨Hf, dx, dy, dz, hi, hx, hy, hf, k⟩
  unfold fMod at hf
  split at hf
  · split at hf
    · rename_i hc
      cases hf
      cases hx.int_eq
      cases hy.int_eq
      exact op_mod pins s σ H _ _ v u Q I rx ry ⟨_, _, rfl, rfl, hc, k _ _ _ (.refl hi) (.int _)⟩
    · cases hf
  · cases hf
theorem od_pow : OpD X (binaryOp .Pow) fPow := by
  intro pins s σ H x y v u Q I rx ry ⟨Hf, dx, dy, dz, hi, hx, hy, hf, k⟩
  unfold fPow at hf
  split at hf
  · split at hf
    · rename_i hc
      cases hf
      cases hx.int_eq
      cases hy.int_eq
      exact op_pow pins s σ H _ _ v u Q I rx ry ⟨_, _, rfl, rfl, hc, k _ _ _ (.refl hi) (.int _)⟩
    · cases hf
  · cases hf
theorem size_le {n : Nat} (h : n ≤ 100000) : n ≤ sizeLine := Nat.le_trans h (by decide)
theorem od_add : OpD X (binaryOp .Add) fAdd := by
  intro pins s σ H x y v u Q I rx ry ⟨Hf, dx, dy, dz, hi, hx, hy, hf, k⟩
  unfold fAdd at hf
  split at hf
  · cases hf
    cases hx.int_eq
    cases hy.int_eq
    exact op_add pins s σ H _ _ v u Q I rx ry ⟨_, _, rfl, rfl, k _ _ _ (.refl hi) (.int _)⟩
  · split at hf
    · rename_i a b hc
      cases hf
      obtain ⟨p, xs, rfl, hp, ha⟩ := hx.tup_of
      obtain ⟨q, ys, rfl, hq, hb⟩ := hy.tup_of
      refine op_catA pins s σ H _ _ v u Q I rx ry ⟨p, q, xs, ys, rfl, rfl, sqT_up hi hp, sqT_up hi hq, size_le (by rw [ha.len, hb.len]; exact hc), fun e => ?_, fun e e2 => ?_, fun e e2 r hr => ?_⟩
      · subst e
        cases ha
        exact k _ _ _ (.refl hi) hy
      · subst e2
        cases hb
        refine k _ _ _ (.refl hi) ?_
        rw [List.append_nil]
        exact hx
      · have st := Stp.new (o := .tup (xs ++ ys)) hi hr
        exact k _ _ _ st (.tup (SqT.of upd_same) (DpAll_up st.f (ha.app hb)))
    · cases hf
  · split at hf
    · rename_i a b hc
      cases hf
      cases hx.str_eq
      cases hy.str_eq
      exact op_add_str pins s σ H _ _ v u Q I rx ry ⟨_, _, rfl, rfl, size_le hc, k _ _ _ (.refl hi) (.str _)⟩
    · cases hf
  · cases hf
theorem od_lt : OpD X (compareOp .Lt) fLt := by
  intro pins s σ H x y v u Q I rx ry ⟨Hf, dx, dy, dz, hi, hx, hy, hf, k⟩
  unfold fLt at hf
  split at hf
  · cases hf
    cases hx.int_eq
    cases hy.int_eq
    exact op_lt pins s σ H _ _ v u Q I rx ry ⟨_, _, rfl, rfl, k _ _ _ (.refl hi) (.bl _)⟩
  · cases hf
theorem od_le : OpD X (compareOp .LtE) fLe := by
  intro pins s σ H x y v u Q I rx ry ⟨Hf, dx, dy, dz, hi, hx, hy, hf, k⟩
  unfold fLe at hf
  split at hf
  · cases hf
    cases hx.int_eq
    cases hy.int_eq
    exact op_le pins s σ H _ _ v u Q I rx ry ⟨_, _, rfl, rfl, k _ _ _ (.refl hi) (.bl _)⟩
  · cases hf
theorem od_gt : OpD X (compareOp .Gt) fGt := by
  intro pins s σ H x y v u Q I rx ry ⟨Hf, dx, dy, dz, hi, hx, hy, hf, k⟩
  unfold fGt at hf
  split at hf
  · cases hf
    cases hx.int_eq
    cases hy.int_eq
    exact op_gt pins s σ H _ _ v u Q I rx ry ⟨_, _, rfl, rfl, k _ _ _ (.refl hi) (.bl _)⟩
  · cases hf
theorem od_ge : OpD X (compareOp .GtE) fGe := by
  intro pins s σ H x y v u Q I rx ry ⟨Hf, dx, dy, dz, hi, hx, hy, hf, k⟩
  unfold fGe at hf
  split at hf
  · cases hf
    cases hx.int_eq
    cases hy.int_eq
    exact op_ge pins s σ H _ _ v u Q I rx ry ⟨_, _, rfl, rfl, k _ _ _ (.refl hi) (.bl _)⟩
  · cases hf
theorem dec_vi {a b : Int} : decide (V.int a = V.int b) = decide (a = b) := by simp
theorem dec_vs {a b : Str} : decide (V.str a = V.str b) = decide (a = b) := by simp
theorem dec_vb {a b : Bool} : decide (V.bl a = V.bl b) = decide (a = b) := by simp
theorem od_eq (hu : X.A.units + 64 < cLine) : OpD X (compareOp .Eq) fEq := by
  intro pins s σ H x y v u Q I rx ry ⟨Hf, dx, dy, dz, hi, hx, hy, hf, k⟩
  unfold fEq at hf
  split at hf
  · cases hf
    cases hx.int_eq
    cases hy.int_eq
    exact op_eq pins s σ H _ _ v u Q I rx ry ⟨rfl, by rw [dec_vi]; exact k _ _ _ (.refl hi) (.bl _)⟩
  · cases hf
    cases hx.str_eq
    cases hy.str_eq
    exact op_eq pins s σ H _ _ v u Q I rx ry ⟨rfl, by rw [dec_vs]; exact k _ _ _ (.refl hi) (.bl _)⟩
  · cases hf
    cases hx.bl_eq
    cases hy.bl_eq
    exact op_eq pins s σ H _ _ v u Q I rx ry ⟨rfl, by rw [dec_vb]; exact k _ _ _ (.refl hi) (.bl _)⟩
  · split at hf
    · rename_i hc
      cases hf
      exact op_eqD hu pins s σ H _ _ v u Q I rx ry ⟨_, _, Dp_up hi hx, Dp_up hi hy, hc.1, hc.2, k _ _ _ (.refl hi) (.bl _)⟩
    · cases hf
theorem od_ne (hu : X.A.units + 64 < cLine) : OpD X (compareOp .NotEq) fNe := by
  intro pins s σ H x y v u Q I rx ry ⟨Hf, dx, dy, dz, hi, hx, hy, hf, k⟩
  unfold fNe at hf
  split at hf
  · cases hf
    cases hx.int_eq
    cases hy.int_eq
    exact op_ne pins s σ H _ _ v u Q I rx ry ⟨rfl, by rw [dec_vi]; exact k _ _ _ (.refl hi) (.bl _)⟩
  · cases hf
    cases hx.str_eq
    cases hy.str_eq
    exact op_ne pins s σ H _ _ v u Q I rx ry ⟨rfl, by rw [dec_vs]; exact k _ _ _ (.refl hi) (.bl _)⟩
  · cases hf
    cases hx.bl_eq
    cases hy.bl_eq
    exact op_ne pins s σ H _ _ v u Q I rx ry ⟨rfl, by rw [dec_vb]; exact k _ _ _ (.refl hi) (.bl _)⟩
  · split at hf
    · rename_i hc
      cases hf
      exact op_neD hu pins s σ H _ _ v u Q I rx ry ⟨_, _, Dp_up hi hx, Dp_up hi hy, hc.1, hc.2, k _ _ _ (.refl hi) (.bl _)⟩
    · cases hf
theorem isN_dec {K : PySem.W.Frag} {H : Hp} {v : V} {d : PyData} (h : Dp K H v d) : decide (v = .non) = isN d := by
  cases h <;> simp [isN]
theorem od_is : OpD X (compareOp .Is) fIs := by
  intro pins s σ H x y v u Q I rx ry ⟨Hf, dx, dy, dz, hi, hx, hy, hf, k⟩
  unfold fIs at hf
  split at hf
  · cases hf
    cases hy.non_eq
    exact op_isN pins s σ H _ _ v u Q I rx ry ⟨rfl, by rw [isN_dec hx]; exact k _ _ _ (.refl hi) (.bl _)⟩
  · cases hf
    cases hx.bl_eq
    cases hy.bl_eq
    exact op_is_bl pins s σ H _ _ v u Q I rx ry ⟨_, _, rfl, rfl, k _ _ _ (.refl hi) (.bl _)⟩
  · cases hf
theorem od_isNot : OpD X (compareOp .IsNot) fIsNot := by
  intro pins s σ H x y v u Q I rx ry ⟨Hf, dx, dy, dz, hi, hx, hy, hf, k⟩
  unfold fIsNot at hf
  split at hf
  · cases hf
    cases hy.non_eq
    exact op_notN pins s σ H _ _ v u Q I rx ry ⟨rfl, by rw [isN_dec hx]; exact k _ _ _ (.refl hi) (.bl _)⟩
  · cases hf
    cases hx.bl_eq
    cases hy.bl_eq
    exact op_isnot_bl pins s σ H _ _ v u Q I rx ry ⟨_, _, rfl, rfl, k _ _ _ (.refl hi) (.bl _)⟩
  · cases hf
theorem atI_dp {K : PySem.W.Frag} {H : Hp} {vs : List V} {ds : List PyData} {i : Int} {d : PyData} (h : DpAll K H vs ds) (e : atI ds i = some d) : ∃ v, atI vs i = some v ∧ Dp K H v d := by
  unfold atI at e ⊢
  rw [h.len]
  cases q : ixN ds.length i with
  | none =>
    rw [q] at e
    cases e
  | some j =>
    rw [q] at e
    exact h.at e
theorem od_ix : IxR X (rD2 X.K fIx) := by
  intro value slice pins s σ H x y v u Q I rx ry ⟨Hf, dx, dy, dz, hi, hx, hy, hf, k⟩ hs
  unfold fIx at hf
  split at hf
  · obtain ⟨p, xs, rfl, hp, ha⟩ := hx.lst_of
    cases hy.int_eq
    obtain ⟨w, e, hw⟩ := atI_dp ha hf
    exact ix_list value slice pins s σ H _ _ v u Q I rx ry ⟨p, xs, _, w, rfl, rfl, hi.seq hp, e, k _ _ _ (.refl hi) hw⟩ hs
  · obtain ⟨p, xs, rfl, hp, ha⟩ := hx.tup_of
    cases hy.int_eq
    obtain ⟨w, e, hw⟩ := atI_dp ha hf
    exact ix_tup value slice pins s σ H _ _ v u Q I rx ry ⟨p, xs, _, w, rfl, rfl, sqT_up hi hp, e, k _ _ _ (.refl hi) hw⟩ hs
  · cases hf
theorem od_neg : UnR X (unaryOp .USub) (rD1 X.K fNeg) := by
  intro pins s σ H x v Q I rx ⟨Hf, dx, dz, hi, hx, hf, k⟩
  unfold fNeg at hf
  split at hf
  · cases hf
    cases hx.int_eq
    exact un_neg pins s σ H _ v Q I rx ⟨_, rfl, k _ _ _ (.refl hi) (.int _)⟩
  · cases hf

def eVar (i : Nat) : FE := fun env => match env[i]? with
  | some (some (.val d)) => some d
  | _ => none
def eC (d : PyData) : FE := fun _ => some d
def e2 (F : PyData → PyData → Option PyData) (f g : FE) : FE := fun env => (f env).bind fun x => (g env).bind fun y => F x y
def e1 (F : PyData → Option PyData) (f : FE) : FE := fun env => (f env).bind F
variable {a b c e : Expr} {f g h : FE} {pos : Pos} {F : PyData → PyData → Option PyData}
theorem Option_bind_some {α β : Type} {o : Option α} {q : α → Option β} {y : β} (h : o.bind q = some y) : ∃ x, o = some x ∧ q x = some y := by
  cases o with
  | none => cases h
  | some x => exact ⟨x, rfl, h⟩
theorem x_var (i : Nat) {x : Str} (hN : X.N[i]? = some x := by rfl) (hv : Vis X.env.scope x := by first | exact Or.inl rfl | exact Or.inr (Or.inl rfl) | exact Or.inr (Or.inr rfl)) (hd : (x == ("__debug__" : Str)) = false := by decide)
    (hcd : (x == ("__classdict__" : Str)) = false := by decide) : PE X (.Name x pos) (tE X.K (eVar i)) := by
  refine pe_le (pe_var hN hv hd hcd) fun σ H Q ⟨Z, Hf, env, d, R, hf, k⟩ => ?_
  unfold eVar at hf
  split at hf
  · rename_i d' he
    cases hf
    obtain ⟨v, hs, hv⟩ := R.sl i _ he
    exact ⟨v, hs, k v H Hf (.refl R.st.i) hv⟩
  · cases hf
theorem x_int {i j} : PE X (.Constant (.int i) j pos) (tE X.K (eC (.int i))) := pe_le pe_int fun σ H Q ⟨Z, Hf, env, d, R, hf, k⟩ => by
  cases hf
  exact k _ _ _ (.refl R.st.i) (.int i)
theorem x_str {x j} : PE X (.Constant (.str x) j pos) (tE X.K (eC (.str x))) := pe_le pe_str fun σ H Q ⟨Z, Hf, env, d, R, hf, k⟩ => by
  cases hf
  exact k _ _ _ (.refl R.st.i) (.str x)
theorem x_bl {x j} : PE X (.Constant (.bool x) j pos) (tE X.K (eC (.bool x))) := pe_le pe_bl fun σ H Q ⟨Z, Hf, env, d, R, hf, k⟩ => by
  cases hf
  exact k _ _ _ (.refl R.st.i) (.bl x)
theorem x_non {j} : PE X (.Constant .none j pos) (tE X.K (eC .none)) := pe_le pe_non fun σ H Q ⟨Z, Hf, env, d, R, hf, k⟩ => by
  cases hf
  exact k _ _ _ (.refl R.st.i) .non
theorem tOp_of {K : PySem.W.Frag} {σ : L2.St} {H : Hp} {Q : VK} (q : tE K (e2 F f g) σ H Q) : tOp (rD2 K F) (tE K f) (tE K g) σ H Q := by
  obtain ⟨Z, Hf, env, d, R, hf, k⟩ := q
  obtain ⟨x, hx, hf⟩ := Option_bind_some hf
  obtain ⟨y, hy, hf⟩ := Option_bind_some hf
  exact ⟨Z, Hf, env, x, R, hx, fun v H1 Hf1 s1 d1 => ⟨Z, Hf1, env, y, R.step s1, hy, fun u H2 Hf2 s2 d2 => ⟨Hf2, x, y, d, s2.i, Dp_up s2.f d1, d2, hf, fun r H3 Hf3 s3 d3 => k r H3 Hf3 (s1.trans (s2.trans s3)) d3⟩⟩⟩
theorem x_bin {op : Operator} (ho : OpD X (binaryOp op) F) (ha : PE X a (tE X.K f)) (hb : PE X b (tE X.K g)) : PE X (.BinOp a op b pos) (tE X.K (e2 F f g)) :=
  pe_le (pe_op ho ha hb) fun _ _ _ q => tOp_of q
theorem x_cmp {op : CmpOp} (ho : OpD X (compareOp op) F) (ha : PE X a (tE X.K f)) (hb : PE X b (tE X.K g)) (hm : behindInMarks op b = false) : PE X (.Compare a [op] [b] pos) (tE X.K (e2 F f g)) :=
  pe_le (pe_cmpR ho ha hb hm) fun _ _ _ q => tOp_of q
theorem x_ix (ha : PE X a (tE X.K f)) (hb : PE X b (tE X.K g)) (hs : PlainIx b) : PE X (.Subscript a b pos) (tE X.K (e2 fIx f g)) :=
  pe_le (pe_ix od_ix ha hb hs) fun _ _ _ q => tOp_of q
theorem x_neg (ha : PE X a (tE X.K f)) : PE X (.UnaryOp .USub a pos) (tE X.K (e1 fNeg f)) :=
  pe_le (pe_un od_neg ha) fun σ H Q ⟨Z, Hf, env, d, R, hf, k⟩ => by
    obtain ⟨x, hx, hf⟩ := Option_bind_some hf
    exact ⟨Z, Hf, env, x, R, hx, fun v H1 Hf1 s1 d1 => ⟨Hf1, x, d, s1.i, d1, hf, fun r H3 Hf3 s3 d3 => k r H3 Hf3 (s1.trans s3) d3⟩⟩
def asB (f : FE) : FT := fun env => match f env with
  | some (.bool b) => some b
  | _ => none
theorem asB_some {f : FE} {env : En} {b : Bool} (h : asB f env = some b) : f env = some (.bool b) := by
  unfold asB at h
  split at h
  · rename_i q
    cases h
    exact q
  · cases h
theorem t_val (ha : PE X a (tE X.K f)) (he : ∀ whole, isTrue a X.env whole = (do let v ← whole; standAt a.pos; holding [v] (truthy v)) := by intro _; rfl) : PT X a (tT X.K (asB f)) :=
  pt_le (pt_val ha he) fun σ H Q ⟨Z, Hf, env, d, R, hf, k⟩ => ⟨Z, Hf, env, .bool d, R, asB_some hf, fun v H1 Hf1 s1 d1 => ⟨d, d1.bl_eq, k H1 Hf1 s1⟩⟩
theorem t_cmp {op : CmpOp} (ho : OpD X (compareOp op) F) (ha : PE X a (tE X.K f)) (hb : PE X b (tE X.K g)) (hm : behindInMarks op b = false) : PT X (.Compare a [op] [b] pos) (tT X.K (asB (e2 F f g))) :=
  pt_le (pt_cmpR ho ha hb hm) fun σ H Q ⟨Z, Hf, env, d, R, hf, k⟩ => by
    have q : tE X.K (e2 F f g) σ H (fun x H' => ∃ k, x = .bl k ∧ Q k H') := ⟨Z, Hf, env, .bool d, R, asB_some hf, fun v H1 Hf1 s1 d1 => ⟨d, d1.bl_eq, k H1 Hf1 s1⟩⟩
    exact tOp_of q
/-- a op1 b op2 c -/
def eChain (F G : PyData → PyData → Option PyData) (f g h : FE) : FE := fun env => (f env).bind fun x => (g env).bind fun y => (F x y).bind fun r => match r with
  | .bool true => (h env).bind fun z => G y z
  | .bool false => some (.bool false)
  | _ => none
theorem tChain_of {G : PyData → PyData → Option PyData} {K : PySem.W.Frag} {σ : L2.St} {H : Hp} {Q : VK} (q : tE K (eChain F G f g h) σ H Q) : tChain (rD2 K F) (rD2 K G) (tE K f) (tE K g) (tE K h) σ H Q := by
  obtain ⟨Z, Hf, env, d, R, hf, k⟩ := q
  obtain ⟨x, hx, hf⟩ := Option_bind_some hf
  obtain ⟨y, hy, hf⟩ := Option_bind_some hf
  obtain ⟨r, hr, hf⟩ := Option_bind_some hf
  refine ⟨Z, Hf, env, x, R, hx, fun v H1 Hf1 s1 d1 => ⟨Z, Hf1, env, y, R.step s1, hy, fun u H2 Hf2 s2 d2 => ⟨Hf2, x, y, r, s2.i, Dp_up s2.f d1, d2, hr, fun w H3 Hf3 s3 d3 => ?_⟩⟩⟩
  split at hf
  · refine ⟨true, d3.bl_eq, ?_⟩
    obtain ⟨z, hz, hf⟩ := Option_bind_some hf
    exact iteT ⟨Z, Hf3, env, z, R.step (s1.trans (s2.trans s3)), hz, fun w' H4 Hf4 s4 d4 => ⟨Hf4, y, z, d, s4.i, Dp_up (s3.f.trans s4.f) d2, d4, hf, fun r' H5 Hf5 s5 d5 => k r' H5 Hf5 (s1.trans (s2.trans (s3.trans (s4.trans s5)))) d5⟩⟩
  · refine ⟨false, d3.bl_eq, ?_⟩
    cases hf
    exact iteF (k _ _ _ (s1.trans (s2.trans s3)) (.bl false))
  · cases hf
theorem x_chain {op op' : CmpOp} {G : PyData → PyData → Option PyData} (ho : OpD X (compareOp op) F) (ho' : OpD X (compareOp op') G) (ha : PE X a (tE X.K f)) (hb : PE X b (tE X.K g)) (hc : PE X c (tE X.K h))
    (hm : lastMarks [op, op'] [b, c] = false := by with_unfolding_all rfl) : PE X (.Compare a [op, op'] [b, c] pos) (tE X.K (eChain F G f g h)) := pe_le (pe_chain ho ho' ha hb hc hm) fun _ _ _ q => tChain_of q
theorem t_chain {op op' : CmpOp} {G : PyData → PyData → Option PyData} (ho : OpD X (compareOp op) F) (ho' : OpD X (compareOp op') G) (ha : PE X a (tE X.K f)) (hb : PE X b (tE X.K g)) (hc : PE X c (tE X.K h))
    (hm : lastMarks [op, op'] [b, c] = false := by with_unfolding_all rfl) : PT X (.Compare a [op, op'] [b, c] pos) (tT X.K (asB (eChain F G f g h))) :=
  pt_le (pt_chain ho ho' ha hb hc hm) fun σ H Q ⟨Z, Hf, env, d, R, hf, k⟩ => by
    have q : tE X.K (eChain F G f g h) σ H (fun x H' => ∃ k, x = .bl k ∧ Q k H') := ⟨Z, Hf, env, .bool d, R, asB_some hf, fun v H1 Hf1 s1 d1 => ⟨d, d1.bl_eq, k H1 Hf1 s1⟩⟩
    exact tChain_of q
def tAndF (p q : FT) : FT := fun env => match p env with
  | some true => q env
  | some false => some false
  | none => none
def tOrF (p q : FT) : FT := fun env => match p env with
  | some true => some true
  | some false => q env
  | none => none
def tNotF (p : FT) : FT := fun env => (p env).map (!·)
variable {p q : FT} {rest : List Expr}
theorem tAnd_of {K : PySem.W.Frag} {σ : L2.St} {H : Hp} {Q : Bool → Hp → Prop} (w : tT K (tAndF p q) σ H Q) : tAnd (tT K p) (tT K q) σ H Q := by
  obtain ⟨Z, Hf, env, d, R, hf, k⟩ := w
  unfold tAndF at hf
  split at hf
  · rename_i hp
    exact ⟨Z, Hf, env, true, R, hp, fun H1 Hf1 s1 => iteT ⟨Z, Hf1, env, d, R.step s1, hf, fun H2 Hf2 s2 => k H2 Hf2 (s1.trans s2)⟩⟩
  · rename_i hp
    cases hf
    exact ⟨Z, Hf, env, false, R, hp, fun H1 Hf1 s1 => iteF (k H1 Hf1 s1)⟩
  · cases hf
theorem tOr_of {K : PySem.W.Frag} {σ : L2.St} {H : Hp} {Q : Bool → Hp → Prop} (w : tT K (tOrF p q) σ H Q) : tOr (tT K p) (tT K q) σ H Q := by
  obtain ⟨Z, Hf, env, d, R, hf, k⟩ := w
  unfold tOrF at hf
  split at hf
  · rename_i hp
    cases hf
    exact ⟨Z, Hf, env, true, R, hp, fun H1 Hf1 s1 => iteT (k H1 Hf1 s1)⟩
  · rename_i hp
    exact ⟨Z, Hf, env, false, R, hp, fun H1 Hf1 s1 => iteF ⟨Z, Hf1, env, d, R.step s1, hf, fun H2 Hf2 s2 => k H2 Hf2 (s1.trans s2)⟩⟩
  · cases hf
theorem pw_le {e : Expr} {t t' : TT} (h : PW X e t) (hm : ∀ σ H Q, t' σ H Q → t σ H Q) : PW X e t' := ⟨fun wh pins s σ H Q I q => h.run wh pins s σ H Q I (hm σ H Q q)⟩
theorem w_and (ha : PT X a (tT X.K p)) (hb : PW X (.BoolOp .And (b :: rest) pos) (tT X.K q)) : PW X (.BoolOp .And (a :: b :: rest) pos) (tT X.K (tAndF p q)) := pw_le (pw_and ha hb) fun _ _ _ w => tAnd_of w
theorem w_or (ha : PT X a (tT X.K p)) (hb : PW X (.BoolOp .Or (b :: rest) pos) (tT X.K q)) : PW X (.BoolOp .Or (a :: b :: rest) pos) (tT X.K (tOrF p q)) := pw_le (pw_or ha hb) fun _ _ _ w => tOr_of w
theorem t_not (ha : PT X a (tT X.K p)) : PT X (.UnaryOp .Not a pos) (tT X.K (tNotF p)) := pt_le (pt_not ha) fun σ H Q ⟨Z, Hf, env, d, R, hf, k⟩ => by
  unfold tNotF at hf
  obtain ⟨x, hx, rfl⟩ := Option.map_eq_some_iff.mp hf
  exact ⟨Z, Hf, env, x, R, hx, fun H1 Hf1 s1 => k H1 Hf1 s1⟩
/-- and, or, not as values (bools) -/
def eAnd (f g : FE) : FE := fun env => match f env with
  | some (.bool true) => g env
  | some (.bool false) => some (.bool false)
  | _ => none
def eOr (f g : FE) : FE := fun env => match f env with
  | some (.bool true) => some (.bool true)
  | some (.bool false) => g env
  | _ => none
def eNot (f : FE) : FE := fun env => match f env with
  | some (.bool b) => some (.bool (!b))
  | _ => none
theorem x_one {op} (ha : PE X a (tE X.K f)) : PE X (.BoolOp op [a] pos) (tE X.K f) := pe_one ha
theorem x_and (ha : PE X a (tE X.K f)) (hb : PE X (.BoolOp .And (b :: rest) pos) (tE X.K g)) : PE X (.BoolOp .And (a :: b :: rest) pos) (tE X.K (eAnd f g)) := pe_le (pe_and ha hb) fun σ H Q ⟨Z, Hf, env, d, R, hf, k⟩ => by
  unfold eAnd at hf
  split at hf
  · rename_i hp
    exact ⟨Z, Hf, env, _, R, hp, fun v H1 Hf1 s1 d1 => ⟨true, d1.bl_eq, iteT ⟨Z, Hf1, env, d, R.step s1, hf, fun u H2 Hf2 s2 d2 => k u H2 Hf2 (s1.trans s2) d2⟩⟩⟩
  · rename_i hp
    cases hf
    exact ⟨Z, Hf, env, _, R, hp, fun v H1 Hf1 s1 d1 => ⟨false, d1.bl_eq, iteF (k _ H1 Hf1 s1 (.bl false))⟩⟩
  · cases hf
theorem x_or (ha : PE X a (tE X.K f)) (hb : PE X (.BoolOp .Or (b :: rest) pos) (tE X.K g)) : PE X (.BoolOp .Or (a :: b :: rest) pos) (tE X.K (eOr f g)) := pe_le (pe_or ha hb) fun σ H Q ⟨Z, Hf, env, d, R, hf, k⟩ => by
  unfold eOr at hf
  split at hf
  · rename_i hp
    cases hf
    exact ⟨Z, Hf, env, _, R, hp, fun v H1 Hf1 s1 d1 => ⟨true, d1.bl_eq, iteT (k _ H1 Hf1 s1 (.bl true))⟩⟩
  · rename_i hp
    exact ⟨Z, Hf, env, _, R, hp, fun v H1 Hf1 s1 d1 => ⟨false, d1.bl_eq, iteF ⟨Z, Hf1, env, d, R.step s1, hf, fun u H2 Hf2 s2 d2 => k u H2 Hf2 (s1.trans s2) d2⟩⟩⟩
  · cases hf
theorem x_not (ha : PE X a (tE X.K f)) : PE X (.UnaryOp .Not a pos) (tE X.K (eNot f)) := pe_le (pe_not ha) fun σ H Q ⟨Z, Hf, env, d, R, hf, k⟩ => by
  unfold eNot at hf
  split at hf
  · rename_i hp
    cases hf
    exact ⟨Z, Hf, env, _, R, hp, fun v H1 Hf1 s1 d1 => ⟨_, d1.bl_eq, k _ H1 Hf1 s1 (.bl _)⟩⟩
  · cases hf
def eIf (p : FT) (f g : FE) : FE := fun env => match p env with
  | some true => f env
  | some false => g env
  | none => none
theorem x_if {t : Expr} (ht : PT X t (tT X.K p)) (ha : PE X a (tE X.K f)) (hb : PE X b (tE X.K g)) : PE X (.IfExp t a b pos) (tE X.K (eIf p f g)) := pe_le (pe_ifExp ht ha hb) fun σ H Q ⟨Z, Hf, env, d, R, hf, k⟩ => by
  unfold eIf at hf
  split at hf
  · rename_i hp
    exact ⟨Z, Hf, env, true, R, hp, fun H1 Hf1 s1 => iteT ⟨Z, Hf1, env, d, R.step s1, hf, fun u H2 Hf2 s2 d2 => k u H2 Hf2 (s1.trans s2) d2⟩⟩
  · rename_i hp
    exact ⟨Z, Hf, env, false, R, hp, fun H1 Hf1 s1 => iteF ⟨Z, Hf1, env, d, R.step s1, hf, fun u H2 Hf2 s2 d2 => k u H2 Hf2 (s1.trans s2) d2⟩⟩
  · cases hf

def aNil : FL := fun _ => some []
def aCons (f : FE) (r : FL) : FL := fun env => (f env).bind fun x => (r env).bind fun xs => some (x :: xs)
variable {es : List Expr} {r : FL}
theorem a_nil : PA X [] (tA X.K aNil) := pa_le pa_nil fun σ H Q ⟨Z, Hf, env, d, R, hf, k⟩ => by
  cases hf
  exact k [] H Hf (.refl R.st.i) .nil
theorem a_cons (ha : PE X e (tE X.K f)) (hr : PA X es (tA X.K r)) (hs : starEach (e :: es) X.env = (false, eval e X.env) :: starEach es X.env := by rfl) : PA X (e :: es) (tA X.K (aCons f r)) :=
  pa_le (pa_cons ha hr hs) fun σ H Q ⟨Z, Hf, env, d, R, hf, k⟩ => by
    obtain ⟨x, hx, hf⟩ := Option_bind_some hf
    obtain ⟨xs, hxs, hf⟩ := Option_bind_some hf
    cases hf
    exact ⟨Z, Hf, env, x, R, hx, fun v H1 Hf1 s1 d1 => ⟨Z, Hf1, env, xs, R.step s1, hxs, fun vs H2 Hf2 s2 d2 => k (v :: vs) H2 Hf2 (s1.trans s2) (.cons (Dp_up s2.f d1) d2)⟩⟩
def eTup (r : FL) : FE := fun env => (r env).bind fun xs => if xs.length ≤ 100000 then some (.tuple xs) else none
def lLst (r : FL) : FL := fun env => (r env).bind fun xs => if xs.length ≤ 100000 then some xs else none
theorem x_tup {x1} (h : PA X es (tA X.K r)) : PE X (.Tuple es x1 pos) (tE X.K (eTup r)) := pe_le (pe_tup h) fun σ H Q ⟨Z, Hf, env, d, R, hf, k⟩ => by
  obtain ⟨xs, hxs, hf⟩ := Option_bind_some hf
  split at hf
  · rename_i hl
    cases hf
    refine ⟨Z, Hf, env, xs, R, hxs, fun vs H1 Hf1 s1 d1 => ⟨size_le (by rw [d1.len]; exact hl), fun p hp => ?_⟩⟩
    have s2 := Stp.new (o := .tup vs) s1.i hp
    exact k _ _ _ (s1.trans s2) (.tup (SqT.of upd_same) (DpAll_up s2.f d1))
  · cases hf
theorem l_lst (h : PA X es (tA X.K r)) : PE X (.List es pos) (tL X.K (lLst r)) := pe_le (pe_lst h) fun σ H Q ⟨Z, Hf, env, d, R, hf, k⟩ => by
  obtain ⟨xs, hxs, hf⟩ := Option_bind_some hf
  split at hf
  · rename_i hl
    cases hf
    refine ⟨Z, Hf, env, d, R, hxs, fun vs H1 Hf1 s1 d1 => ⟨size_le (by rw [d1.len]; exact hl), fun p hp => ?_⟩⟩
    exact k p vs _ _ (s1.trans (Stp.hid s1.i hp)) (s1.h.free hp) (s1.i.free hp) upd_same d1
  · cases hf
/-- a new list, taken as a value -/
def eL (l : FL) : FE := fun env => (l env).map .list
theorem x_L {l : FL} (h : PE X e (tL X.K l)) : PE X e (tE X.K (eL l)) := pe_le h fun σ H Q ⟨Z, Hf, env, d, R, hf, k⟩ => by
  unfold eL at hf
  obtain ⟨xs, hxs, hq⟩ := Option.map_eq_some_iff.mp hf
  subst hq
  refine ⟨Z, Hf, env, xs, R, hxs, fun p vs H1 Hf1 s1 h0 h1 h2 d1 => ?_⟩
  exact k _ _ _ (s1.show h0 h1 h2) (.lst (SqL.of upd_same) (DpAll_up (same_new h1) d1))

def eCall (F : List PyData → Option PyData) (r : FL) : FE := fun env => (r env).bind F
def lCall (F : List PyData → Option (List PyData)) (r : FL) : FL := fun env => (r env).bind F
theorem tCB_of {G : List PyData → Option PyData} {K : PySem.W.Frag} {σ : L2.St} {H : Hp} {Q : VK} (w : tE K (eCall G r) σ H Q) : tCB (rDc K G) (tA K r) σ H Q := by
  obtain ⟨Z, Hf, env, d, R, hf, k⟩ := w
  obtain ⟨xs, hxs, hf⟩ := Option_bind_some hf
  exact ⟨Z, Hf, env, xs, R, hxs, fun vs H1 Hf1 s1 d1 => ⟨Hf1, xs, d, s1.i, d1, hf, fun v H2 Hf2 s2 d2 => k v H2 Hf2 (s1.trans s2) d2⟩⟩
theorem tCBL_of {G : List PyData → Option (List PyData)} {K : PySem.W.Frag} {σ : L2.St} {H : Hp} {Q : VK} (w : tL K (lCall G r) σ H Q) : tCB (rDcL K G) (tA K r) σ H Q := by
  obtain ⟨Z, Hf, env, d, R, hf, k⟩ := w
  obtain ⟨xs, hxs, hf⟩ := Option_bind_some hf
  exact ⟨Z, Hf, env, xs, R, hxs, fun vs H1 Hf1 s1 d1 => ⟨Hf1, xs, d, s1.i, d1, hf, fun p us H2 Hf2 s2 h0 h1 h2 d2 => k p us H2 Hf2 (s1.trans s2) (s1.h.free h0) h1 h2 d2⟩⟩
theorem x_callB {G : List PyData → Option PyData} {x : Str} {id : String} {p : Pos} (hc : CallD X (.builtin id) G) (hg : Gl X x) (hm : X.mg x = none) (hv : bootBuiltins x = some (.builtin id)) (ha : PA X (e :: es) (tA X.K r)) (hn : x ≠ "__name__" := by decide) (hdb : (x == ("__debug__" : Str)) = false := by decide)
    (he : starEach (e :: es) X.env = (false, eval e X.env) :: starEach es X.env := by rfl) (hpl : (backTo pos (starEach es X.env)).any (·.1) = false := by rfl) :
    PE X (.Call (.Name x p) (e :: es) [] pos) (tE X.K (eCall G r)) := pe_le (pe_callB hc hg hm hv ha hn hdb he hpl) fun _ _ _ w => tCB_of w
theorem x_callTy {G : List PyData → Option PyData} {x : Str} {T : String} {p : Pos} (hc : CallD X (.type T) G) (hg : Gl X x) (hm : X.mg x = none) (hv : bootBuiltins x = some (.type T)) (ha : PA X (e :: es) (tA X.K r)) (hn : x ≠ "__name__" := by decide) (hdb : (x == ("__debug__" : Str)) = false := by decide)
    (he : starEach (e :: es) X.env = (false, eval e X.env) :: starEach es X.env := by rfl) (hpl : (backTo pos (starEach es X.env)).any (·.1) = false := by rfl) :
    PE X (.Call (.Name x p) (e :: es) [] pos) (tE X.K (eCall G r)) := pe_le (pe_callTy hc hg hm hv ha hn hdb he hpl) fun _ _ _ w => tCB_of w
theorem l_callTy {G : List PyData → Option (List PyData)} {x : Str} {T : String} {p : Pos} (hc : CallL X (.type T) G) (hg : Gl X x) (hm : X.mg x = none) (hv : bootBuiltins x = some (.type T)) (ha : PA X (e :: es) (tA X.K r)) (hn : x ≠ "__name__" := by decide) (hdb : (x == ("__debug__" : Str)) = false := by decide)
    (he : starEach (e :: es) X.env = (false, eval e X.env) :: starEach es X.env := by rfl) (hpl : (backTo pos (starEach es X.env)).any (·.1) = false := by rfl) :
    PE X (.Call (.Name x p) (e :: es) [] pos) (tL X.K (lCall G r)) := pe_le (pe_callTy hc hg hm hv ha hn hdb he hpl) fun _ _ _ w => tCBL_of w
end
end Fi

namespace Fi
open PySem L2

def tG (K : PySem.W.Frag) (m : Bool) (sl : List Nat) (g : PyData → En → Option En) : TG := fun v σ H Q => ∃ (Z : Hp × Hp) (Hf : Hp) (env : En) (d : PyData) (env' : En), Rel K Z Hf H env σ ∧ Dp K Hf v d ∧ g d env = some env' ∧
  ∀ σ' H' Hf', Same Hf Hf' → Rel K Z Hf' H' env' σ' → (∀ i : Nat, i ∉ sl → σ'[i]? = σ[i]?) → σ'.length = σ.length → (m = false → H' = H ∧ Hf' = Hf) → Q σ' H'
def tGs (K : PySem.W.Frag) (m : Bool) (sl : List Nat) (g : List PyData → En → Option En) : TGs := fun vs σ H Q => ∃ (Z : Hp × Hp) (Hf : Hp) (env : En) (ds : List PyData) (env' : En), Rel K Z Hf H env σ ∧ DpAll K Hf vs ds ∧ g ds env = some env' ∧
  ∀ σ' H' Hf', Same Hf Hf' → Rel K Z Hf' H' env' σ' → (∀ i : Nat, i ∉ sl → σ'[i]? = σ[i]?) → σ'.length = σ.length → (m = false → H' = H ∧ Hf' = Hf) → Q σ' H'
def gSet (i : Nat) : PyData → En → Option En := fun d env => some (env.set i (some (.val d)))
def gsNil : List PyData → En → Option En := fun ds env => match ds with
  | [] => some env
  | _ => none
def gsCons (g : PyData → En → Option En) (r : List PyData → En → Option En) : List PyData → En → Option En := fun ds env => match ds with
  | d :: ds => (g d env).bind (r ds)
  | [] => none
def gTupF (n : Nat) (r : List PyData → En → Option En) : PyData → En → Option En := fun d env => match d with
  | .tuple ds => if ds.length = n then r ds env else none
  | _ => none
def gSub (i : Nat) (f : FE) : PyData → En → Option En := fun d env => match env[i]? with
  | some (some (.own l)) => match f env with
    | some (.int k) => match ixN l.length k with
      | some j => some (env.set i (some (.own (l.set j d))))
      | none => none
    | _ => none
  | _ => none
section
variable {X : Cx} {pos : Pos}
theorem g_name (i : Nat) {x : Str} (hN : X.N.Nodup) (hi : X.N[i]? = some x := by rfl) (hx : Loc X.env.scope x := by first | exact Or.inl rfl | exact Or.inr rfl) (hf : X.fn x = true ∨ X.env.scope.names.lookup x = some .local := by first | exact .inl rfl | exact .inr rfl | assumption) :
    PG X (.Name x pos) (tG X.K false [i] (gSet i)) := by
  refine pg_le (pg_name hN hi hx hf) fun v σ H Q ⟨Z, Hf, env, d, env', R, hd, hg, k⟩ => ?_
  cases hg
  refine k (σ.set i (some v)) H Hf (Same.refl _) (R.set i hd) (fun j hj => ?_) (List.length_set ..) fun _ => ⟨rfl, rfl⟩
  rw [List.getElem?_set_ne (fun e => hj (by simp [e]))]
theorem gs_nil {m : Bool} : PGs X [] (tGs X.K m [] gsNil) := by
  refine ⟨fun pins s σ H vs us Q I r ⟨Z, Hf, env, ds, env', R, hd, hg, k⟩ => ?_⟩
  unfold gsNil at hg
  split at hg
  · cases hg
    cases hd
    exact pgs_nil.run pins s σ H [] us Q I r ⟨rfl, k σ H Hf (Same.refl _) R (fun _ _ => rfl) rfl fun _ => ⟨rfl, rfl⟩⟩
  · cases hg
theorem gs_cons {e : Expr} {es : List Expr} {m n : Bool} {s1 s2 : List Nat} {g : PyData → En → Option En} {r : List PyData → En → Option En} (h1 : PG X e (tG X.K m s1 g)) (h2 : PGs X es (tGs X.K n s2 r))
    (hs : (assignEach (e :: es) X.env).map (·.2) = assign e X.env :: (assignEach es X.env).map (·.2) := by rfl) : PGs X (e :: es) (tGs X.K (m || n) (s1 ++ s2) (gsCons g r)) := by
  refine ⟨fun pins s σ H vs us Q I q ⟨Z, Hf, env, ds, env', R, hd, hg, k⟩ => ?_⟩
  refine (pgs_cons h1 h2 hs).run pins s σ H vs us Q I q ?_
  unfold gsCons at hg
  split at hg
  · rename_i d ds
    cases hd with
    | cons hd ht =>
      obtain ⟨e1, hg1, hg⟩ := Option_bind_some hg
      refine ⟨_, _, rfl, Z, Hf, env, d, e1, R, hd, hg1, fun σ' H' Hf' s1 R' p1 l1 m1 => ?_⟩
      refine ⟨Z, Hf', e1, ds, env', R', DpAll_up s1 ht, hg, fun σ2 H2 Hf2 s2 R2 p2 l2 m2 => ?_⟩
      refine k σ2 H2 Hf2 (s1.trans s2) R2 (fun i hi => ?_) (l2.trans l1) fun hm => ?_
      · have hi' : i ∉ _ ∧ i ∉ _ := ⟨fun q => hi (List.mem_append_left _ q), fun q => hi (List.mem_append_right _ q)⟩
        rw [p2 i hi'.2, p1 i hi'.1]
      · rw [Bool.or_eq_false_iff] at hm
        obtain ⟨a1, a2⟩ := m1 hm.1
        obtain ⟨b1, b2⟩ := m2 hm.2
        exact ⟨b1.trans a1, b2.trans a2⟩
  · cases hg
theorem g_tup {es : List Expr} {k n : Nat} {m : Bool} {sl : List Nat} {r : List PyData → En → Option En} (hc : X.calm = true) (h : PGs X es (tGs X.K m sl r))
    (hn : (assignEach es X.env).length = n := by rfl) (hst : (assignEach es X.env).findIdx? (·.1) = none := by rfl) : PG X (.Tuple es k pos) (tG X.K m sl (gTupF n r)) := by
  refine pg_le (pg_tup hc h hn hst) fun v σ H Q ⟨Z, Hf, env, d, env', R, hd, hg, kk⟩ => ?_
  unfold gTupF at hg
  split at hg
  · rename_i ds
    split at hg
    · rename_i hl
      obtain ⟨a, xs, rfl, hp, ha⟩ := hd.tup_of
      exact ⟨a, xs, rfl, sqT_up R.st.i hp, by rw [ha.len]; exact hl, Z, Hf, env, ds, env', R, ha, hg, kk⟩
    · cases hg
  · cases hg
/-- x[e] = .., x an own list -/
theorem g_sub (i : Nat) {x : Str} {e : Expr} {p : Pos} {f : FE} (hN : X.N[i]? = some x := by rfl) (hv : Vis X.env.scope x := by first | exact Or.inl rfl | exact Or.inr (Or.inl rfl) | exact Or.inr (Or.inr rfl)) (he : PE X e (tE X.K f)) (hd : (x == ("__debug__" : Str)) = false := by decide)
    (hcd : (x == ("__classdict__" : Str)) = false := by decide)
    (ha : ∀ v, assign (.Subscript (.Name x p) e pos) X.env v = (do
      let ov ← holding [v] (eval (.Name x p) X.env)
      let iv ← holding [v, ov] (eval e X.env)
      standAt pos
      holding [v, ov, iv] (setItem ov iv v)
      release [v, ov, iv] []) := by intro _; rfl) : PG X (.Subscript (.Name x p) e pos) (tG X.K true [] (gSub i f)) := by
  refine pg_le (pg_sub (pe_var hN hv hd hcd) he set_list ha) fun v σ H Q ⟨Z, Hf, env, d, env', R, hd, hg, k⟩ => ?_
  unfold gSub at hg
  split at hg
  · rename_i l hl
    split at hg
    · rename_i kk hk
      split at hg
      · rename_i j hj
        cases hg
        obtain ⟨w, hs, p, vs, rfl, hz, hf, hp, ha⟩ := R.sl i _ hl
        refine ⟨.ref p, hs, Z, Hf, env, _, R, hk, fun u H1 Hf1 s1 d1 => ?_⟩
        cases d1.int_eq
        refine ⟨p, vs, kk, j, rfl, rfl, s1.h p _ hp, by rw [ha.len]; exact hj, ?_⟩
        have R1 := (R.step s1).mut hl hs ((DpAll_up s1.f ha).set (Dp_up s1.f hd) j)
        exact k σ _ Hf1 s1.f R1 (fun _ _ => rfl) rfl (fun z => Bool.noConfusion z)
      · cases hg
    · cases hg
  · cases hg
end

def sNext : FS := fun env => some (.next env)
def sSeq (f g : FS) : FS := fun env => match f env with
  | some (.next e) => g e
  | o => o
def sAsg (f : FE) (g : PyData → En → Option En) : FS := fun env => (f env).bind fun d => (g d env).map .next
def sSet (i : Nat) (f : FE) : FS := fun env => (f env).map fun d => .next (env.set i (some (.val d)))
def sOwn (i : Nat) (l : FL) : FS := fun env => (l env).map fun ds => .next (env.set i (some (.own ds)))
def sPar (i j : Nat) (r : FL) : FS := fun env => match r env with
  | some [x, y] => some (.next ((env.set i (some (.val x))).set j (some (.val y))))
  | _ => none
def sParL (i j : Nat) (l : FL) (h : FE) : FS := fun env => (l env).bind fun xs => (h env).bind fun d => some (.next ((env.set i (some (.own xs))).set j (some (.val d))))
def sIf (p : FT) (f g : FS) : FS := fun env => match p env with
  | some true => f env
  | some false => g env
  | none => none
def sRet (f : FE) : FS := fun env => (f env).map .ret
def sRetL (l : FL) : FS := fun env => (l env).map .retL
def sRetO (i : Nat) : FS := fun env => match env[i]? with
  | some (some (.own l)) => some (.retL l)
  | _ => none
def sDrop (f : FE) : FS := fun env => (f env).map fun _ => .next env
def sAug (i : Nat) (g : Int → Int → Int) (f : FE) : FS := fun env => match eVar i env, f env with
  | some (.int a), some (.int b) => some (.next (env.set i (some (.val (.int (g a b))))))
  | _, _ => none
def sApp (i : Nat) (f : FE) : FS := fun env => match env[i]? with
  | some (some (.own l)) => (f env).bind fun d => if l.length < 100000 then some (.next (env.set i (some (.own (l ++ [d]))))) else none
  | _ => none
def sFrz (i : Nat) (f : FS) : FS := fun env => f (frz i env)
section
variable {X : Cx} {st : Stmt} {rest : List Stmt} {e : Expr} {pos : Pos} {f g : FS} {h : FE} {l : FL} {p : FT}
theorem s_nil : PSs X [] (tS X.K sNext) := pss_le pss_nil fun D σ H ⟨Z, Hf, env, o, R, hf, k⟩ => by
  cases hf
  exact k σ H Hf (Same.refl _) R
theorem s_pass : PS X (.Pass pos) (tS X.K sNext) := ps_le ps_pass fun D σ H ⟨Z, Hf, env, o, R, hf, k⟩ => by
  cases hf
  exact k σ H Hf (Same.refl _) R
theorem s_cons (h1 : PS X st (tS X.K f)) (h2 : PSs X rest (tS X.K g)) : PSs X (st :: rest) (tS X.K (sSeq f g)) := pss_le (pss_cons h1 h2) fun D σ H ⟨Z, Hf, env, o, R, hf, k⟩ => by
  unfold sSeq at hf
  cases q : f env with
  | none =>
    rw [q] at hf
    cases hf
  | some o1 =>
    rw [q] at hf
    cases o1 with
    | next e1 => exact ⟨Z, Hf, env, .next e1, R, q, fun σ' H' Hf' s1 R' => ⟨Z, Hf', e1, o, R', hf, k.up s1⟩⟩
    | brk e1 =>
      cases hf
      exact ⟨Z, Hf, env, .brk e1, R, q, k⟩
    | cont e1 =>
      cases hf
      exact ⟨Z, Hf, env, .cont e1, R, q, k⟩
    | ret d =>
      cases hf
      exact ⟨Z, Hf, env, .ret d, R, q, k⟩
    | retL d =>
      cases hf
      exact ⟨Z, Hf, env, .retL d, R, q, k⟩
theorem s_one (h1 : PS X st (tS X.K f)) : PSs X [st] (tS X.K f) := pss_one h1
theorem s_frz (i : Nat) (h1 : PSs X rest (tS X.K f)) : PSs X rest (tS X.K (sFrz i f)) := pss_le h1 fun D σ H ⟨Z, Hf, env, o, R, hf, k⟩ => by
  obtain ⟨Hf', s1, R'⟩ := R.frz i
  exact ⟨Z, Hf', frz i env, o, R', hf, k.up s1⟩
theorem s_asg {tg : Expr} {m : Bool} {sl : List Nat} {gg : PyData → En → Option En} (he : PE X e (tE X.K h)) (hg : PG X tg (tG X.K m sl gg)) (hs : swapsWithSole [tg] e pos.line X.env = pure false := by rfl) (hw : swappedStores [tg] e X.env = pure none := by rfl)
    (h1 : (assignEach [tg] X.env).map (·.2) = [assign tg X.env] := by rfl) : PS X (.Assign [tg] e pos) (tS X.K (sAsg h gg)) := ps_le (ps_asg he hg hs hw h1) fun D σ H ⟨Z, Hf, env, o, R, hf, k⟩ => by
  obtain ⟨d, hd, hf⟩ := Option_bind_some hf
  obtain ⟨env', hg, rfl⟩ := Option.map_eq_some_iff.mp hf
  exact ⟨Z, Hf, env, d, R, hd, fun v H1 Hf1 s1 d1 => ⟨Z, Hf1, env, d, env', R.step s1, d1, hg, fun σ' H' Hf' s2 R' _ _ _ => k σ' H' Hf' (s1.f.trans s2) R'⟩⟩
theorem s_set (i : Nat) {x : Str} {pos' : Pos} (hN : X.N.Nodup) (he : PE X e (tE X.K h)) (hi : X.N[i]? = some x := by rfl) (hx : Loc X.env.scope x := by first | exact Or.inl rfl | exact Or.inr rfl) (hs : swapsWith e (some (.Name x pos')) pos.line X.env = pure false := by rfl) (hf : X.fn x = true ∨ X.env.scope.names.lookup x = some .local := by first | exact .inl rfl | exact .inr rfl | assumption) :
    PS X (.Assign [.Name x pos'] e pos) (tS X.K (sSet i h)) := ps_le (ps_set hN hi hx he hs hf) fun D σ H ⟨Z, Hf, env, o, R, hf, k⟩ => by
  obtain ⟨d, hd, rfl⟩ := Option.map_eq_some_iff.mp hf
  exact ⟨Z, Hf, env, d, R, hd, fun v H1 Hf1 s1 d1 => k _ H1 Hf1 s1.f ((R.step s1).set i d1)⟩
theorem s_own (i : Nat) {x : Str} {pos' : Pos} (hN : X.N.Nodup) (he : PE X e (tL X.K l)) (hi : X.N[i]? = some x := by rfl) (hx : Loc X.env.scope x := by first | exact Or.inl rfl | exact Or.inr rfl) (hs : swapsWith e (some (.Name x pos')) pos.line X.env = pure false := by rfl) (hf : X.fn x = true ∨ X.env.scope.names.lookup x = some .local := by first | exact .inl rfl | exact .inr rfl | assumption) :
    PS X (.Assign [.Name x pos'] e pos) (tS X.K (sOwn i l)) := ps_le (ps_set hN hi hx he hs hf) fun D σ H ⟨Z, Hf, env, o, R, hf, k⟩ => by
  obtain ⟨d, hd, rfl⟩ := Option.map_eq_some_iff.mp hf
  exact ⟨Z, Hf, env, d, R, hd, fun p vs H1 Hf1 s1 h0 h1 h2 d1 => k _ H1 Hf1 s1.f (R.setOwn s1 i h0 h1 h2 d1)⟩
theorem s_par (i j : Nat) {x y : Str} {a b : Expr} {px py pt : Pos} {kt k2 pt2} (hc : X.calm = true) (hN : X.N.Nodup) (ha : PA X [a, b] (tA X.K l)) (hi : X.N[i]? = some x := by rfl) (hj : X.N[j]? = some y := by rfl) (hij : i ≠ j := by decide)
    (hx : X.env.scope.names.lookup x = some .local := by rfl) (hy : X.env.scope.names.lookup y = some .local := by rfl) (hw : swappedStores [.Tuple [.Name x px, .Name y py] kt pt] (.Tuple [a, b] k2 pt2) X.env = pure (some [x, y]) := by rfl)
    (hs : swapsWithSole [.Tuple [.Name x px, .Name y py] kt pt] (.Tuple [a, b] k2 pt2) pos.line X.env = pure false := by rfl) :
    PS X (.Assign [.Tuple [.Name x px, .Name y py] kt pt] (.Tuple [a, b] k2 pt2) pos) (tS X.K (sPar i j l)) := ps_le (ps_par hc hN hi hj hij hx hy ha hw hs) fun D σ H ⟨Z, Hf, env, o, R, hf, k⟩ => by
  unfold sPar at hf
  split at hf
  · rename_i u v hl
    cases hf
    refine ⟨Z, Hf, env, _, R, hl, fun vs H1 Hf1 s1 d1 => ?_⟩
    obtain ⟨w1, w2, rfl, e1, e2⟩ := d1.two
    exact ⟨w1, w2, rfl, k _ H1 Hf1 s1.f (((R.step s1).set i e1).set j e2)⟩
  · cases hf
/-- a, b = (a new list, a value): the list is a's own -/
theorem s_parL (i j : Nat) {x y : Str} {a b : Expr} {px py pt : Pos} {kt k2 pt2} (hc : X.calm = true) (hN : X.N.Nodup) (ha : PE X a (tL X.K l)) (hb : PE X b (tE X.K h)) (hi : X.N[i]? = some x := by rfl) (hj : X.N[j]? = some y := by rfl) (hij : i ≠ j := by decide)
    (hx : X.env.scope.names.lookup x = some .local := by rfl) (hy : X.env.scope.names.lookup y = some .local := by rfl)
    (h1 : starEach [a, b] X.env = (false, eval a X.env) :: starEach [b] X.env := by rfl) (h2 : starEach [b] X.env = (false, eval b X.env) :: starEach [] X.env := by rfl)
    (hw : swappedStores [.Tuple [.Name x px, .Name y py] kt pt] (.Tuple [a, b] k2 pt2) X.env = pure (some [x, y]) := by rfl)
    (hs : swapsWithSole [.Tuple [.Name x px, .Name y py] kt pt] (.Tuple [a, b] k2 pt2) pos.line X.env = pure false := by rfl) :
    PS X (.Assign [.Tuple [.Name x px, .Name y py] kt pt] (.Tuple [a, b] k2 pt2) pos) (tS X.K (sParL i j l h)) := ps_le (ps_par hc hN hi hj hij hx hy (pa_cons ha (pa_cons hb pa_nil h2) h1) hw hs) fun D σ H ⟨Z, Hf, env, o, R, hf, k⟩ => by
  obtain ⟨xs, hxs, hf⟩ := Option_bind_some hf
  obtain ⟨d, hd, hf⟩ := Option_bind_some hf
  cases hf
  refine ⟨Z, Hf, env, xs, R, hxs, fun p vs H1 Hf1 s1 h0 h1 h2 d1 => ⟨Z, Hf1, env, d, R.step s1, hd, fun v H2 Hf2 s2 d2 => ⟨.ref p, v, rfl, ?_⟩⟩⟩
  have R1 := R.setOwn s1 i h0 h1 h2 d1
  exact k _ H2 Hf2 (s1.f.trans s2.f) ((R1.step s2).set j d2)
theorem s_if {c : Expr} {a b : List Stmt} (hc : PT X c (tT X.K p)) (ha : PSs X a (tS X.K f)) (hb : PSs X b (tS X.K g)) : PS X (.If c a b pos) (tS X.K (sIf p f g)) := ps_le (ps_if hc ha hb) fun D σ H ⟨Z, Hf, env, o, R, hf, k⟩ => by
  unfold sIf at hf
  split at hf
  · rename_i hp
    exact ⟨Z, Hf, env, true, R, hp, fun H1 Hf1 s1 => iteT ⟨Z, Hf1, env, o, R.step s1, hf, k.up s1.f⟩⟩
  · rename_i hp
    exact ⟨Z, Hf, env, false, R, hp, fun H1 Hf1 s1 => iteF ⟨Z, Hf1, env, o, R.step s1, hf, k.up s1.f⟩⟩
  · cases hf
theorem s_ret (he : PE X e (tE X.K h)) : PS X (.Return (some e) pos) (tS X.K (sRet h)) := ps_le (ps_ret he) fun D σ H ⟨Z, Hf, env, o, R, hf, k⟩ => by
  obtain ⟨d, hd, rfl⟩ := Option.map_eq_some_iff.mp hf
  exact ⟨Z, Hf, env, d, R, hd, fun v H1 Hf1 s1 d1 => k v H1 Hf1 (R.st.trans s1) d1⟩
theorem s_retL (he : PE X e (tL X.K l)) : PS X (.Return (some e) pos) (tS X.K (sRetL l)) := ps_le (ps_ret he) fun D σ H ⟨Z, Hf, env, o, R, hf, k⟩ => by
  obtain ⟨d, hd, rfl⟩ := Option.map_eq_some_iff.mp hf
  exact ⟨Z, Hf, env, d, R, hd, fun p vs H1 Hf1 s1 h0 h1 h2 d1 => k p vs H1 Hf1 (R.st.trans s1) (R.st.h.free h0) h1 h2 d1⟩
theorem s_retO (i : Nat) {x : Str} {p : Pos} (hN : X.N[i]? = some x := by rfl) (hv : Vis X.env.scope x := by first | exact Or.inl rfl | exact Or.inr (Or.inl rfl) | exact Or.inr (Or.inr rfl)) (hd : (x == ("__debug__" : Str)) = false := by decide)
    (hcd : (x == ("__classdict__" : Str)) = false := by decide) : PS X (.Return (some (.Name x p)) pos) (tS X.K (sRetO i)) := ps_le (ps_ret (pe_var hN hv hd hcd)) fun D σ H ⟨Z, Hf, env, o, R, hf, k⟩ => by
  unfold sRetO at hf
  split at hf
  · rename_i l hl
    cases hf
    obtain ⟨w, hs, p, vs, rfl, hz, hf, hp, ha⟩ := R.sl i _ hl
    exact ⟨.ref p, hs, k p vs H Hf R.st hz hf hp ha⟩
  · cases hf
theorem s_drop (he : PE X e (tE X.K h)) (hs : swapsWith e none pos.line X.env = pure false := by rfl) : PS X (.Expr e pos) (tS X.K (sDrop h)) := ps_le (ps_expr he hs) fun D σ H ⟨Z, Hf, env, o, R, hf, k⟩ => by
  obtain ⟨d, hd, rfl⟩ := Option.map_eq_some_iff.mp hf
  exact ⟨Z, Hf, env, d, R, hd, fun v H1 Hf1 s1 d1 => k σ H1 Hf1 s1.f (R.step s1)⟩
theorem s_aug (i : Nat) {x : Str} {op : Operator} {gi : Int → Int → Int} {pos' : Pos} (hN : X.N.Nodup) (he : PE X e (tE X.K h)) (ho : PIp X op (ipI gi)) (hi : X.N[i]? = some x := by rfl) (hx : Loc X.env.scope x := by first | exact Or.inl rfl | exact Or.inr rfl) (hf : X.fn x = true ∨ X.env.scope.names.lookup x = some .local := by first | exact .inl rfl | exact .inr rfl | assumption) :
    PS X (.AugAssign (.Name x pos') op e pos) (tS X.K (sAug i gi h)) := ps_le (ps_aug hN hi hx he ho hf) fun D σ H ⟨Z, Hf, env, o, R, hf, k⟩ => by
  unfold sAug at hf
  split at hf
  · rename_i a b h1 h2
    cases hf
    unfold eVar at h1
    split at h1
    · rename_i d' hd'
      cases h1
      obtain ⟨w, hs, hw⟩ := R.sl i _ hd'
      cases hw.int_eq
      refine ⟨.int a, hs, Z, Hf, env, .int b, R, h2, fun v H1 Hf1 s1 d1 => ?_⟩
      cases d1.int_eq
      exact ⟨a, b, rfl, rfl, k _ H1 Hf1 s1.f ((R.step s1).set i (.int _))⟩
    · cases h1
  · cases hf
theorem s_app (i : Nat) {x : Str} {p apos cpos : Pos} (he : PE X e (tE X.K h)) (hN : X.N[i]? = some x := by rfl) (hv : Vis X.env.scope x := by first | exact Or.inl rfl | exact Or.inr (Or.inl rfl) | exact Or.inr (Or.inr rfl)) (hd : (x == ("__debug__" : Str)) = false := by decide)
    (hcd : (x == ("__classdict__" : Str)) = false := by decide)
    (hbase : attributeBase (.Name x p) "append" X.env (eval (.Name x p) X.env) = eval (.Name x p) X.env := by rfl)
    (hfew : ((backTo cpos (starEach (e :: []) X.env)).all (fun x => !x.1) && (backToKw cpos (keywordEach [] X.env)).all (fun x => x.1.isSome)
      && decide ((e :: []).length + ([] : List Keyword).length + (if ([] : List Keyword).isEmpty then 0 else 1) < 30)) = true := by rfl)
    (hline : (apos.endLine == cpos.line) = true := by rfl) (hs : starEach (e :: []) X.env = (false, eval e X.env) :: starEach [] X.env := by rfl) (hplain : (backTo cpos (starEach [] X.env)).any (·.1) = false := by rfl)
    (hsw : swapsWith (.Call (.Attribute (.Name x p) "append" apos) [e] [] cpos) none pos.line X.env = pure false := by rfl) :
    PS X (.Expr (.Call (.Attribute (.Name x p) "append" apos) [e] [] cpos) pos) (tS X.K (sApp i h)) :=
  ps_le (ps_expr (pe_bm PySem.F.plainAttrs_list PySem.F.slot_list_append PySem.F.type_list_append mt_append (pe_var hN hv hd hcd) (pa_cons he pa_nil hs) hbase hfew hline hs hplain) hsw) fun D σ H ⟨Z, Hf, env, o, R, hf, k⟩ => by
    unfold sApp at hf
    split at hf
    · rename_i l hl
      obtain ⟨d, hd, hf⟩ := Option_bind_some hf
      split at hf
      · rename_i hz
        cases hf
        obtain ⟨w, hs, q, vs, rfl, hz0, hf0, hp, ha⟩ := R.sl i _ hl
        refine ⟨.ref q, hs, .inl ⟨rfl, _, SqL.of hp⟩, Z, Hf, env, d, R, hd, fun v H1 Hf1 s1 d1 => ?_⟩
        have ha1 := DpAll_up s1.f ha
        refine ⟨q, vs, v, rfl, rfl, s1.h q _ hp, Nat.lt_of_lt_of_le (by rw [ha.len]; exact hz) (by decide : 100000 ≤ sizeLine), ?_⟩
        exact k σ _ Hf1 s1.f ((R.step s1).mut hl hs (ha1.app (.cons d1 .nil)))
      · cases hf
    · cases hf
end

def YD (K : PySem.W.Frag) (Hf : Hp) (ds : List PyData) : Nat → Hp → V → Hp → Prop := fun i H x H' => ∃ d, ds[i]? = some d ∧
  ((H' = H ∧ Dp K Hf x d) ∨ ∃ T us dus, x = .ref T ∧ H T = none ∧ H' = upd H T (.tup us) ∧ d = .tuple dus ∧ DpAll K Hf us dus)
abbrev WalkD (K : PySem.W.Frag) (J : It) (Hf : Hp) (ds : List PyData) : Prop := Walk J ds.length (fun H => Same Hf H) (YD K Hf ds)
def tI (K : PySem.W.Frag) (f : FL) : TI := fun σ H R => ∃ (Z : Hp × Hp) (Hf : Hp) (env : En) (ds : List PyData), Rel K Z Hf H env σ ∧ f env = some ds ∧ ∀ J H1 Hf1, Stp Hf H Hf1 H1 → WalkD K J Hf1 ds → R J H1
def iL (f : FE) : FL := fun env => match f env with
  | some (.list l) => some l
  | _ => none
def iT (f : FE) : FL := fun env => match f env with
  | some (.tuple l) => some l
  | _ => none
def iR1 (r : FL) : FL := fun env => match r env with
  | some [.int n] => if -100000 < n ∧ n < 100000 then some ((List.range n.toNat).map fun (i : Nat) => PyData.int (i : Int)) else none
  | _ => none
def iR2 (r : FL) : FL := fun env => match r env with
  | some [.int a, .int n] => if (-100000 < a ∧ a < 100000) ∧ -100000 < n ∧ n < 100000 then some ((List.range (n - a).toNat).map fun (i : Nat) => PyData.int (a + (i : Int))) else none
  | _ => none
section
variable {X : Cx} {tg e : Expr} {pos : Pos} {f : FE} {r : FL}
theorem walkD_seq {K : PySem.W.Frag} {Hf : Hp} {xs : List V} {ds : List PyData} {J : It} {n : Nat} {G : Hp → Prop} (ha : DpAll K Hf xs ds) (w : Walk J xs.length G (YAt xs)) (hG : ∀ H, Same Hf H → G H) : WalkD K J Hf ds := by
  rw [show xs.length = ds.length from ha.len] at w
  refine w.mono hG fun i H x H' _ _ y => ?_
  obtain ⟨d, h1, h2⟩ := ha.get y.2
  exact ⟨d, h1, .inl ⟨y.1, h2⟩⟩
theorem i_list (he : PE X e (tE X.K f)) : PI X tg e (tI X.K (iL f)) := pi_le (pi_list he) fun σ H R ⟨Z, Hf, env, ds, Rl, hf, k⟩ => by
  unfold iL at hf
  split at hf
  · rename_i l hl
    cases hf
    refine ⟨Z, Hf, env, _, Rl, hl, fun v H1 Hf1 s1 d1 => ?_⟩
    obtain ⟨a, xs, rfl, hp, ha⟩ := d1.lst_of
    exact ⟨a, rfl, ⟨xs, s1.i.seq hp⟩, k _ H1 Hf1 s1 (walkD_seq (n := 0) ha walk_list fun H h => h.seq hp)⟩
  · cases hf
theorem i_tup (he : PE X e (tE X.K f)) : PI X tg e (tI X.K (iT f)) := pi_le (pi_tup he) fun σ H R ⟨Z, Hf, env, ds, Rl, hf, k⟩ => by
  unfold iT at hf
  split at hf
  · rename_i l hl
    cases hf
    refine ⟨Z, Hf, env, _, Rl, hl, fun v H1 Hf1 s1 d1 => ?_⟩
    obtain ⟨a, xs, rfl, hp, ha⟩ := d1.tup_of
    exact ⟨a, rfl, ⟨xs, sqT_up s1.i hp⟩, k _ H1 Hf1 s1 (walkD_seq (n := 0) ha walk_tup fun H h => sqT_up h hp)⟩
  · cases hf
theorem walkD_range {K : PySem.W.Frag} {Hf : Hp} {lo : Int} {n : Nat} : WalkD K (Itr lo n) Hf ((List.range n).map fun (i : Nat) => PyData.int (lo + (i : Int))) := by
  have w := walk_range (lo := lo) (n := n)
  show Walk _ ((List.range n).map fun (i : Nat) => PyData.int (lo + (i : Int))).length _ _
  rw [List.length_map, List.length_range]
  refine w.mono (fun _ _ => trivial) fun i H x H' hi _ y => ⟨.int (lo + (i : Int)), ?_, .inl ⟨y.1, ?_⟩⟩
  · rw [List.getElem?_map, List.getElem?_range hi]
    rfl
  · rw [y.2]
    exact .int _
theorem i_range1 {a : Expr} {p pos : Pos} (hg : Gl X "range") (hm : X.mg "range" = none) (ha : PA X [a] (tA X.K r)) (hs : starEach [a] X.env = [(false, eval a X.env)] := by rfl) : PI X tg (.Call (.Name "range" p) [a] [] pos) (tI X.K (iR1 r)) :=
  pi_le (L2.pi_range1 hg hm ha hs) fun σ H R ⟨Z, Hf, env, ds, Rl, hf, k⟩ => by
    unfold iR1 at hf
    split at hf
    · rename_i n hl
      split at hf
      · rename_i hn
        cases hf
        refine ⟨Z, Hf, env, _, Rl, hl, fun vs H1 Hf1 s1 d1 => ?_⟩
        obtain ⟨v, rfl, hv⟩ := d1.one
        cases hv.int_eq
        refine ⟨n, rfl, by omega, by omega, k _ H1 Hf1 s1 ?_⟩
        have w := walkD_range (K := X.K) (Hf := Hf1) (lo := 0) (n := n.toNat)
        simp only [Int.zero_add] at w
        exact w
      · cases hf
    · cases hf
theorem i_range2 {a b : Expr} {p pos : Pos} (hg : Gl X "range") (hm : X.mg "range" = none) (ha : PA X [a, b] (tA X.K r)) (hs : starEach [a, b] X.env = [(false, eval a X.env), (false, eval b X.env)] := by rfl) (hs2 : starEach [b] X.env = [(false, eval b X.env)] := by rfl) :
    PI X tg (.Call (.Name "range" p) [a, b] [] pos) (tI X.K (iR2 r)) :=
  pi_le (L2.pi_range2 hg hm ha hs hs2) fun σ H R ⟨Z, Hf, env, ds, Rl, hf, k⟩ => by
    unfold iR2 at hf
    split at hf
    · rename_i a n hl
      split at hf
      · rename_i hn
        cases hf
        refine ⟨Z, Hf, env, _, Rl, hl, fun vs H1 Hf1 s1 d1 => ?_⟩
        obtain ⟨v, w, rfl, hv, hw⟩ := d1.two
        cases hv.int_eq
        cases hw.int_eq
        exact ⟨a, n, rfl, ⟨by omega, by omega, by omega, by omega⟩, k _ H1 Hf1 s1 walkD_range⟩
      · cases hf
    · cases hf
end

def forD (g : PyData → En → Option En) (fb : FS) : List PyData → FS
  | [], env => some (.next env)
  | d :: ds, env => (g d env).bind fun e1 => match fb e1 with
    | some (.next e) => forD g fb ds e
    | some (.cont e) => forD g fb ds e
    | some (.brk e) => some (.next e)
    | some (.ret d) => some (.ret d)
    | some (.retL d) => some (.retL d)
    | none => none
def sFor (fi : FL) (g : PyData → En → Option En) (fb : FS) : FS := fun env => (fi env).bind fun ds => forD g fb ds env
def whileD (p : FT) (fb : FS) : Nat → FS
  | 0, _ => none
  | n + 1, env => match p env with
    | none => none
    | some false => some (.next env)
    | some true => match fb env with
      | some (.next e) => whileD p fb n e
      | some (.cont e) => whileD p fb n e
      | some (.brk e) => some (.next e)
      | some (.ret d) => some (.ret d)
      | some (.retL d) => some (.retL d)
      | none => none
section
variable {X : Cx} {tg iter : Expr} {pos : Pos} {fi : FL} {g : PyData → En → Option En} {fb : FS} {m : Bool} {sl : List Nat} {body : List Stmt}
/-- the item of a turn -/
theorem yd_item {K : PySem.W.Frag} {Z : Hp × Hp} {Hf0 Hf H H' : Hp} {ds : List PyData} {i : Nat} {x : V} {env : En} {σ : L2.St} {d : PyData} (y : YD K Hf0 ds i H x H') (hd : ds[i]? = some d) (R : Rel K Z Hf H env σ) (s : Same Hf0 Hf) :
    ∃ Hf', Stp Hf H Hf' H' ∧ Dp K Hf' x d := by
  obtain ⟨d', h1, h2⟩ := y
  rw [hd] at h1
  cases h1
  rcases h2 with ⟨rfl, hx⟩ | ⟨T, us, dus, rfl, hT, rfl, rfl, hu⟩
  · exact ⟨Hf, .refl R.st.i, Dp_up s hx⟩
  · have st := Stp.new (o := .tup us) R.st.i hT
    exact ⟨_, st, .tup (SqT.of upd_same) (DpAll_up (s.trans st.f) hu)⟩
theorem drop_get {α : Type} {l : List α} {i : Nat} (h : i < l.length) : ∃ d, l[i]? = some d ∧ l.drop i = d :: l.drop (i + 1) := ⟨l[i], List.getElem?_eq_getElem h, List.drop_eq_getElem_cons h⟩
theorem s_for (hp : PassesOwn (model X.prog X.w) X.A X.env X.xe) (hc : X.calm = true) (hi : PI X tg iter (tI X.K fi)) (hg : PG X tg (tG X.K m sl g)) (hb : PSs X body (tS X.K fb))
    (hs : ∀ x, foldedSetIterable iter X.env x = pure x := by intro _; rfl) : PS X (.For tg iter body [] pos) (tS X.K (sFor fi g fb)) := ps_le (ps_for hp hc hi hg hb hs) fun D σ H ⟨Z, Hf, env, o, R, hf, k⟩ => by
  obtain ⟨ds, hds, hf⟩ := Option_bind_some hf
  refine ⟨Z, Hf, env, ds, R, hds, fun J H1 Hf1 s1 w => ?_⟩
  refine for_it w (fun i σ' H' => ∃ (Hf' : Hp) (env' : En), Same Hf1 Hf' ∧ Rel X.K Z Hf' H' env' σ' ∧ forD g fb (ds.drop i) env' = some o) ⟨Hf1, env, Same.refl _, R.step s1, hf⟩ (fun i σ' H' _ ⟨Hf', env', a, R', _⟩ => a.trans R'.st.i) (fun i x σ' H' H2 hi ⟨Hf', env', a, R', q⟩ y => ?_) fun σ' H' ⟨Hf', env', a, R', q⟩ => ?_
  · obtain ⟨d, hd, hdr⟩ := drop_get hi
    rw [hdr] at q
    obtain ⟨e1, hg1, q⟩ := Option_bind_some q
    obtain ⟨Hf2, st2, hx⟩ := yd_item y hd R' a
    refine ⟨Z, Hf2, env', d, e1, R'.step st2, hx, hg1, fun σ3 H3 Hf3 s3 R3 _ _ _ => ?_⟩
    have up : Same Hf1 Hf3 := a.trans (st2.f.trans s3)
    cases hb1 : fb e1 with
    | none =>
      rw [hb1] at q
      cases q
    | some o1 =>
      rw [hb1] at q
      refine ⟨Z, Hf3, e1, o1, R3, hb1, ?_⟩
      cases o1 with
      | next e2 => exact fun σ4 H4 Hf4 s4 R4 => ⟨Hf4, e2, up.trans s4, R4, q⟩
      | cont e2 => exact fun σ4 H4 Hf4 s4 R4 => ⟨Hf4, e2, up.trans s4, R4, q⟩
      | brk e2 =>
        cases q
        exact fun σ4 H4 Hf4 s4 R4 => k σ4 H4 Hf4 (s1.f.trans (up.trans s4)) R4
      | ret d =>
        cases q
        exact k
      | retL d =>
        cases q
        exact k
  · rw [List.drop_of_length_le (Nat.le_refl _)] at q
    cases q
    exact k σ' H' Hf' (s1.f.trans a) R'
theorem s_while (n : Nat) {p : FT} {c : Expr} (hp : PassesOwn (model X.prog X.w) X.A X.env X.xe) (hc : PT X c (tT X.K p)) (hb : PSs X body (tS X.K fb)) : PS X (.While c body [] pos) (tS X.K (whileD p fb n)) := ps_le (ps_while hp hc hb) fun D σ H ⟨Z, Hf, env, o, R, hf, k⟩ => by
  refine ⟨fun m σ' H' => ∃ (Hf' : Hp) (env' : En), Same Hf Hf' ∧ Rel X.K Z Hf' H' env' σ' ∧ whileD p fb m env' = some o, ⟨n, Hf, env, Same.refl _, R, hf⟩, fun m σ' H' ⟨Hf', env', a, R', q⟩ => ?_⟩
  cases m with
  | zero => cases q
  | succ m =>
    unfold whileD at q
    cases hpe : p env' with
    | none =>
      rw [hpe] at q
      cases q
    | some b =>
      rw [hpe] at q
      refine ⟨Z, Hf', env', b, R', hpe, fun H1 Hf1 s1 => ?_⟩
      cases b with
      | false =>
        cases q
        exact iteF (k σ' H1 Hf1 (a.trans s1.f) (R'.step s1))
      | true =>
        refine iteT ⟨fun σ2 H2 => ∃ (Hf' : Hp) (env' : En), Same Hf Hf' ∧ Rel X.K Z Hf' H2 env' σ2 ∧ whileD p fb m env' = some o, fun σ2 H2 h => ⟨m, Nat.lt_succ_self m, h⟩, ?_⟩
        cases hb1 : fb env' with
        | none =>
          simp only [hb1] at q
          cases q
        | some o1 =>
          simp only [hb1] at q
          refine ⟨Z, Hf1, env', o1, R'.step s1, hb1, ?_⟩
          have up : Same Hf Hf1 := a.trans s1.f
          cases o1 with
          | next e2 => exact fun σ4 H4 Hf4 s4 R4 => ⟨Hf4, e2, up.trans s4, R4, q⟩
          | cont e2 => exact fun σ4 H4 Hf4 s4 R4 => ⟨Hf4, e2, up.trans s4, R4, q⟩
          | brk e2 =>
            cases q
            exact fun σ4 H4 Hf4 s4 R4 => k σ4 H4 Hf4 (up.trans s4) R4
          | ret d =>
            cases q
            exact k
          | retL d =>
            cases q
            exact k
end
end Fi

namespace Fi
open PySem L2

def wipeE (env : En) : List Nat → En
  | [] => env
  | v :: vs => (wipeE env vs).set v none
theorem Rel.wipe {K : PySem.W.Frag} {Z : Hp × Hp} {Hf H : Hp} {env : En} {σ : L2.St} (R : Rel K Z Hf H env σ) : ∀ vs : List Nat, Rel K Z Hf H (wipeE env vs) (L2.wipe σ vs)
  | [] => R
  | v :: vs => (Rel.wipe R vs).drop v none
theorem wipe_get (σ : L2.St) : ∀ (vs : List Nat) (i : Nat), (L2.wipe σ vs)[i]? = if i ∈ vs then σ[i]?.map (fun _ => none) else σ[i]?
  | [], i => by simp [L2.wipe]
  | v :: vs, i => by
    unfold L2.wipe
    rw [List.getElem?_set, wipe_length, wipe_get σ vs i]
    by_cases h : v = i
    · subst h
      simp only [if_true, List.mem_cons, true_or]
      by_cases hl : v < σ.length
      · simp [hl]
      · simp [hl, List.getElem?_eq_none (Nat.le_of_not_lt hl)]
    · simp only [h, if_false, List.mem_cons]
      by_cases hm : i ∈ vs
      · simp [hm]
      · have : ¬ (i = v) := fun e => h e.symm
        simp [hm, this]
theorem wipe_same {σ τ : L2.St} {vs : List Nat} (hl : τ.length = σ.length) (h : ∀ i : Nat, i ∉ vs → τ[i]? = σ[i]?) : L2.wipe τ vs = L2.wipe σ vs := by
  apply List.ext_getElem?
  intro i
  rw [wipe_get, wipe_get]
  by_cases hm : i ∈ vs
  · rw [if_pos hm, if_pos hm]
    by_cases hi : i < σ.length
    · rw [List.getElem?_eq_getElem hi, List.getElem?_eq_getElem (by omega)]
      rfl
    · rw [List.getElem?_eq_none (by omega), List.getElem?_eq_none (by omega)]
  · rw [if_neg hm, if_neg hm, h i hm]
theorem wipe_wipe (σ : L2.St) (vs : List Nat) : L2.wipe (L2.wipe σ vs) vs = L2.wipe σ vs := wipe_same (wipe_length σ vs) fun i hi => by rw [wipe_get, if_neg hi]
def lcD (g : PyData → En → Option En) (p : FT) (f : FE) (env : En) : List PyData → Option (List PyData)
  | [] => some []
  | d :: ds => (g d env).bind fun e1 => match p e1 with
    | none => none
    | some true => (f e1).bind fun x => (lcD g p f env ds).bind fun xs => some (x :: xs)
    | some false => lcD g p f env ds
def lLc (fi : FL) (g : PyData → En → Option En) (p : FT) (f : FE) (vs : List Nat) : FL := fun env => (fi env).bind fun ds => if ds.length < 100000 then lcD g p f (wipeE env vs) ds else none
def pYes : FT := fun _ => some true
section
variable {X : Cx}
theorem pts_le {e : List Expr} {t t' : TT} (h : PTs X e t) (hm : ∀ σ H Q, t' σ H Q → t σ H Q) : PTs X e t' := ⟨fun pins s σ H Q I q => h.run pins s σ H Q I (hm σ H Q q)⟩
theorem q_nil : PTs X [] (tT X.K pYes) := pts_le pts_nil fun σ H Q ⟨Z, Hf, env, b, R, hf, k⟩ => by
  cases hf
  exact k H Hf (.refl R.st.i)
theorem q_one {c : Expr} {p : FT} (h : PT X c (tT X.K p)) : PTs X [c] (tT X.K p) := pts_one h
theorem lcD_len {g : PyData → En → Option En} {p : FT} {f : FE} {env : En} : ∀ {ds xs : List PyData}, lcD g p f env ds = some xs → xs.length ≤ ds.length
  | [], xs, h => by cases h; exact Nat.le_refl _
  | d :: ds, xs, h => by
    obtain ⟨e1, _, h⟩ := Option_bind_some h
    cases hp : p e1 with
    | none => rw [hp] at h; cases h
    | some b =>
      rw [hp] at h
      cases b with
      | true =>
        obtain ⟨x, _, h⟩ := Option_bind_some h
        obtain ⟨ys, hy, h⟩ := Option_bind_some h
        cases h
        have := lcD_len hy
        simp only [List.length_cons]
        omega
      | false =>
        have := lcD_len h
        simp only [List.length_cons]
        omega
theorem tLc_of {K : PySem.W.Frag} {fi : FL} {g : PyData → En → Option En} {p : FT} {f : FE} {vs sl : List Nat} (hsl : ∀ i ∈ sl, i ∈ vs) {σ : L2.St} {H : Hp} {Q : VK} (w : tL K (lLc fi g p f vs) σ H Q) : tLc (tI K fi) (tG K false sl g) (tT K p) (tE K f) vs σ H Q := by
  obtain ⟨Z, Hf, env, out, R, hf, k⟩ := w
  obtain ⟨ds, hds, hf⟩ := Option_bind_some hf
  split at hf
  · rename_i hlen
    refine ⟨Z, Hf, env, ds, R, hds, fun J H1 Hf1 s1 w D hD => ?_⟩
    have hD0 : H D = none := s1.h.free hD
    have hDf : Hf1 D = none := s1.i.free hD
    have hid := Stp.hid (o := .lst []) s1.i hD
    refine lc_it w (fun i H' => ∃ (Hf' : Hp) (acc : List V) (da rs : List PyData), Stp Hf1 H1 Hf' H' ∧ Hf' D = none ∧ H' D = some (.lst acc) ∧ DpAll K Hf' acc da ∧ da.length ≤ i ∧ lcD g p f (wipeE env vs) (ds.drop i) = some rs ∧ out = da ++ rs)
      ⟨Hf1, [], [], out, hid, hDf, upd_same, .nil, Nat.le_refl _, hf, rfl⟩ (fun i H' _ ⟨Hf', _, _, _, a, _⟩ => a.f.trans a.i) (fun i x H' H2 hi ⟨Hf', acc, da, rs, st, h1, h2, h3, hl, h4, h5⟩ y => ?_) fun H' ⟨Hf', acc, da, rs, st, h1, h2, h3, hl, h4, h5⟩ => ?_
    · obtain ⟨d, hd, hdr⟩ := drop_get hi
      rw [hdr] at h4
      obtain ⟨e1, hg1, h4⟩ := Option_bind_some h4
      have R1 : Rel K Z Hf' H' (wipeE env vs) (L2.wipe σ vs) := ((R.step s1).wipe vs).step st
      obtain ⟨Hf2, st2, hx⟩ := yd_item y hd R1 st.f
      refine ⟨Z, Hf2, wipeE env vs, d, e1, R1.step st2, hx, hg1, fun σ3 H3 Hf3 s3 R3 pt ln mm => ?_⟩
      obtain ⟨rfl, rfl⟩ := mm rfl
      have hw : L2.wipe σ3 vs = L2.wipe σ vs := by
        rw [← wipe_wipe σ vs]
        exact wipe_same (ln.trans rfl) fun i hi => pt i fun q => hi (hsl i q)
      refine ⟨hw, ?_⟩
      have st3 := st.trans st2
      have h1' : Hf3 D = none := st2.n D _ h2 h1
      have h2' : H3 D = some (.lst acc) := st2.h D _ h2
      cases hp : p e1 with
      | none =>
        rw [hp] at h4
        cases h4
      | some b =>
        rw [hp] at h4
        refine ⟨Z, Hf3, e1, b, R3, hp, fun H4 Hf4 s4 => ?_⟩
        have h1'' : Hf4 D = none := s4.n D _ h2' h1'
        have h2'' : H4 D = some (.lst acc) := s4.h D _ h2'
        cases b with
        | false => exact iteF ⟨Hf4, acc, da, rs, st3.trans s4, h1'', h2'', DpAll_up (st2.f.trans s4.f) h3, by omega, h4, h5⟩
        | true =>
          obtain ⟨x', hx', h4⟩ := Option_bind_some h4
          obtain ⟨ys, hy, h4⟩ := Option_bind_some h4
          cases h4
          refine iteT ⟨Z, Hf4, e1, x', R3.step s4, hx', fun v H5 Hf5 s5 d5 => ?_⟩
          have g1 : Hf5 D = none := s5.n D _ h2'' h1''
          have g2 : H5 D = some (.lst acc) := s5.h D _ h2''
          have st5 := (st3.trans s4).trans s5
          have up : Same Hf' Hf5 := st2.f.trans (s4.f.trans s5.f)
          have ha := DpAll_up up h3
          have hi' : i < ds.length := hi
          refine ⟨acc, g2, Nat.lt_of_lt_of_le (by rw [ha.len]; omega) (by decide : 100000 ≤ sizeLine), Hf5, acc ++ [v], da ++ [x'], ys, ⟨st5.f, fun b o e => ?_, fun b o e => ?_, st5.n⟩, g1, upd_same, ha.app (.cons d5 .nil), by rw [List.length_append, List.length_singleton]; omega, hy, by rw [h5, List.append_assoc]; rfl⟩
          · rw [upd_ne (ne_of_none e g1)]
            exact st5.i b o e
          · rw [upd_ne (ne_of_none e hD)]
            exact st5.h b o e
    · rw [List.drop_of_length_le (Nat.le_refl _)] at h4
      cases h4
      rw [List.append_nil] at h5
      subst h5
      exact k D acc H' Hf' (s1.trans st) hD0 h1 h2 h3
  · cases hf
variable {elt tg iter : Expr} {ifs : List Expr} {scope : Scope} {own : List (Str × Nat)} {pos : Pos} {fi : FL} {g : PyData → En → Option En} {p : FT} {f : FE} {sl vs : List Nat}
theorem l_lc (hc : X.calm = true) (hN : X.N.Nodup) (hi : PI X tg iter (tI X.K fi)) (ok : BlkOk X.N X.env.scope scope own)
    (hg : ∀ (s : Shared) (H : Hp) (C : Addr) (cl : List (Str × Addr)) (fp : List Addr), PG (X.blk s H scope (compEnvC scope cl C X.env) fp) tg (tG X.K false sl g)) (ht : ∀ (s : Shared) (H : Hp) (C : Addr) (cl : List (Str × Addr)) (fp : List Addr), PTs (X.blk s H scope (compEnvC scope cl C X.env) fp) ifs (tT X.K p))
    (he : ∀ (s : Shared) (H : Hp) (C : Addr) (cl : List (Str × Addr)) (fp : List Addr), PE (X.blk s H scope (compEnvC scope cl C X.env) fp) elt (tE X.K f)) (hvs : own.map (·.2) = vs := by rfl) (hsl : ∀ i ∈ sl, i ∈ vs := by decide) (hs : ∀ x, foldedSetIterable iter X.env x = pure x := by intro _; rfl) :
    PE X (.ListComp elt [⟨tg, iter, ifs, 0⟩] scope pos) (tL X.K (lLc fi g p f vs)) := by
  subst hvs
  exact pe_le (pe_lc hc hN hi ok hg ht he hs) fun _ _ _ w => tLc_of hsl w
/-- name = [..], on one line -/
theorem s_setLc (i : Nat) {y : Str} {py spos : Pos} (hc : X.calm = true) (hN : X.N.Nodup) (hsw : swapsWith (.ListComp elt [⟨tg, iter, ifs, 0⟩] scope pos) (some (.Name y py)) spos.line X.env = pure true) (hi : PI X tg iter (tI X.K fi)) (ok : BlkOk X.N X.env.scope scope own)
    (hg : ∀ (s : Shared) (H : Hp) (C : Addr) (cl : List (Str × Addr)) (fp : List Addr), PG (X.blk s H scope (compEnvC scope cl C X.env) fp) tg (tG X.K false sl g)) (ht : ∀ (s : Shared) (H : Hp) (C : Addr) (cl : List (Str × Addr)) (fp : List Addr), PTs (X.blk s H scope (compEnvC scope cl C X.env) fp) ifs (tT X.K p))
    (he : ∀ (s : Shared) (H : Hp) (C : Addr) (cl : List (Str × Addr)) (fp : List Addr), PE (X.blk s H scope (compEnvC scope cl C X.env) fp) elt (tE X.K f)) (hy : X.N[i]? = some y := by rfl) (hyl : X.env.scope.names.lookup y = some .local := by rfl) (hvs : own.map (·.2) = vs := by rfl) (hsl : ∀ i ∈ sl, i ∈ vs := by decide) (hs : ∀ x, foldedSetIterable iter X.env x = pure x := by intro _; rfl) :
    PS X (.Assign [.Name y py] (.ListComp elt [⟨tg, iter, ifs, 0⟩] scope pos) spos) (tS X.K (sOwn i (lLc fi g p f vs))) := by
  subst hvs
  exact ps_le (ps_setLc hc hN hy hyl hsw hi ok hg ht he hs) fun D σ H ⟨Z, Hf, env, o, R, hf, k⟩ => by
    obtain ⟨d, hd, rfl⟩ := Option.map_eq_some_iff.mp hf
    exact tLc_of hsl ⟨Z, Hf, env, d, R, hd, fun p vs H1 Hf1 s1 h0 h1 h2 d1 => k _ H1 Hf1 s1.f (R.setOwn s1 i h0 h1 h2 d1)⟩
end

def RetD (K : PySem.W.Frag) (Hf H : Hp) (Q : VK) : Sl → Prop
  | .val d => ∀ v H' Hf', Stp Hf H Hf' H' → Dp K Hf' v d → Q v H'
  | .own ds => ∀ p vs H' Hf', Stp Hf H Hf' H' → H p = none → Hf' p = none → H' p = some (.lst vs) → DpAll K Hf' vs ds → Q (.ref p) H'
/-- the promise of a def that is a function on data -/
def spD (K : PySem.W.Frag) (n : Nat) (F : List PyData → Option Sl) : Sp := fun vs H Q _ => vs.length = n ∧ ∃ (Hf : Hp) (ds : List PyData) (r : Sl), Same Hf H ∧ DpAll K Hf vs ds ∧ F ds = some r ∧ RetD K Hf H Q r
def entry (n : Nat) (ds : List PyData) : En := ds.map (fun d => some (Sl.val d)) ++ List.replicate (n - ds.length) none
def fnD (n : Nat) (b : FS) : List PyData → Option Sl := fun ds => match b (entry n ds) with
  | some (.ret d) => some (.val d)
  | some (.retL l) => some (.own l)
  | some (.next _) => some (.val .none)
  | _ => none
theorem dpAll_at {K : PySem.W.Frag} {H : Hp} {vs : List V} {ds : List PyData} (h : DpAll K H vs ds) (n : Nat) (i : Nat) (s : Sl) (e : (entry n ds)[i]? = some (some s)) : ∃ v, (vs.map some ++ List.replicate (n - vs.length) none)[i]? = some (some v) ∧ ∃ d, s = .val d ∧ Dp K H v d := by
  unfold entry at e
  by_cases hi : i < ds.length
  · rw [List.getElem?_append_left (by rw [List.length_map]; exact hi), List.getElem?_map, List.getElem?_eq_getElem hi] at e
    have e' : Sl.val ds[i] = s := Option.some.inj (Option.some.inj e)
    obtain ⟨v, h1, h2⟩ := h.at (List.getElem?_eq_getElem hi)
    refine ⟨v, ?_, _, e'.symm, h2⟩
    rw [List.getElem?_append_left (by rw [List.length_map, h.len]; exact hi), List.getElem?_map, h1]
    rfl
  · rw [List.getElem?_append_right (by rw [List.length_map]; omega)] at e
    rw [List.getElem?_replicate] at e
    split at e
    · cases e
    · cases e
theorem body_ok {X : Cx} {b : FS} {sts : List Stmt} {N : List Str} {vs : List V} {H : Hp} {Q : VK} {E : XK} {np n : Nat} (hn : N.length = n) (hb : PSs X sts (tS X.K b)) (h : spD X.K np (fnD n b) vs H Q E) : ∃ t, PSs X sts t ∧ t { nx := fun _ H' => Q .non H', rt := Q } (L2.start N vs) H := by
  refine ⟨_, hb, ?_⟩
  subst hn
  obtain ⟨hl, Hf, ds, r, hi, hd, hF, k⟩ := h
  have R : Rel X.K (Hf, H) Hf H (entry N.length ds) (L2.start N vs) := by
    refine ⟨.refl hi, ?_, fun i s e => ?_, fun i j x y p ei ej _ _ => ?_⟩
    · unfold entry L2.start
      simp only [List.length_append, List.length_map, List.length_replicate, hd.len]
    · obtain ⟨v, h1, d, rfl, h2⟩ := dpAll_at hd N.length i s e
      exact ⟨v, h1, h2⟩
    · obtain ⟨_, _, d, h3, _⟩ := dpAll_at hd N.length i _ ei
      cases h3
  unfold fnD at hF
  cases ho : b (entry N.length ds) with
  | none =>
    rw [ho] at hF
    cases hF
  | some o =>
    rw [ho] at hF
    refine ⟨(Hf, H), Hf, _, o, R, ho, ?_⟩
    cases o with
    | next e =>
      cases hF
      exact fun σ' H' Hf' s1 R' => k .non H' Hf' R'.st .non
    | ret d =>
      cases hF
      exact k
    | retL d =>
      cases hF
      exact k
    | brk e => cases hF
    | cont e => cases hF
def eCallF (F : List PyData → Option Sl) (r : FL) : FE := fun env => (r env).bind fun ds => match F ds with
  | some (.val d) => some d
  | some (.own l) => some (.list l)
  | none => none
def lCallF (F : List PyData → Option Sl) (r : FL) : FL := fun env => (r env).bind fun ds => match F ds with
  | some (.own l) => some l
  | _ => none
section
variable {X : Cx} {k : Nat} {f : Addr} {fd : FuncData} {ps : List Str} {F : List PyData → Option Sl} {n : Nat} {x : Str} {p pos : Pos} {e : Expr} {es : List Expr} {r : FL}
theorem x_call (G : FnOk X.prog X.w X.K X.mg X.base CX0 k f fd ps (spD X.K (es.length + 1) F)) (hr : Room k X.A) (hg : Gl X x) (hm : X.mg x = some (.ref f)) (hk : PySem.W.keepIn X.K (.ref f) = true) (hb : Binds X.K fd ps [])
    (ha : PA X (e :: es) (tA X.K r)) (hln : ∀ env ds, r env = some ds → ds.length = es.length + 1) (hdb : (x == ("__debug__" : Str)) = false := by decide) (he : starEach (e :: es) X.env = (false, eval e X.env) :: starEach es X.env := by rfl) (hpl : (backTo pos (starEach es X.env)).any (·.1) = false := by rfl) :
    PE X (.Call (.Name x p) (e :: es) [] pos) (tE X.K (eCallF F r)) := pe_le (pe_call G hr hg hm hk hb .nil pass0 ha hdb he hpl) fun σ H Q ⟨Z, Hf, env, d, R, hf, kk⟩ => by
  obtain ⟨ds, hds, hf⟩ := Option_bind_some hf
  refine ⟨Z, Hf, env, ds, R, hds, fun vs H1 Hf1 s1 d1 => ?_⟩
  show spD X.K (es.length + 1) F (vs ++ []) H1 Q E0
  rw [List.append_nil]
  refine ⟨by rw [d1.len]; exact hln env ds hds, ?_⟩
  split at hf
  · rename_i z hz
    cases hf
    exact ⟨Hf1, ds, _, s1.i, d1, hz, fun v H2 Hf2 s2 d2 => kk v H2 Hf2 (s1.trans s2) d2⟩
  · rename_i l hz
    cases hf
    exact ⟨Hf1, ds, _, s1.i, d1, hz, fun q vs H2 Hf2 s2 h0 h1 h2 d2 => kk _ _ _ (s1.trans (s2.show h0 h1 h2)) (.lst (SqL.of upd_same) (DpAll_up (same_new h1) d2))⟩
  · cases hf
theorem l_call (G : FnOk X.prog X.w X.K X.mg X.base CX0 k f fd ps (spD X.K (es.length + 1) F)) (hr : Room k X.A) (hg : Gl X x) (hm : X.mg x = some (.ref f)) (hk : PySem.W.keepIn X.K (.ref f) = true) (hb : Binds X.K fd ps [])
    (ha : PA X (e :: es) (tA X.K r)) (hln : ∀ env ds, r env = some ds → ds.length = es.length + 1) (hdb : (x == ("__debug__" : Str)) = false := by decide) (he : starEach (e :: es) X.env = (false, eval e X.env) :: starEach es X.env := by rfl) (hpl : (backTo pos (starEach es X.env)).any (·.1) = false := by rfl) :
    PE X (.Call (.Name x p) (e :: es) [] pos) (tL X.K (lCallF F r)) := pe_le (pe_call G hr hg hm hk hb .nil pass0 ha hdb he hpl) fun σ H Q ⟨Z, Hf, env, d, R, hf, kk⟩ => by
  obtain ⟨ds, hds, hf⟩ := Option_bind_some hf
  refine ⟨Z, Hf, env, ds, R, hds, fun vs H1 Hf1 s1 d1 => ?_⟩
  show spD X.K (es.length + 1) F (vs ++ []) H1 Q E0
  rw [List.append_nil]
  refine ⟨by rw [d1.len]; exact hln env ds hds, ?_⟩
  split at hf
  · rename_i l hz
    cases hf
    exact ⟨Hf1, ds, _, s1.i, d1, hz, fun q vs H2 Hf2 s2 h0 h1 h2 d2 => kk q vs H2 Hf2 (s1.trans s2) (s1.h.free h0) h1 h2 d2⟩
  · cases hf
end
theorem ln_nil : ∀ (env : En) (ds : List PyData), aNil env = some ds → ds.length = 0 := fun _ _ h => by cases h; rfl
theorem ln_cons {f : FE} {r : FL} {n : Nat} (h : ∀ (env : En) (ds : List PyData), r env = some ds → ds.length = n) : ∀ (env : En) (ds : List PyData), aCons f r env = some ds → ds.length = n + 1 := fun env ds e => by
  obtain ⟨x, _, e⟩ := Option_bind_some e
  obtain ⟨xs, hx, e⟩ := Option_bind_some e
  cases e
  rw [List.length_cons, h env xs hx]

def cutD (l : List PyData) (lo hi : Option Int) : List PyData := (l.drop (HT.sIx l.length 0 lo)).take (HT.sIx l.length l.length hi - HT.sIx l.length 0 lo)
theorem cut_dp {K : PySem.W.Frag} {H : Hp} {vs : List V} {ds : List PyData} (h : DpAll K H vs ds) (lo hi : Option Int) : DpAll K H (cutV vs lo hi) (cutD ds lo hi) := by
  unfold cutV cutD
  rw [h.len]
  exact (h.dr _).tk _
def oNone : En → Option (Option Int) := fun _ => some none
def oSome (f : FE) : En → Option (Option Int) := fun env => match f env with
  | some (.int i) => some (some i)
  | _ => none
/-- t[lo:hi] of a tuple -/
def eSlT (f : FE) (lo hi : En → Option (Option Int)) : FE := fun env => (f env).bind fun x => (lo env).bind fun a => (hi env).bind fun b => match x with
  | .tuple l => some (.tuple (cutD l a b))
  | _ => none
def lSl (f : FE) (lo hi : En → Option (Option Int)) : FL := fun env => (f env).bind fun x => (lo env).bind fun a => (hi env).bind fun b => match x with
  | .list l => some (cutD l a b)
  | _ => none
section
variable {X : Cx} {e : Expr} {f g : FE} {lo hi : Option Expr} {fl fh : En → Option (Option Int)} {pos p2 : Pos} {r : FL}
theorem o_none : PO X none (tO X.K oNone) := po_le po_none fun σ H Q ⟨Z, Hf, env, o, R, hf, k⟩ => by
  cases hf
  exact k H Hf (.refl R.st.i)
theorem o_some (he : PE X e (tE X.K f)) : PO X (some e) (tO X.K (oSome f)) := po_le (po_some he) fun σ H Q ⟨Z, Hf, env, o, R, hf, k⟩ => by
  unfold oSome at hf
  split at hf
  · rename_i i h
    cases hf
    exact ⟨Z, Hf, env, _, R, h, fun v H1 Hf1 s1 d1 => ⟨i, d1.int_eq, k H1 Hf1 s1⟩⟩
  · cases hf
theorem x_slT (he : PE X e (tE X.K f)) (hl : PO X lo (tO X.K fl)) (hh : PO X hi (tO X.K fh)) : PE X (.Subscript e (.Slice lo hi none p2) pos) (tE X.K (eSlT f fl fh)) := pe_le (pe_slice sl_tupA he hl hh) fun σ H Q ⟨Z, Hf, env, o, R, hf, k⟩ => by
  obtain ⟨x, hx, hf⟩ := Option_bind_some hf
  obtain ⟨a, ha, hf⟩ := Option_bind_some hf
  obtain ⟨b, hb, hf⟩ := Option_bind_some hf
  cases x with
  | tuple l =>
    cases hf
    refine ⟨Z, Hf, env, _, R, hx, fun v H1 Hf1 s1 d1 => ⟨Z, Hf1, env, a, R.step s1, ha, fun H2 Hf2 s2 => ⟨Z, Hf2, env, b, (R.step s1).step s2, hb, fun H3 Hf3 s3 => ?_⟩⟩⟩
    obtain ⟨q, xs, rfl, hq, hd⟩ := d1.tup_of
    have up : Same Hf1 Hf3 := s2.f.trans s3.f
    have hl := hd.len
    refine ⟨q, xs, rfl, sqT_up (up.trans s3.i) hq, fun w => ?_, fun w p hp => ?_⟩
    · have e : cutD l a b = l := by
        unfold cutD
        rw [← hl, w.1, w.2]
        simp [hl]
      rw [e] at k
      exact k _ _ _ (s1.trans (s2.trans s3)) (Dp_up up (.tup hq hd))
    · have st := Stp.new (o := .tup (cutV xs a b)) s3.i hp
      exact k _ _ _ (s1.trans (s2.trans (s3.trans st))) (.tup (SqT.of upd_same) (cut_dp (DpAll_up (up.trans st.f) hd) a b))
  | _ => cases hf
theorem l_sl (he : PE X e (tE X.K f)) (hl : PO X lo (tO X.K fl)) (hh : PO X hi (tO X.K fh)) : PE X (.Subscript e (.Slice lo hi none p2) pos) (tL X.K (lSl f fl fh)) := pe_le (pe_slice sl_list he hl hh) fun σ H Q ⟨Z, Hf, env, o, R, hf, k⟩ => by
  obtain ⟨x, hx, hf⟩ := Option_bind_some hf
  obtain ⟨a, ha, hf⟩ := Option_bind_some hf
  obtain ⟨b, hb, hf⟩ := Option_bind_some hf
  cases x with
  | list l =>
    cases hf
    refine ⟨Z, Hf, env, _, R, hx, fun v H1 Hf1 s1 d1 => ⟨Z, Hf1, env, a, R.step s1, ha, fun H2 Hf2 s2 => ⟨Z, Hf2, env, b, (R.step s1).step s2, hb, fun H3 Hf3 s3 => ?_⟩⟩⟩
    obtain ⟨q, xs, rfl, hq, hd⟩ := d1.lst_of
    have up : Same Hf1 Hf3 := s2.f.trans s3.f
    refine ⟨q, xs, rfl, (up.trans s3.i).seq hq, fun p hp => ?_⟩
    have s13 := s1.trans (s2.trans s3)
    exact k p _ _ _ (s13.trans (Stp.hid s3.i hp)) (s13.h.free hp) (s3.i.free hp) upd_same (cut_dp (DpAll_up up hd) a b)
  | _ => cases hf
def fLen : List PyData → Option PyData
  | [.list l] => some (.int l.length)
  | [.tuple l] => some (.int l.length)
  | _ => none
def fMin : List PyData → Option PyData
  | [.int a, .int b] => some (.int (min a b))
  | _ => none
def fMax : List PyData → Option PyData
  | [.int a, .int b] => some (.int (max a b))
  | _ => none
def fTuple : List PyData → Option PyData
  | [.list l] => some (.tuple l)
  | [.tuple l] => some (.tuple l)
  | _ => none
def fList : List PyData → Option (List PyData)
  | [.list l] => some l
  | [.tuple l] => some l
  | _ => none
def fIntB : List PyData → Option PyData
  | [.int i] => some (.int i)
  | [.bool b] => some (.int (if b then 1 else 0))
  | _ => none
def getInts : List PyData → Option (List Int)
  | [] => some []
  | .int i :: r => (getInts r).bind fun l => some (i :: l)
  | _ => none
theorem getInts_eq : ∀ {ds : List PyData} {ns : List Int}, getInts ds = some ns → ds = ns.map .int
  | [], ns, h => by cases h; rfl
  | .int i :: r, ns, h => by
    obtain ⟨l, hl, h⟩ := Option_bind_some h
    cases h
    rw [getInts_eq hl]
    rfl
  | .none :: _, _, h => by cases h
  | .bool _ :: _, _, h => by cases h
  | .str _ :: _, _, h => by cases h
  | .list _ :: _, _, h => by cases h
  | .tuple _ :: _, _, h => by cases h
  | .dict _ :: _, _, h => by cases h
theorem getInts_map : ∀ ns : List Int, getInts (ns.map .int) = some ns
  | [] => rfl
  | n :: ns => by
    show (getInts (ns.map .int)).bind _ = _
    rw [getInts_map ns]
    rfl
def getBools : List PyData → Option (List Bool)
  | [] => some []
  | .bool i :: r => (getBools r).bind fun l => some (i :: l)
  | _ => none
theorem getBools_eq : ∀ {ds : List PyData} {ns : List Bool}, getBools ds = some ns → ds = ns.map .bool
  | [], ns, h => by cases h; rfl
  | .bool i :: r, ns, h => by
    obtain ⟨l, hl, h⟩ := Option_bind_some h
    cases h
    rw [getBools_eq hl]
    rfl
  | .none :: _, _, h => by cases h
  | .int _ :: _, _, h => by cases h
  | .str _ :: _, _, h => by cases h
  | .list _ :: _, _, h => by cases h
  | .tuple _ :: _, _, h => by cases h
  | .dict _ :: _, _, h => by cases h
theorem getBools_map : ∀ ns : List Bool, getBools (ns.map .bool) = some ns
  | [] => rfl
  | n :: ns => by
    show (getBools (ns.map .bool)).bind _ = _
    rw [getBools_map ns]
    rfl
def fSum : List PyData → Option PyData
  | [.list l] => (getInts l).bind fun ns => some (.int ns.sum)
  | [.tuple l] => (getInts l).bind fun ns => some (.int ns.sum)
  | _ => none
def fAll : List PyData → Option PyData
  | [.list l] => (getBools l).bind fun ns => some (.bool (ns.all id))
  | _ => none
def fAny : List PyData → Option PyData
  | [.list l] => (getBools l).bind fun ns => some (.bool (ns.any id))
  | _ => none
theorem cd_len : CallD X (.builtin "len") fLen := by
  intro pins s σ H xs us Q I r ⟨Hf, ds, dz, hi, hd, hf, k⟩
  unfold fLen at hf
  split at hf
  · cases hf
    obtain ⟨v, rfl, hv⟩ := hd.one
    obtain ⟨p, ys, rfl, hp, ha⟩ := hv.lst_of
    exact call_len_seq pins s σ H _ us Q I r ⟨p, ys, rfl, .inl (hi.seq hp), by rw [ha.len]; exact k _ _ _ (.refl hi) (.int _)⟩
  · cases hf
    obtain ⟨v, rfl, hv⟩ := hd.one
    obtain ⟨p, ys, rfl, hp, ha⟩ := hv.tup_of
    exact call_len_seq pins s σ H _ us Q I r ⟨p, ys, rfl, .inr (sqT_up hi hp), by rw [ha.len]; exact k _ _ _ (.refl hi) (.int _)⟩
  · cases hf
theorem cd_min (hc : X.calm = true) : CallD X (.builtin "min") fMin := by
  intro pins s σ H xs us Q I r ⟨Hf, ds, dz, hi, hd, hf, k⟩
  unfold fMin at hf
  split at hf
  · rename_i a b
    cases hf
    obtain ⟨v, w, rfl, hv, hw⟩ := hd.two
    cases hv.int_eq
    cases hw.int_eq
    refine call_min2 hc pins s σ H _ us Q I r ⟨a, b, rfl, ?_⟩
    have e : (if b < a then b else a) = min a b := by
      rw [Int.min_def]
      split <;> split <;> omega
    rw [e]
    exact k _ _ _ (.refl hi) (.int _)
  · cases hf
theorem cd_max (hc : X.calm = true) : CallD X (.builtin "max") fMax := by
  intro pins s σ H xs us Q I r ⟨Hf, ds, dz, hi, hd, hf, k⟩
  unfold fMax at hf
  split at hf
  · rename_i a b
    cases hf
    obtain ⟨v, w, rfl, hv, hw⟩ := hd.two
    cases hv.int_eq
    cases hw.int_eq
    refine call_max2 hc pins s σ H _ us Q I r ⟨a, b, rfl, ?_⟩
    have e : (if b > a then b else a) = max a b := by
      rw [Int.max_def]
      split <;> split <;> omega
    rw [e]
    exact k _ _ _ (.refl hi) (.int _)
  · cases hf
theorem cd_tuple : CallD X (.type "tuple") fTuple := by
  intro pins s σ H xs us Q I r ⟨Hf, ds, dz, hi, hd, hf, k⟩
  unfold fTuple at hf
  split at hf
  · cases hf
    obtain ⟨v, rfl, hv⟩ := hd.one
    obtain ⟨p, ys, rfl, hp, ha⟩ := hv.lst_of
    refine call_tuple_of pins s σ H _ us Q I r ⟨p, ys, rfl, .inl ⟨hi.seq hp, fun l hl => ?_⟩⟩
    have st := Stp.new (o := .tup ys) hi hl
    exact k _ _ _ st (.tup (SqT.of upd_same) (DpAll_up st.f ha))
  · cases hf
    obtain ⟨v, rfl, hv⟩ := hd.one
    obtain ⟨p, ys, rfl, hp, ha⟩ := id hv.tup_of
    exact call_tuple_of pins s σ H _ us Q I r ⟨p, ys, rfl, .inr ⟨sqT_up hi hp, k _ _ _ (.refl hi) hv⟩⟩
  · cases hf
theorem cl_list : CallL X (.type "list") fList := by
  intro pins s σ H xs us Q I r ⟨Hf, ds, dz, hi, hd, hf, k⟩
  unfold fList at hf
  split at hf
  · cases hf
    obtain ⟨v, rfl, hv⟩ := hd.one
    obtain ⟨p, ys, rfl, hp, ha⟩ := hv.lst_of
    exact call_list_of pins s σ H _ us Q I r ⟨p, ys, rfl, .inl (hi.seq hp), fun l hl => k l ys _ _ (Stp.hid hi hl) hl (hi.free hl) upd_same ha⟩
  · cases hf
    obtain ⟨v, rfl, hv⟩ := hd.one
    obtain ⟨p, ys, rfl, hp, ha⟩ := hv.tup_of
    exact call_list_of pins s σ H _ us Q I r ⟨p, ys, rfl, .inr (sqT_up hi hp), fun l hl => k l ys _ _ (Stp.hid hi hl) hl (hi.free hl) upd_same ha⟩
  · cases hf
theorem cd_int : CallD X (.type "int") fIntB := by
  intro pins s σ H xs us Q I r ⟨Hf, ds, dz, hi, hd, hf, k⟩
  unfold fIntB at hf
  split at hf
  · cases hf
    obtain ⟨v, rfl, hv⟩ := hd.one
    cases hv.int_eq
    exact call_int1 pins s σ H _ us Q I r (.inl ⟨_, rfl, k _ _ _ (.refl hi) (.int _)⟩)
  · cases hf
    obtain ⟨v, rfl, hv⟩ := hd.one
    cases hv.bl_eq
    exact call_int1 pins s σ H _ us Q I r (.inr ⟨_, rfl, k _ _ _ (.refl hi) (.int _)⟩)
  · cases hf
theorem cd_all (hc : X.calm = true) : CallD X (.builtin "all") fAll := by
  intro pins s σ H xs us Q I r ⟨Hf, ds, dz, hi, hd, hf, k⟩
  unfold fAll at hf
  split at hf
  · obtain ⟨ns, hns, hf⟩ := Option_bind_some hf
    cases hf
    obtain ⟨v, rfl, hv⟩ := hd.one
    obtain ⟨p, ys, rfl, hp, ha⟩ := hv.lst_of
    rw [getBools_eq hns] at ha
    rw [ha.bools] at hp
    exact cr_all hc pins s σ H _ us Q I r ⟨p, ns, rfl, hi.seq hp, k _ _ _ (.refl hi) (.bl _)⟩
  · cases hf
theorem cd_any (hc : X.calm = true) : CallD X (.builtin "any") fAny := by
  intro pins s σ H xs us Q I r ⟨Hf, ds, dz, hi, hd, hf, k⟩
  unfold fAny at hf
  split at hf
  · obtain ⟨ns, hns, hf⟩ := Option_bind_some hf
    cases hf
    obtain ⟨v, rfl, hv⟩ := hd.one
    obtain ⟨p, ys, rfl, hp, ha⟩ := hv.lst_of
    rw [getBools_eq hns] at ha
    rw [ha.bools] at hp
    exact cr_any hc pins s σ H _ us Q I r ⟨p, ns, rfl, hi.seq hp, k _ _ _ (.refl hi) (.bl _)⟩
  · cases hf
end
end Fi

namespace Fi
open PySem PySem.Spec PyProof.Rows L2

inductive Kd where | l | t
def SqK (K : PySem.W.Frag) : Kd → Hp → Addr → List V → Prop
  | .l, H, a, xs => SqL K H a xs
  | .t, H, a, xs => SqT K H a xs
def ItK : Kd → Heap → Addr → Addr → Nat → Prop
  | .l, h, it, a, i => h.IsListIter it a i
  | .t, h, it, a, i => h.IsTupleIter it a i
def HasK : Kd → Heap → Addr → Array Value → Prop
  | .l, h, a, x => h.IsList a x
  | .t, h, a, x => h.IsTuple a x
def objK : Kd → Addr → Obj
  | .l, a => { cls := .type "list_iterator", data := .fields #[.ref a, .int 0 0] }
  | .t, a => { cls := .type "tuple_iterator", data := .fields #[.ref a, .int 0 0] }
theorem sqK_up {K : PySem.W.Frag} {k : Kd} {H H' : Hp} {a : Addr} {xs : List V} (e : Same H H') (h : SqK K k H a xs) : SqK K k H' a xs := by
  cases k
  · exact e.seq h
  · exact sqT_up e h
theorem drawsK (k : Kd) {prog : Program} {w : World} {A : Around} (hh : A.handled = none) (it a : Addr) (hne : a ≠ it) (items : Array Value) :
    Draws prog w A it [it, a] items.size (fun i v => items[i]? = some v) (fun i h => ItK k h it a i ∧ HasK k h a items) := by
  cases k
  · exact Draws.list hh it a hne items
  · exact Draws.tuple hh it a hne items
theorem beginsK (k : Kd) (a : Addr) (items : Array Value) : Begins (.ref a) (objK k a) fun h => HasK k h a items := by
  cases k
  · exact begins_list a items
  · exact begins_tuple a items
theorem itK_0 {k : Kd} {h : Heap} {it a : Addr} (e : h.get? it = some (objK k a)) : ItK k h it a 0 := by
  cases k
  · exact ⟨_, e, rfl, rfl⟩
  · exact ⟨_, e, rfl, rfl⟩
theorem itK_obj {k : Kd} {h : Heap} {it a : Addr} {i : Nat} (e : ItK k h it a i) : ∃ o, h.get? it = some o ∧ ∀ v, o.data ≠ .cell v := by
  cases k
  · obtain ⟨o, ho, _, hd⟩ := e
    exact ⟨o, ho, fun v q => by rw [hd] at q; cases q⟩
  · obtain ⟨o, ho, _, hd⟩ := e
    exact ⟨o, ho, fun v q => by rw [hd] at q; cases q⟩
theorem itK_at {k : Kd} {h h' : Heap} {it a : Addr} {i : Nat} (e : ItK k h it a i) (k' : ∀ o, h.get? it = some o → h'.get? it = some o) : ItK k h' it a i := by
  cases k
  · exact Heap.IsListIter.at e k'
  · exact Heap.IsTupleIter.at e k'
theorem hasK_of {X : Cx} {pins : List (Addr × Obj)} {σ : L2.St} {H : Hp} {s : Shared} {k : Kd} {a : Addr} {xs : List V} (I : Inv X pins σ H s) (h : SqK X.K k H a xs) : ∃ its : List Value, Vals xs its ∧ HasK k s.heap a its.toArray := by
  cases k
  · obtain ⟨its, r, p, _⟩ := I.list h
    exact ⟨its, r, p.isList⟩
  · obtain ⟨its, r, p, _⟩ := I.tuple h
    exact ⟨its, r, p⟩
theorem sqK_inj {X : Cx} {pins : List (Addr × Obj)} {σ : L2.St} {H : Hp} {s : Shared} {k : Kd} {a : Addr} {xs ys : List V} (I : Inv X pins σ H s) (h : SqK X.K k H a xs) (h' : SqK X.K k H a ys) : xs = ys := by
  cases k
  · exact I.list_inj h h'
  · exact I.tuple_inj h h'
theorem hasK_lt {k : Kd} {h : Heap} {a : Addr} {x : Array Value} (e : HasK k h a x) : a < h.objs.size := by
  cases k
  · obtain ⟨_, q, _⟩ := e
    exact Heap.lt_size q
  · obtain ⟨_, q, _⟩ := e
    exact Heap.lt_size q
def ItzK (K : PySem.W.Frag) (k1 k2 : Kd) (a b : Addr) : It :=
  ⟨fun i H => ∃ (xs ys : List V) (x y : V), SqK K k1 H a xs ∧ SqK K k2 H b ys ∧ xs[i]? = some x ∧ ys[i]? = some y,
    fun i H v H' => ∃ T x y, v = .ref T ∧ H T = none ∧ H' = upd H T (.tup [x, y]) ∧ (∀ xs, SqK K k1 H a xs → xs[i]? = some x) ∧ ∀ ys, SqK K k2 H b ys → ys[i]? = some y,
    fun i H => ∃ xs ys : List V, SqK K k1 H a xs ∧ SqK K k2 H b ys ∧ i ≤ xs.length ∧ i ≤ ys.length ∧ (i = xs.length ∨ i = ys.length)⟩
theorem turn_zipK {P : Program} {w : World} {K : PySem.W.Frag} {elts : List Expr} {kk : Nat} {tpos : Pos} {k1 k2 : Kd} {a b z TI TO i1 i2 : Addr} (D : ZipSep2 z TI TO i1 i2 [i1, a] [i2, b]) :
    Turn P w K (.Tuple elts kk tpos) (ItzK K k1 k2 a b) [z, TI, TO, i1, i2] z (fun i h => IsZip h z TI TO .none ∧ IsTupOf2 h TI (.ref i1) (.ref i2) ∧ (∃ x y, IsTupOf2 h TO x y) ∧ ItK k1 h i1 a i ∧ ItK k2 h i2 b i) where
  mem := by simp
  obj := fun i h st c hc => by
    obtain ⟨hz, hTI, ⟨x, y, hTO⟩, h1, h2⟩ := st
    have e' : c = z ∨ c = TI ∨ c = TO ∨ c = i1 ∨ c = i2 := by simpa using hc
    rcases e' with q | q | q | q | q
    · rw [q]; exact ⟨_, hz, fun v q => nomatch q⟩
    · rw [q]; exact ⟨_, hTI, fun v q => nomatch q⟩
    · rw [q]; exact ⟨_, hTO, fun v q => nomatch q⟩
    · rw [q]; exact itK_obj h1
    · rw [q]; exact itK_obj h2
  keep := fun i h h' st k => by
    obtain ⟨hz, hTI, ⟨x, y, hTO⟩, h1, h2⟩ := st
    exact ⟨k z (by simp) _ hz, k TI (by simp) _ hTI, ⟨x, y, k TO (by simp) _ hTO⟩, itK_at h1 fun o q => k i1 (by simp) o q, itK_at h2 fun o q => k i2 (by simp) o q⟩
  item := by
    intro X hP hw hK hc i pins s σ H E I hf st hg
    subst hP hw hK
    obtain ⟨hz, hTI, ⟨x0, y0, hTO⟩, h1, h2⟩ := st
    obtain ⟨xs, ys, x, y, hqx, hqy, hx, hy⟩ := hg
    obtain ⟨its, rv, p⟩ := hasK_of I hqx
    obtain ⟨its2, rv2, p2⟩ := hasK_of I hqy
    obtain ⟨u, hu, ru⟩ := rv.get hx
    obtain ⟨u2, hu2, ru2⟩ := rv2.get hy
    have hzl : z < s.heap.objs.size := Heap.lt_size hz
    have nai : a ≠ i1 := fun q => by
      have := D.mem1
      obtain ⟨o, ho, _⟩ := itK_obj h1
      have hlt := hasK_lt p
      subst q
      cases k1 with
      | l =>
        obtain ⟨o1, e1, c1, _⟩ := h1
        obtain ⟨o2, e2, c2, _⟩ := p
        rw [e1] at e2
        cases e2
        rw [c1] at c2
        exact absurd c2 (by decide)
      | t =>
        obtain ⟨o1, e1, c1, _⟩ := h1
        obtain ⟨o2, e2, c2, _⟩ := p
        rw [e1] at e2
        cases e2
        rw [c1] at c2
        exact absurd c2 (by decide)
    have nbi : b ≠ i2 := fun q => by
      subst q
      cases k2 with
      | l =>
        obtain ⟨o1, e1, c1, _⟩ := h2
        obtain ⟨o2, e2, c2, _⟩ := p2
        rw [e1] at e2
        cases e2
        rw [c1] at c2
        exact absurd c2 (by decide)
      | t =>
        obtain ⟨o1, e1, c1, _⟩ := h2
        obtain ⟨o2, e2, c2, _⟩ := p2
        rw [e1] at e2
        cases e2
        rw [c1] at c2
        exact absurd c2 (by decide)
    have lx : i < its.toArray.size := by
      rw [List.size_toArray]
      exact (List.getElem?_eq_some_iff.mp hu).1
    have ly : i < its2.toArray.size := by
      rw [List.size_toArray]
      exact (List.getElem?_eq_some_iff.mp hu2).1
    refine wpAny_pyNext_zipD2_item D (drawsK k1 (A := X.A.in1) (I.ok.hd hc) i1 a nai its.toArray) (drawsK k2 (A := X.A.in1) (I.ok.hd hc) i2 b nbi its2.toArray) hz hTI hTO ⟨h1, p⟩ ⟨h2, p2⟩ lx ly fun x1 x2 h' tk hx1 hx2 z' TO' h1' h2' hT hsz hk => ?_
    have ex1 : x1 = u := Option.some.inj (hx1.symm.trans (by simpa using hu))
    have ex2 : x2 = u2 := Option.some.inj (hx2.symm.trans (by simpa using hu2))
    subst ex1 ex2
    refine ⟨_, rfl, wpAny_letOwnedTupleGo_zip (s := { s with heap := h', toks := tk }) z' fun h'' z'' sb => ?_⟩
    have hT2 : h''.get? s.heap.objs.size = some { cls := .type "tuple", data := .seq #[x1, x2] } := (sb.2 _ (Nat.ne_of_gt hzl)).trans hT
    have new : ObjOk X.prog X.w (upd H s.heap.objs.size (.tup [x, y])) h'' s.heap.objs.size (.tup [x, y]) :=
      ⟨by show 2 ≤ sizeLine; decide, [x1, x2], .cons ru (.cons ru2 .nil), ⟨_, hT2, rfl, _, rfl⟩⟩
    have I1 : Inv X pins σ (upd H s.heap.objs.size (.tup [x, y])) { s with heap := h'', toks := tk } :=
      I.turnedNew (t' := tk) (ch := [z, TI, TO, i1, i2]) (fun c o hb q => (sb.2 c (fun q' => hb (by simp [q']))).trans (hk c o (fun q' => hb (by simp [q'])) (fun q' => hb (by simp [q'])) (fun q' => hb (by simp [q'])) (fun q' => hb (by simp [q'])) q)) hf (Nat.le_refl _) new
    refine ⟨.ref s.heap.objs.size, _, I1, rfl, ⟨_, x, y, rfl, I.hok.fresh (Nat.le_refl _), rfl, fun l hl => by rw [sqK_inj I hl hqx]; exact hx, fun l hl => by rw [sqK_inj I hl hqy]; exact hy⟩, ⟨z'', ?_, ⟨x1, x2, ?_⟩, ?_, ?_⟩, fun c hcm => ?_⟩
    · exact (sb.2 _ D.TIz).trans (hk _ _ D.TIz D.TITO D.TIi1 D.TIi2 hTI)
    · exact (sb.2 _ D.TOz).trans TO'
    · exact itK_at h1'.1 fun o q => (sb.2 _ (Ne.symm D.zi1)).trans q
    · exact itK_at h2'.1 fun o q => (sb.2 _ (Ne.symm D.zi2)).trans q
    · have hlt : c < s.heap.objs.size := by
        have e' : c = z ∨ c = TI ∨ c = TO ∨ c = i1 ∨ c = i2 := by simpa using hcm
        rcases e' with q | q | q | q | q
        · rw [q]; exact hzl
        · rw [q]; exact Heap.lt_size hTI
        · rw [q]; exact Heap.lt_size hTO
        · rw [q]; obtain ⟨_, e1, _⟩ := itK_obj h1; exact Heap.lt_size e1
        · rw [q]; obtain ⟨_, e2, _⟩ := itK_obj h2; exact Heap.lt_size e2
      rw [upd_ne (Nat.ne_of_lt hlt)]
      exact (hf c hcm).1
  done := by
    intro X hP hw hK hc i pins s σ H E I hf st hg
    subst hP hw hK
    obtain ⟨hz, hTI, ⟨x0, y0, hTO⟩, h1, h2⟩ := st
    obtain ⟨xs, ys, hqx, hqy, hix, hiy, hend⟩ := hg
    obtain ⟨its, rv, p⟩ := hasK_of I hqx
    obtain ⟨its2, rv2, p2⟩ := hasK_of I hqy
    have l1 := rv.length
    have l2 := rv2.length
    have nai : a ≠ i1 := fun q => by
      subst q
      cases k1 with
      | l =>
        obtain ⟨o1, e1, c1, _⟩ := h1
        obtain ⟨o2, e2, c2, _⟩ := p
        rw [e1] at e2
        cases e2
        rw [c1] at c2
        exact absurd c2 (by decide)
      | t =>
        obtain ⟨o1, e1, c1, _⟩ := h1
        obtain ⟨o2, e2, c2, _⟩ := p
        rw [e1] at e2
        cases e2
        rw [c1] at c2
        exact absurd c2 (by decide)
    have nbi : b ≠ i2 := fun q => by
      subst q
      cases k2 with
      | l =>
        obtain ⟨o1, e1, c1, _⟩ := h2
        obtain ⟨o2, e2, c2, _⟩ := p2
        rw [e1] at e2
        cases e2
        rw [c1] at c2
        exact absurd c2 (by decide)
      | t =>
        obtain ⟨o1, e1, c1, _⟩ := h2
        obtain ⟨o2, e2, c2, _⟩ := p2
        rw [e1] at e2
        cases e2
        rw [c1] at c2
        exact absurd c2 (by decide)
    refine wpAny_pyNext_zipD2_end D (drawsK k1 (A := X.A.in1) (I.ok.hd hc) i1 a nai its.toArray) (drawsK k2 (A := X.A.in1) (I.ok.hd hc) i2 b nbi its2.toArray) hz hTI hTO ⟨h1, p⟩ ⟨h2, p2⟩ (by rw [List.size_toArray]; omega) (by rw [List.size_toArray]; omega) (by rw [List.size_toArray, List.size_toArray]; omega) fun h' tk hk => ⟨rfl, I.turnedL (t' := tk) (ch := [z, TI, TO, i1, i2]) (fun c o hb q =>
      hk c o (fun q' => hb (by simp [q'])) (fun q' => hb (by simp [q'])) (fun q' => hb (by simp [q'])) (fun q' => hb (by simp [q'])) q) hf⟩
  self := fun A i s Q E st h => wpAny_pyIter_zip st.1 h
def iZipK (K : PySem.W.Frag) (k1 k2 : Kd) (ta : TA) : TI := fun σ H R => ta σ H fun vs H1 => ∃ a b xs ys, vs = [.ref a, .ref b] ∧ SqK K k1 H1 a xs ∧ SqK K k2 H1 b ys ∧ R (ItzK K k1 k2 a b) H1
theorem pi_zipK (k1 k2 : Kd) {X : Cx} {e e2 : Expr} {ta : TA} {p pos tpos : Pos} {elts : List Expr} {kk : Nat} (hg : Gl X "zip") (hm : X.mg "zip" = none) (ha : PA X [e, e2] ta)
    (hs : starEach [e, e2] X.env = (false, eval e X.env) :: starEach [e2] X.env := by rfl) (hpl : (backTo pos (starEach [e2] X.env)).any (·.1) = false := by rfl) :
    PI X (.Tuple elts kk tpos) (.Call (.Name "zip" p) [e, e2] [] pos) (iZipK X.K k1 k2 ta) := by
  refine ⟨fun pins s σ H R I h => ?_⟩
  refine Call_ (ld_blt I hg hm PyProof.Rows.boot_zip (PyProof.Rows.callWith_type1 (thn (ha.run pos pins s σ H _ I h) fun us s1 ⟨vs, H1, I1, r1, q1⟩ => ?_) hs hpl))
  obtain ⟨a, b, xs, ys, ex, hqx, hqy, q⟩ := q1
  subst ex
  cases r1 with
  | cons r rr =>
    cases rr with
    | cons r' rr =>
      cases rr
      cases r
      cases r'
      have fresh5 : ∀ c, c ∈ [s1.heap.objs.size + 4, s1.heap.objs.size + 2, s1.heap.objs.size + 3, s1.heap.objs.size, s1.heap.objs.size + 1] → FpOk X pins H1 c := fun c hcm => by
        have e' : c = s1.heap.objs.size + 4 ∨ c = s1.heap.objs.size + 2 ∨ c = s1.heap.objs.size + 3 ∨ c = s1.heap.objs.size ∨ c = s1.heap.objs.size + 1 := by simpa using hcm
        have hle : s1.heap.objs.size ≤ c := by
          rcases e' with z | z | z | z | z
          · rw [z]; exact Nat.le_add_right _ _
          · rw [z]; exact Nat.le_add_right _ _
          · rw [z]; exact Nat.le_add_right _ _
          · rw [z]; exact Nat.le_refl _
          · rw [z]; exact Nat.le_add_right _ _
        exact I1.fpOk hle (I1.hok.fresh hle)
      obtain ⟨its, rv, p1⟩ := hasK_of I1 hqx
      obtain ⟨its2, rv2, p2⟩ := hasK_of I1 hqy
      refine zip_begins2 (beginsK k1 a its.toArray) (beginsK k2 b its2.toArray) p1 p2 fun h' hz hTI hTO h1 h2 hsz hk => wpAny_pyIter_zip hz ?_
      have I2 : Inv X pins σ H1 { s1 with heap := h' } := I1.kept (t' := s1.toks) hk
      have hsep := zip_sep2 (N := s1.heap.objs.size) (fp1 := [a]) (fp2 := [b]) (fun c hc => by rw [List.mem_singleton.mp hc]; exact hasK_lt p1) (fun c hc => by rw [List.mem_singleton.mp hc]; exact hasK_lt p2)
      exact ⟨s1.heap.objs.size + 4, [s1.heap.objs.size + 4, s1.heap.objs.size + 2, s1.heap.objs.size + 3, s1.heap.objs.size, s1.heap.objs.size + 1], _, _, H1, rfl, I2, turn_zipK hsep, ⟨hz, hTI, ⟨_, _, hTO⟩, itK_0 h1, itK_0 h2⟩, fresh5, q⟩
theorem walk_zipK {K : PySem.W.Frag} {k1 k2 : Kd} {a b : Addr} {xs ys : List V} {n : Nat} (hn : n = min xs.length ys.length) : Walk (ItzK K k1 k2 a b) n (fun H => SqK K k1 H a xs ∧ SqK K k2 H b ys) (YPair (fun i => xs[i]?) (fun i => ys[i]?)) := by
  subst hn
  refine ⟨fun i _ hi q => ?_, fun _ q => ⟨xs, ys, q.1, q.2, by omega, by omega, by omega⟩, fun i H v H' _ q y => ?_⟩
  · have h1 : i < xs.length := by omega
    have h2 : i < ys.length := by omega
    exact ⟨xs, ys, xs[i], ys[i], q.1, q.2, by simp [h1], by simp [h2]⟩
  · obtain ⟨T, x, z, h1, h2, h3, h4, h5⟩ := y
    exact ⟨T, x, z, h1, h2, h3, h4 xs q.1, h5 ys q.2⟩
/-- the items of a list or tuple -/
def itemsK : Kd → PyData → Option (List PyData)
  | .l, .list l => some l
  | .t, .tuple l => some l
  | _, _ => none
theorem dp_itemsK {K : PySem.W.Frag} {H : Hp} {v : V} {d : PyData} {k : Kd} {l : List PyData} (h : Dp K H v d) (e : itemsK k d = some l) : ∃ a xs, v = .ref a ∧ SqK K k H a xs ∧ DpAll K H xs l := by
  unfold itemsK at e
  split at e
  · cases e
    exact h.lst_of
  · cases e
    exact h.tup_of
  · cases e
def pairs : List PyData → List PyData → List PyData := fun xs ys => List.zipWith (fun x y => .tuple [x, y]) xs ys
def iZ (k1 k2 : Kd) (r : FL) : FL := fun env => match r env with
  | some [x, y] => (itemsK k1 x).bind fun xs => (itemsK k2 y).bind fun ys => some (pairs xs ys)
  | _ => none
theorem i_zip (k1 k2 : Kd) {X : Cx} {e e2 : Expr} {r : FL} {p pos tpos : Pos} {elts : List Expr} {kk : Nat} (hg : Gl X "zip") (hm : X.mg "zip" = none) (ha : PA X [e, e2] (tA X.K r))
    (hs : starEach [e, e2] X.env = (false, eval e X.env) :: starEach [e2] X.env := by rfl) (hpl : (backTo pos (starEach [e2] X.env)).any (·.1) = false := by rfl) :
    PI X (.Tuple elts kk tpos) (.Call (.Name "zip" p) [e, e2] [] pos) (tI X.K (iZ k1 k2 r)) := pi_le (pi_zipK k1 k2 hg hm ha hs hpl) fun σ H R ⟨Z, Hf, env, ds, Rl, hf, k⟩ => by
  unfold iZ at hf
  split at hf
  · rename_i x y hr
    obtain ⟨xs, hx, hf⟩ := Option_bind_some hf
    obtain ⟨ys, hy, hf⟩ := Option_bind_some hf
    cases hf
    refine ⟨Z, Hf, env, _, Rl, hr, fun vs H1 Hf1 s1 d1 => ?_⟩
    obtain ⟨v, w, rfl, hv, hw⟩ := d1.two
    obtain ⟨a, us, rfl, ha, hda⟩ := dp_itemsK hv hx
    obtain ⟨b, ws, rfl, hb, hdb⟩ := dp_itemsK hw hy
    refine ⟨a, b, us, ws, rfl, sqK_up s1.i ha, sqK_up s1.i hb, k _ H1 Hf1 s1 ?_⟩
    have hl : (pairs xs ys).length = min us.length ws.length := by
      unfold pairs
      rw [List.length_zipWith, hda.len, hdb.len]
    have w := walk_zipK (K := X.K) (k1 := k1) (k2 := k2) (a := a) (b := b) (xs := us) (ys := ws) hl
    refine w.mono (fun H h => ⟨sqK_up h ha, sqK_up h hb⟩) fun i H v H' hi _ y => ?_
    obtain ⟨T, x, z, h1, h2, h3, h4, h5⟩ := y
    obtain ⟨dx, e1, q1⟩ := hda.get h4
    obtain ⟨dy, e2, q2⟩ := hdb.get h5
    refine ⟨.tuple [dx, dy], ?_, .inr ⟨T, [x, z], [dx, dy], h1, h2, h3, rfl, .cons q1 (.cons q2 .nil)⟩⟩
    unfold pairs
    rw [List.getElem?_zipWith, e1, e2]
  · cases hf

theorem meets_enum1 {v : Value} {o : Obj} {H : Heap → Prop} (B : Begins v o H) :
    Meets (Builtin.«enumerate.__new__» ⟨[.type "enumerate", v], []⟩) (fun _ R s => H s.heap ∧
      R (.ok (.ret (.ref (s.heap.push o).objs.size))) { s with heap := (s.heap.push o).push { cls := .type "enumerate", data := .fields #[.none, .bool false, .ref s.heap.objs.size, rawInt 0, .none, .none] } }) :=
  .of_wp fun prog w A R s h => by
    obtain ⟨hp, g, d, tk, os⟩ := s; obtain ⟨h1, h⟩ := h
    have hsub := sub_enumerate
    have q1 : ∀ {A' : Around} {E : Value → Shared → Prop} {Q : Value → Shared → Prop}, Q (.ref hp.objs.size) ⟨hp.push o, g, d, tk, os⟩ → wpAny (model prog w) A' (pyIter v) Q E ⟨hp, g, d, tk, os⟩ :=
      fun q => B.iter prog w _ _ ⟨hp, g, d, tk, os⟩ _ h1 q
    wp_walk using q1
    refine wpAny_stack_any fun st => wpAny_pure ?_
    split
    · rename_i c _ _ _ _ _
      cases (c == Value.type "enumerate")
      · wp_walk using q1
        exact ⟨_, rfl, h⟩
      · wp_walk using q1
        exact ⟨_, rfl, h⟩
    · wp_walk using q1
      exact ⟨_, rfl, h⟩
theorem enum1_begins {prog : Program} {w : World} {A : Around} {E : Value → Shared → Prop} {s : Shared} {v : Value} {o : Obj} {H : Heap → Prop} {Q : Value → Shared → Prop} (B : Begins v o H) (h1 : H s.heap)
    (h : ∀ h', IsEnum h' (s.heap.objs.size + 1) s.heap.objs.size 0 .none → h'.get? s.heap.objs.size = some o → h'.objs.size = s.heap.objs.size + 2 →
      (∀ b o, s.heap.get? b = some o → h'.get? b = some o) → Q (.ref (s.heap.objs.size + 1)) { s with heap := h' }) :
    wpAny (model prog w) A (call (.type "enumerate") [v]) Q E s := by
  refine callType_new F.called_enumerate (by decide) (F.typeCall_enumerate_1 _) (F.newCall_enumerate_1 _) (fun obj => F.args_object_init_2 obj _) F.entry_enumerate_new
    (meets_enum1 B) ⟨h1, ?_⟩
  have hz : (s.heap.push o).objs.size = s.heap.objs.size + 1 := Heap.size_push ..
  show _ ∧ _
  rw [hz]
  have he : IsEnum ((s.heap.push o).push { cls := .type "enumerate", data := .fields #[.none, .bool false, .ref s.heap.objs.size, rawInt 0, .none, .none] }) (s.heap.objs.size + 1) s.heap.objs.size 0 .none := by
    have := Heap.get?_push_size (s.heap.push o) (o := { cls := .type "enumerate", data := .fields #[.none, .bool false, .ref s.heap.objs.size, rawInt 0, .none, .none] }) rfl
    rw [hz] at this; exact this
  refine ⟨⟨_, he, rfl⟩, h _ he (Heap.get?_push_of_some _ (Heap.get?_push_size _ B.free)) (by rw [Heap.size_push, hz]) fun b o x => Heap.get?_push_of_some _ (Heap.get?_push_of_some _ x)⟩
def IteK (K : PySem.W.Frag) (k : Kd) (a : Addr) : It :=
  ⟨fun i H => ∃ (xs : List V) (x : V), SqK K k H a xs ∧ xs[i]? = some x, fun i H v H' => ∃ T x, v = .ref T ∧ H T = none ∧ H' = upd H T (.tup [.int (i : Nat), x]) ∧ ∀ xs, SqK K k H a xs → xs[i]? = some x, fun i H => ∃ xs : List V, SqK K k H a xs ∧ i = xs.length⟩
theorem turn_enumK {P : Program} {w : World} {K : PySem.W.Frag} {elts : List Expr} {kk : Nat} {tpos : Pos} {k : Kd} (a e it : Addr) :
    Turn P w K (.Tuple elts kk tpos) (IteK K k a) [e, it] e (fun i h => (∃ old, IsEnum h e it ((i : Nat) : Int) old) ∧ ItK k h it a i ∧ e ≠ it) where
  mem := by simp
  obj := fun i h st b hb => by
    obtain ⟨⟨old, he⟩, hi, _⟩ := st
    have e' : b = e ∨ b = it := by simpa using hb
    rcases e' with z | z
    · rw [z]; exact ⟨_, he, fun v q => nomatch q⟩
    · rw [z]; exact itK_obj hi
  keep := fun i h h' st k => let ⟨⟨old, he⟩, hi, hne⟩ := st; ⟨⟨old, k e (by simp) _ he⟩, itK_at hi fun o q => k it (by simp) o q, hne⟩
  item := by
    intro X hP hw hK hc i pins s σ H E I hf st hg
    subst hP hw hK
    obtain ⟨⟨old, he⟩, hit, hne⟩ := st
    obtain ⟨xs, x, hq, hx⟩ := hg
    obtain ⟨its, rv, p⟩ := hasK_of I hq
    obtain ⟨u, hu, ru⟩ := rv.get hx
    have hel : e < s.heap.objs.size := Heap.lt_size he
    have hil : it < s.heap.objs.size := by obtain ⟨_, q, _⟩ := itK_obj hit; exact Heap.lt_size q
    have nai : a ≠ it := fun q => by
      subst q
      cases k with
      | l =>
        obtain ⟨o1, e1, c1, _⟩ := hit
        obtain ⟨o2, e2, c2, _⟩ := p
        rw [e1] at e2
        cases e2
        rw [c1] at c2
        exact absurd c2 (by decide)
      | t =>
        obtain ⟨o1, e1, c1, _⟩ := hit
        obtain ⟨o2, e2, c2, _⟩ := p
        rw [e1] at e2
        cases e2
        rw [c1] at c2
        exact absurd c2 (by decide)
    have nae : a ≠ e := fun q => by
      subst q
      cases k with
      | l =>
        obtain ⟨o2, e2, c2, _⟩ := p
        rw [he] at e2
        cases e2
        have c3 : Value.type "enumerate" = _ := c2
        exact absurd c3 (by decide)
      | t =>
        obtain ⟨o2, e2, c2, _⟩ := p
        rw [he] at e2
        cases e2
        have c3 : Value.type "enumerate" = _ := c2
        exact absurd c3 (by decide)
    have lx : i < its.toArray.size := by
      rw [List.size_toArray]
      exact (List.getElem?_eq_some_iff.mp hu).1
    refine wpAny_pyNext_enum_itemD (drawsK k (A := X.A.in1) (I.ok.hd hc) it a nai its.toArray) he ⟨hit, p⟩ lx hne (by simp [hne, Ne.symm nae]) fun x1 h' tk hx1 ho hit' hT hsz hk => ?_
    have ex1 : x1 = u := Option.some.inj (hx1.symm.trans (by simpa using hu))
    subst ex1
    refine ⟨_, rfl, wpAny_letOwnedTupleGo_enum (s := { s with heap := h', toks := tk + 1 }) ho fun h'' he' sb => ?_⟩
    have hT2 : h''.get? s.heap.objs.size = some { cls := .type "tuple", data := .seq #[.int i tk, x1] } := (sb.2 _ (Nat.ne_of_gt hel)).trans hT
    have new : ObjOk X.prog X.w (upd H s.heap.objs.size (.tup [.int (i : Nat), x])) h'' s.heap.objs.size (.tup [.int (i : Nat), x]) :=
      ⟨by show 2 ≤ sizeLine; decide, [.int i tk, x1], .cons ⟨_, rfl⟩ (.cons ru .nil), ⟨_, hT2, rfl, _, rfl⟩⟩
    have I1 : Inv X pins σ (upd H s.heap.objs.size (.tup [.int (i : Nat), x])) { s with heap := h'', toks := tk + 1 } :=
      I.turnedNew (ch := [e, it]) (fun b ob hb q => (sb.2 b (fun z => hb (by simp [z]))).trans (hk b ob (fun z => hb (by simp [z])) (fun z => hb (by simp [z])) q)) hf (Nat.le_refl _) new
    refine ⟨.ref s.heap.objs.size, _, I1, rfl, ⟨_, x, rfl, I.hok.fresh (Nat.le_refl _), rfl, fun ys hy => by rw [sqK_inj I hy hq]; exact hx⟩, ⟨⟨x1, ?_⟩, itK_at hit'.1 fun o q => (sb.2 it (Ne.symm hne)).trans q, hne⟩, fun b hb => ?_⟩
    · have e1 : ((i + 1 : Nat) : Int) = (i : Int) + 1 := by omega
      rw [e1]; exact he'
    · have hb' : b < s.heap.objs.size := by
        have e' : b = e ∨ b = it := by simpa using hb
        rcases e' with z | z
        · rw [z]; exact hel
        · rw [z]; exact hil
      rw [upd_ne (Nat.ne_of_lt hb')]
      exact (hf b hb).1
  done := by
    intro X hP hw hK hc i pins s σ H E I hf st hg
    subst hP hw hK
    obtain ⟨⟨old, he⟩, hit, hne⟩ := st
    obtain ⟨xs, hq, hx⟩ := hg
    obtain ⟨its, rv, p⟩ := hasK_of I hq
    obtain ⟨f0, f1, f2, f3, f4, f5⟩ := hf it (by simp)
    have hl := rv.length
    have nai : a ≠ it := fun q => by
      subst q
      cases k with
      | l =>
        obtain ⟨o1, e1, c1, _⟩ := hit
        obtain ⟨o2, e2, c2, _⟩ := p
        rw [e1] at e2
        cases e2
        rw [c1] at c2
        exact absurd c2 (by decide)
      | t =>
        obtain ⟨o1, e1, c1, _⟩ := hit
        obtain ⟨o2, e2, c2, _⟩ := p
        rw [e1] at e2
        cases e2
        rw [c1] at c2
        exact absurd c2 (by decide)
    have ei : i = its.toArray.size := by
      rw [List.size_toArray]
      omega
    exact wpAny_pyNext_enum_endD (drawsK k (A := X.A.in1) (I.ok.hd hc) it a nai its.toArray) he (by rw [← ei]; exact ⟨hit, p⟩) fun h' eb => ⟨rfl, I.turned (t' := s.toks) (fun b o hb q => eb b o hb q) f0 f1 f3 f4 f5⟩
  self := fun A i s Q E st h => let ⟨⟨_, he⟩, _⟩ := st; wpAny_pyIter_enum he h
def iEnumK (K : PySem.W.Frag) (k : Kd) (ta : TA) : TI := fun σ H R => ta σ H fun vs H1 => ∃ a xs, vs = [.ref a] ∧ SqK K k H1 a xs ∧ R (IteK K k a) H1
theorem pi_enumK (k : Kd) {X : Cx} {e : Expr} {ta : TA} {p pos tpos : Pos} {elts : List Expr} {kk : Nat} (hg : Gl X "enumerate") (hm : X.mg "enumerate" = none) (ha : PA X [e] ta) (hs : starEach [e] X.env = [(false, eval e X.env)] := by rfl) :
    PI X (.Tuple elts kk tpos) (.Call (.Name "enumerate" p) [e] [] pos) (iEnumK X.K k ta) := by
  refine ⟨fun pins s σ H R I h => ?_⟩
  refine Call_ (ld_blt I hg hm boot_enumerate (PyProof.Rows.callWith_type1 (thn (ha.run pos pins s σ H _ I h) fun us s1 ⟨vs, H1, I1, r1, q1⟩ => ?_) hs rfl))
  obtain ⟨a, xs, ex, hq, q⟩ := q1
  subst ex
  cases r1 with
  | cons r rr =>
    cases rr
    cases r
    obtain ⟨its, rv, p'⟩ := hasK_of I1 hq
    refine enum1_begins (beginsK k a its.toArray) p' fun h' he hit hsz hk => wpAny_pyIter_enum he ?_
    have I2 : Inv X pins σ H1 { s1 with heap := h' } := I1.kept (t' := s1.toks) hk
    refine ⟨s1.heap.objs.size + 1, [s1.heap.objs.size + 1, s1.heap.objs.size], _, _, H1, rfl, I2, turn_enumK a (s1.heap.objs.size + 1) s1.heap.objs.size, ⟨⟨.none, he⟩, itK_0 hit, Nat.succ_ne_self _⟩, fun b hb => ?_, q⟩
    have e' : b = s1.heap.objs.size + 1 ∨ b = s1.heap.objs.size := by simpa using hb
    have hle : s1.heap.objs.size ≤ b := by
      rcases e' with z | z
      · rw [z]; exact Nat.le_add_right _ _
      · rw [z]; exact Nat.le_refl _
    exact I1.fpOk hle (I1.hok.fresh hle)
theorem walk_enumK {K : PySem.W.Frag} {k : Kd} {a : Addr} {xs : List V} : Walk (IteK K k a) xs.length (fun H => SqK K k H a xs) (YPair (fun i => some (.int (i : Nat))) (fun i => xs[i]?)) := by
  refine ⟨fun i _ hi q => ⟨xs, xs[i], q, by simp [hi]⟩, fun _ q => ⟨xs, q, rfl⟩, fun i H v H' _ q y => ?_⟩
  obtain ⟨T, x, h1, h2, h3, h4⟩ := y
  exact ⟨T, .int (i : Nat), x, h1, h2, h3, rfl, h4 xs q⟩
def enumD (xs : List PyData) : List PyData := List.zipWith (fun (i : Nat) y => .tuple [.int (i : Int), y]) (List.range xs.length) xs
def iEn (k : Kd) (r : FL) : FL := fun env => match r env with
  | some [x] => (itemsK k x).bind fun xs => some (enumD xs)
  | _ => none
theorem i_enum (k : Kd) {X : Cx} {e : Expr} {r : FL} {p pos tpos : Pos} {elts : List Expr} {kk : Nat} (hg : Gl X "enumerate") (hm : X.mg "enumerate" = none) (ha : PA X [e] (tA X.K r)) (hs : starEach [e] X.env = [(false, eval e X.env)] := by rfl) :
    PI X (.Tuple elts kk tpos) (.Call (.Name "enumerate" p) [e] [] pos) (tI X.K (iEn k r)) := pi_le (pi_enumK k hg hm ha hs) fun σ H R ⟨Z, Hf, env, ds, Rl, hf, kk⟩ => by
  unfold iEn at hf
  split at hf
  · rename_i x hr
    obtain ⟨xs, hx, hf⟩ := Option_bind_some hf
    cases hf
    refine ⟨Z, Hf, env, _, Rl, hr, fun vs H1 Hf1 s1 d1 => ?_⟩
    obtain ⟨v, rfl, hv⟩ := d1.one
    obtain ⟨a, us, rfl, ha, hda⟩ := dp_itemsK hv hx
    refine ⟨a, us, rfl, sqK_up s1.i ha, kk _ H1 Hf1 s1 ?_⟩
    have hl : (enumD xs).length = us.length := by
      unfold enumD
      rw [List.length_zipWith, List.length_range, hda.len, Nat.min_self]
    have w := walk_enumK (K := X.K) (k := k) (a := a) (xs := us)
    rw [← hl] at w
    refine w.mono (fun H h => sqK_up h ha) fun i H v H' hi _ y => ?_
    obtain ⟨T, x, z, h1, h2, h3, h4, h5⟩ := y
    obtain ⟨dy, e2, q2⟩ := hda.get h5
    have hil : i < xs.length := (List.getElem?_eq_some_iff.mp e2).1
    have ex : V.int (i : Nat) = x := Option.some.inj h4
    subst ex
    refine ⟨.tuple [.int (i : Int), dy], ?_, .inr ⟨T, [_, z], [_, dy], h1, h2, h3, rfl, .cons (.int _) (.cons q2 .nil)⟩⟩
    unfold enumD
    rw [List.getElem?_zipWith, e2, List.getElem?_range hil]
  · cases hf

theorem intsAre_get : ∀ {vs : List Value} {ns : List Int} {i : Nat} {v : Value}, IntsAre vs ns → vs[i]? = some v → ∃ t, v = .int (ns.getD i 0) t
  | _, _, _, _, .nil, e => by simp at e
  | _, _, 0, _, .cons n t _, e => by
    simp at e
    exact ⟨t, e.symm⟩
  | _, _, i + 1, v, .cons n t h, e => by
    obtain ⟨t', q⟩ := intsAre_get (i := i) (v := v) h (by simpa using e)
    exact ⟨t', by simpa using q⟩
theorem cr_sumT {X : Cx} (hc : X.calm = true) : CallR X (.builtin "sum") (fun vs H Q => ∃ (a : Addr) (ns : List Int), vs = [V.ref a] ∧ SqT X.K H a (ns.map V.int) ∧ Q (.int ns.sum) H) := by
  intro pins s σ H vs us Q I r h
  obtain ⟨a, ns, rfl, hs, q⟩ := h
  obtain ⟨its, rv, hl, _⟩ := I.tuple hs
  rw [Vals.ref1 r]
  have hi := rv.ints
  have ht : s.heap.IsTuple a its.toArray := hl
  have hlt : a < s.heap.objs.size := by obtain ⟨_, e, _⟩ := ht; exact Heap.lt_size e
  refine call_sum_walkG (wpAny_pyIter_tuple ht ?_)
  refine ⟨_, _, _, _, _, _, fun i => ns.getD i 0, rfl, Walks.tuple (A := X.A.in1) (I.ok.hd hc) _ a (Nat.ne_of_lt hlt) its.toArray, ⟨⟨_, Heap.get?_push_size _ rfl, rfl, rfl⟩, ht.at fun o e => Heap.get?_push_of_some _ e⟩, fun b hb => ?_, fun i v hv => intsAre_get hi (by simpa using hv), fun h' tk t' hk => ?_⟩
  · show b < (s.heap.push _).objs.size
    rw [Heap.size_push]
    rcases List.mem_cons.mp hb with rfl | hb
    · exact Nat.lt_succ_self _
    · rw [List.mem_singleton.mp hb]
      exact Nat.lt_succ_of_lt hlt
  · have hlen : its.toArray.size = ns.length := by rw [List.size_toArray, hi.length]
    refine ⟨.int ns.sum, H, I.kept fun b o eo => hk b o (fun hmem => ?_) (Heap.get?_push_of_some _ eo), ⟨t', ?_⟩, q⟩
    · exact absurd (List.mem_singleton.mp hmem ▸ Heap.lt_size eo) (Nat.lt_irrefl _)
    · rw [hlen, preSum_getD, List.take_length]
theorem cd_sum {X : Cx} (hc : X.calm = true) : CallD X (.builtin "sum") fSum := by
  intro pins s σ H xs us Q I r ⟨Hf, ds, dz, hi, hd, hf, k⟩
  unfold fSum at hf
  split at hf
  · obtain ⟨ns, hns, hf⟩ := Option_bind_some hf
    cases hf
    obtain ⟨v, rfl, hv⟩ := hd.one
    obtain ⟨p, ys, rfl, hp, ha⟩ := hv.lst_of
    rw [getInts_eq hns] at ha
    rw [ha.ints] at hp
    exact cr_sum hc pins s σ H _ us Q I r ⟨p, ns, rfl, hi.seq hp, k _ _ _ (.refl hi) (.int _)⟩
  · obtain ⟨ns, hns, hf⟩ := Option_bind_some hf
    cases hf
    obtain ⟨v, rfl, hv⟩ := hd.one
    obtain ⟨p, ys, rfl, hp, ha⟩ := hv.tup_of
    rw [getInts_eq hns] at ha
    rw [ha.ints] at hp
    exact cr_sumT hc pins s σ H _ us Q I r ⟨p, ns, rfl, sqT_up hi hp, k _ _ _ (.refl hi) (.int _)⟩
  · cases hf
end Fi

namespace Fi
open PySem PySem.Spec PyProof.Rows L2

def ownIx (i : Nat) (f : FE) : FE := fun env => match env[i]? with
  | some (some (.own l)) => match f env with
    | some (.int k) => atI l k
    | _ => none
  | _ => none
def ownLen (i : Nat) : FE := fun env => match env[i]? with
  | some (some (.own l)) => some (.int l.length)
  | _ => none
section
variable {X : Cx}
theorem x_ownIx (i : Nat) {x : Str} {e : Expr} {p pos : Pos} {f : FE} (he : PE X e (tE X.K f)) (hs : PlainIx e) (hN : X.N[i]? = some x := by rfl) (hv : Vis X.env.scope x := by first | exact Or.inl rfl | exact Or.inr (Or.inl rfl) | exact Or.inr (Or.inr rfl)) (hd : (x == ("__debug__" : Str)) = false := by decide)
    (hcd : (x == ("__classdict__" : Str)) = false := by decide) : PE X (.Subscript (.Name x p) e pos) (tE X.K (ownIx i f)) := pe_le (pe_ix ix_list (pe_var hN hv hd hcd) he hs) fun σ H Q ⟨Z, Hf, env, d, R, hf, k⟩ => by
  unfold ownIx at hf
  split at hf
  · rename_i l hl
    split at hf
    · rename_i kk hk
      obtain ⟨w, hs, p, vs, rfl, hz, hfp, hp, ha⟩ := R.sl i _ hl
      refine ⟨.ref p, hs, Z, Hf, env, _, R, hk, fun v H1 Hf1 s1 d1 => ?_⟩
      cases d1.int_eq
      obtain ⟨w, e, hw⟩ := atI_dp ha hf
      exact ⟨p, vs, kk, w, rfl, rfl, SqL.of (s1.h p _ hp), e, k _ _ _ s1 (Dp_up s1.f hw)⟩
    · cases hf
  · cases hf
theorem x_ownLen (i : Nat) {x : Str} {p q pos : Pos} (hg : Gl X "len") (hm : X.mg "len" = none) (hN : X.N[i]? = some x := by rfl) (hv : Vis X.env.scope x := by first | exact Or.inl rfl | exact Or.inr (Or.inl rfl) | exact Or.inr (Or.inr rfl)) (hd : (x == ("__debug__" : Str)) = false := by decide)
    (hcd : (x == ("__classdict__" : Str)) = false := by decide) (hs : starEach [.Name x p] X.env = (false, eval (.Name x p) X.env) :: starEach [] X.env := by rfl) (hpl : (backTo pos (starEach [] X.env)).any (·.1) = false := by rfl) :
    PE X (.Call (.Name "len" q) [.Name x p] [] pos) (tE X.K (ownLen i)) := pe_le (pe_callB call_len_seq hg hm PySem.boot_len (pa_cons (pe_var hN hv hd hcd) pa_nil hs) (by decide) (by decide) hs hpl) fun σ H Q ⟨Z, Hf, env, d, R, hf, k⟩ => by
  unfold ownLen at hf
  split at hf
  · rename_i l hl
    cases hf
    obtain ⟨w, hs, p, vs, rfl, hz, hfp, hp, ha⟩ := R.sl i _ hl
    refine ⟨.ref p, hs, p, vs, rfl, .inl (SqL.of hp), ?_⟩
    rw [ha.len]
    exact k _ _ _ (.refl R.st.i) (.int _)
  · cases hf
end

structure Known (P : Program) (w : World) (K : PySem.W.Frag) (mg : Str → Option Value) (base : Heap) (k : Nat) (x : Str) (n : Nat) (F : List PyData → Option Sl) : Prop where
  ex : ∃ (f : Addr) (fd : FuncData) (ps : List Str), FnOk P w K mg base CX0 k f fd ps (spD K n F) ∧ mg x = some (.ref f) ∧ PySem.W.keepIn K (.ref f) = true ∧ Binds K fd ps []
abbrev FnP (K : PySem.W.Frag) (x : Str) (st : Stmt) (f : Addr) (fd : FuncData) : Prop := FunD K x x (defArgs st) (defBody st) (defScope st) [] [] f fd
theorem fnOk_mk {P : Program} {w : World} {K : PySem.W.Frag} {mg : Str → Option Value} {base : Heap} {x : Str} {st : Stmt} {f : Addr} {fd : FuncData} {N ps : List Str} {b : FS} {n np k : Nat} (hF : FnP K x st f fd) (S : FnScope N ps (defScope st)) (hn : N.length = n) (hp : ps.length = np)
    (hb : ∀ (cdv : Value) (A : Around) (outer : List Env) (s : Shared) (H : Hp) (E : XK), Room k (A.deeper (envOfC x (defScope st) s.heap.objs.size f cdv)) → PSs (cxOf CX0 P w K mg base N x (defScope st) f cdv A outer s H E).nox (defBody st) (tS K b)) :
    FnOk P w K mg base CX0 (k + 1) f fd ps (spD K np (fnD n b)) := by
  refine hF.ok S (fun vs H Q E h => ?_) (fun cdv A outer s H vs Q E hr h => ?_)
  · rw [h.1, hp]
  · obtain ⟨t, h1, h2⟩ := body_ok (X := (cxOf CX0 P w K mg base N x (defScope st) f cdv A outer s H E).nox) hn (hb cdv A outer s H E hr) h
    exact ⟨t, h1.nox, h2⟩
theorem known_mk {P : Program} {w : World} {K : PySem.W.Frag} {mg : Str → Option Value} {base : Heap} {x : Str} {st : Stmt} {f : Addr} {N ps : List Str} {b : FS} {n np k : Nat} (hF : ∃ fd, FnP K x st f fd) (hm : mg x = some (.ref f)) (S : FnScope N ps (defScope st)) (hn : N.length = n) (hp : ps.length = np)
    (hbd : ∀ (kV doc pm : Value) (an : Option Addr) (cdv ct : Value) (us : List Value), us.length = ps.length → bindArgs (PySem.W.fnOf x x (defArgs st) (defBody st) (defScope st) .none kV doc pm an cdv ct) ⟨us, []⟩ = pure (ps.zip us))
    (hb : ∀ (cdv : Value) (A : Around) (outer : List Env) (s : Shared) (H : Hp) (E : XK), Room k (A.deeper (envOfC x (defScope st) s.heap.objs.size f cdv)) → PSs (cxOf CX0 P w K mg base N x (defScope st) f cdv A outer s H E).nox (defBody st) (tS K b)) :
    Known P w K mg base (k + 1) x np (fnD n b) := by
  obtain ⟨fd, hF⟩ := hF
  exact ⟨f, fd, ps, fnOk_mk hF S hn hp hb, hm, hF.kp, hF.bindsN hbd⟩
section
variable {X : Cx} {j k : Nat} {F : List PyData → Option Sl} {n : Nat} {x : Str} {p pos : Pos} {e : Expr} {es : List Expr} {r : FL}
theorem x_fn (G : Known X.prog X.w X.K X.mg X.base j x n F) (hr : Room k X.A) (ha : PA X (e :: es) (tA X.K r)) (hln : ∀ env ds, r env = some ds → ds.length = es.length + 1) (hg : Gl X x := by rfl) (hjk : j ≤ k := by decide) (hn : n = es.length + 1 := by rfl) (hdb : (x == ("__debug__" : Str)) = false := by decide) (he : starEach (e :: es) X.env = (false, eval e X.env) :: starEach es X.env := by rfl) (hpl : (backTo pos (starEach es X.env)).any (·.1) = false := by rfl) :
    PE X (.Call (.Name x p) (e :: es) [] pos) (tE X.K (eCallF F r)) := by
  subst hn
  obtain ⟨f, fd, ps, h1, h2, h3, h4⟩ := G.ex
  exact x_call h1 (hr.mono hjk) hg h2 h3 h4 ha hln hdb he hpl
theorem l_fn (G : Known X.prog X.w X.K X.mg X.base j x n F) (hr : Room k X.A) (ha : PA X (e :: es) (tA X.K r)) (hln : ∀ env ds, r env = some ds → ds.length = es.length + 1) (hg : Gl X x := by rfl) (hjk : j ≤ k := by decide) (hn : n = es.length + 1 := by rfl) (hdb : (x == ("__debug__" : Str)) = false := by decide) (he : starEach (e :: es) X.env = (false, eval e X.env) :: starEach es X.env := by rfl) (hpl : (backTo pos (starEach es X.env)).any (·.1) = false := by rfl) :
    PE X (.Call (.Name x p) (e :: es) [] pos) (tL X.K (lCallF F r)) := by
  subst hn
  obtain ⟨f, fd, ps, h1, h2, h3, h4⟩ := G.ex
  exact l_call h1 (hr.mono hjk) hg h2 h3 h4 ha hln hdb he hpl
end
theorem dp_ints {K : PySem.W.Frag} {H : Hp} : ∀ ns : List Int, DpAll K H (ns.map V.int) (ns.map PyData.int)
  | [] => .nil
  | n :: ns => .cons (.int n) (dp_ints ns)
/-- the law's promise at its script -/
theorem law_sp {K : PySem.W.Frag} {F : List PyData → Option Sl} {H : Hp} {a : Addr} {ns : List Int} {E : XK} (hS : SqL K H a (ns.map V.int)) (hF : F [.list (ns.map .int)] = some (.val (.bool true))) : spD K 1 F [.ref a] H (fun v _ => v = .bl true) E :=
  ⟨rfl, H, _, _, Same.refl _, .cons (.lst hS (dp_ints ns)) .nil, hF, fun v H' Hf' _ d => d.bl_eq⟩
end Fi

namespace Fi
open PySem PySem.Spec PyProof.Rows L2

def rCatD (K : PySem.W.Frag) : R2 := fun x y H Q => ∃ a b xs ys, x = .ref a ∧ y = .ref b ∧ SqL K H a xs ∧ SqL K H b ys ∧ xs.length + ys.length ≤ sizeLine ∧ ∀ p, H p = none → Q (.ref p) (upd H p (.lst (xs ++ ys)))
theorem op_catL {X : Cx} : OpR X (binaryOp .Add) (rCatD X.K) := by
  intro pins s σ H x y v u Q I rx ry h
  obtain ⟨l, b, xs, zs, rfl, rfl, hH, hB, hz, q⟩ := h
  cases rx
  cases ry
  obtain ⟨its, r, ⟨⟨cls, dd, data, sl⟩, n, ho, hc, _, hd⟩, _⟩ := I.list hH
  obtain ⟨its2, r2, ⟨⟨cls2, dd2, data2, sl2⟩, n2, ho2, hc2, _, hd2⟩, _⟩ := I.list hB
  simp only at hc hd hc2 hd2
  subst hc hd hc2 hd2
  have hl := r.length
  have hl2 := r2.length
  have e : its.toArray ++ its2.toArray = (its ++ its2).toArray := by simp
  refine concat_meets ⟨_, ho, rfl⟩ ⟨_, ho2, rfl⟩ noFill_list_add seq_list_add PySem.F.slot_list_add PySem.F.entry_list_add (PySem.F.args_list_add_2 _ _) (list_addW l b its.toArray its2.toArray n n2 dd dd2 sl sl2 (by rw [List.size_toArray, List.size_toArray]; omega)) ⟨ho, ho2, ?_⟩
  rw [e]
  exact ⟨.ref _, _, I.lnew (t' := s.toks) (r.append r2) (by rw [List.length_append]; omega), rfl, q _ I.fresh⟩
def lCat (f g : FE) : FL := fun env => (f env).bind fun x => (g env).bind fun y => match x, y with
  | .list a, .list b => if a.length + b.length ≤ 100000 then some (a ++ b) else none
  | _, _ => none
section
variable {X : Cx} {a b e : Expr} {f g : FE} {pos : Pos}
theorem l_cat (ha : PE X a (tE X.K f)) (hb : PE X b (tE X.K g)) : PE X (.BinOp a .Add b pos) (tL X.K (lCat f g)) := pe_le (pe_op op_catL ha hb) fun σ H Q ⟨Z, Hf, env, d, R, hf, k⟩ => by
  obtain ⟨x, hx, hf⟩ := Option_bind_some hf
  obtain ⟨y, hy, hf⟩ := Option_bind_some hf
  split at hf
  · rename_i l1 l2
    split at hf
    · rename_i hle
      cases hf
      refine ⟨Z, Hf, env, _, R, hx, fun v H1 Hf1 s1 d1 => ⟨Z, Hf1, env, _, R.step s1, hy, fun u H2 Hf2 s2 d2 => ?_⟩⟩
      obtain ⟨p, xs, rfl, hp, hd1⟩ := (Dp_up s2.f d1).lst_of
      obtain ⟨q, ys, rfl, hq, hd2⟩ := d2.lst_of
      have s12 := s1.trans s2
      refine ⟨p, q, xs, ys, rfl, rfl, s2.i.seq hp, s2.i.seq hq, size_le (by rw [hd1.len, hd2.len]; exact hle), fun r hr => ?_⟩
      exact k r _ _ _ (s12.trans (Stp.hid s12.i hr)) (s12.h.free hr) (s12.i.free hr) upd_same (hd1.app hd2)
    · cases hf
  · cases hf

def tyD : PyData → String
  | .none => "NoneType"
  | .bool _ => "bool"
  | .int _ => "int"
  | .str _ => "str"
  | .list _ => "list"
  | .tuple _ => "tuple"
  | _ => "dict"
theorem tyX_of {K : PySem.W.Frag} {H : Hp} {v : V} {d : PyData} (h : Dp K H v d) : TyX K H v (.type (tyD d)) := by
  cases h with
  | non => exact .base .non
  | bl b => exact .base (.bl b)
  | int i => exact .base (.int i)
  | str x => exact .base (.str x)
  | lst hs _ =>
    rcases hs with h | ⟨o, its, n, hk, hc, _⟩
    · rcases h with h | ⟨o, h⟩
      · exact .base (.lst h)
      · exact .base (.frz h)
    · exact .kList hk hc
  | tup hs _ =>
    rcases hs with h | ⟨o, its, n, hk, hc, _⟩
    · rcases h with h | ⟨o, h⟩
      · exact .base (.tup h)
      · exact .fTuple h
    · exact .kTuple hk hc
def eIsI (T : String) (f : FE) : FE := fun env => (f env).bind fun d => (kitB (tyD d) T).map .bool
theorem x_isI {T : String} {x : Str} {p p2 : Pos} (hv : bootBuiltins x = some (.type T)) (hg : Gl X "isinstance") (hm : X.mg "isinstance" = none) (hg2 : Gl X x) (hm2 : X.mg x = none) (he : PE X e (tE X.K f)) (hn2 : x ≠ "__name__" := by decide) (hdb2 : (x == ("__debug__" : Str)) = false := by decide)
    (hs : starEach [e, .Name x p2] X.env = (false, eval e X.env) :: starEach [.Name x p2] X.env := by rfl) (hs2 : starEach [.Name x p2] X.env = (false, eval (.Name x p2) X.env) :: starEach [] X.env := by rfl) (hpl : (backTo pos (starEach [.Name x p2] X.env)).any (·.1) = false := by rfl) :
    PE X (.Call (.Name "isinstance" p) [e, .Name x p2] [] pos) (tE X.K (eIsI T f)) := by
  have ht : PE X (.Name x p2) (tC (.ty T)) := ⟨fun _ _ _ H _ I h => ld_blt I hg2 hm2 hv ⟨.ty T, H, I, rfl, h⟩ hn2 hdb2⟩
  refine pe_le (pe_callB call_isi hg hm boot_isinstance (pa_cons he (pa_cons ht pa_nil hs2) hs) (by decide) (by decide) hs hpl) fun σ H Q ⟨Z, Hf, env, d, R, hf, k⟩ => ?_
  obtain ⟨x, hx, hf⟩ := Option_bind_some hf
  obtain ⟨b, hb, rfl⟩ := Option.map_eq_some_iff.mp hf
  exact ⟨Z, Hf, env, x, R, hx, fun v H1 Hf1 s1 d1 => ⟨v, .ty T, .type (tyD x), .type T, b, rfl, .ty T, tyX_of (Dp_up s1.i d1), kit_ty hb, k _ H1 Hf1 s1 (.bl b)⟩⟩

def fIn : PyData → PyData → Option PyData
  | d, .list ds => if SeqAt.shaped d = true ∧ SeqAt.shaped (.list ds) = true then some (.bool (ds.any fun z => PyData.eqv z d)) else none
  | _, _ => none
def fNotIn : PyData → PyData → Option PyData
  | d, .list ds => if SeqAt.shaped d = true ∧ SeqAt.shaped (.list ds) = true then some (.bool (!ds.any fun z => PyData.eqv z d)) else none
  | _, _ => none
theorem od_in (hu : X.A.units + 65 < cLine) : OpD X (compareOp .In) fIn := by
  intro pins s σ H x y v u Q I rx ry ⟨Hf, dx, dy, dz, hi, hx, hy, hf, k⟩
  unfold fIn at hf
  split at hf
  · split at hf
    · rename_i hc
      cases hf
      exact op_inD hu pins s σ H _ _ v u Q I rx ry ⟨_, _, Dp_up hi hx, Dp_up hi hy, hc.1, hc.2, k _ _ _ (.refl hi) (.bl _)⟩
    · cases hf
  · cases hf
theorem od_notIn (hu : X.A.units + 65 < cLine) : OpD X (compareOp .NotIn) fNotIn := by
  intro pins s σ H x y v u Q I rx ry ⟨Hf, dx, dy, dz, hi, hx, hy, hf, k⟩
  unfold fNotIn at hf
  split at hf
  · split at hf
    · rename_i hc
      cases hf
      exact op_notInD hu pins s σ H _ _ v u Q I rx ry ⟨_, _, Dp_up hi hx, Dp_up hi hy, hc.1, hc.2, k _ _ _ (.refl hi) (.bl _)⟩
    · cases hf
  · cases hf
end
end Fi

namespace Fi
open PySem PySem.Spec PyProof.Rows L2
section
variable {K : PySem.W.Frag} {Z : Hp × Hp} {Hf H : Hp} {env : En} {σ : L2.St} {D : Addr} {o : HO}
def NoOwn (env : En) (σ : L2.St) (D : Addr) : Prop := ∀ (i : Nat) (x : List PyData), env[i]? = some (some (.own x)) → σ[i]? ≠ some (some (.ref D))
theorem Rel.noOwn (R : Rel K Z Hf H env σ) (h : H D = none) : NoOwn env σ D := fun i x e q => by
  obtain ⟨v, h1, p, vs, rfl, _, _, h2, _⟩ := R.sl i _ e
  rw [q] at h1
  cases h1
  rw [h] at h2
  cases h2
theorem Rel.lock (R : Rel K Z Hf H env σ) (hf : Hf D = none) (h : H D = some o) (hn : NoOwn env σ D) : Rel K (Z.1, upd Z.2 D o) Hf H env σ := by
  refine ⟨⟨R.st.f, R.st.i, fun b x e => ?_, fun a x e q => ?_⟩, R.len, fun i s e => ?_, R.ds⟩
  · by_cases hb : b = D
    · subst hb
      have e : upd Z.2 b o b = some x := e
      rw [upd_same] at e
      rw [h, e]
    · have e : upd Z.2 D o b = some x := e
      rw [upd_ne hb] at e
      exact R.st.h b x e
  · by_cases hb : a = D
    · subst hb
      exact hf
    · have e : upd Z.2 D o a = some x := e
      rw [upd_ne hb] at e
      exact R.st.n a x e q
  · obtain ⟨v, h1, h2⟩ := R.sl i s e
    refine ⟨v, h1, ?_⟩
    cases s with
    | val d => exact h2
    | own l =>
      obtain ⟨p, vs, rfl, a, b, c, d⟩ := h2
      refine ⟨p, vs, rfl, ?_, b, c, d⟩
      have hp : p ≠ D := fun q => hn i l e (by rw [h1, q])
      show upd Z.2 D o p = none
      rw [upd_ne hp]
      exact a
theorem Rel.unlock (R : Rel K (Z.1, upd Z.2 D o) Hf H env σ) (hz : Z.2 D = none) : Rel K Z Hf H env σ ∧ NoOwn env σ D := by
  refine ⟨⟨⟨R.st.f, R.st.i, fun b x e => ?_, fun a x e q => ?_⟩, R.len, fun i s e => ?_, R.ds⟩, fun i x e q => ?_⟩
  · exact R.st.h b x (by show upd Z.2 D o b = some x; rw [upd_ne (ne_of_none e hz)]; exact e)
  · exact R.st.n a x (by show upd Z.2 D o a = some x; rw [upd_ne (ne_of_none e hz)]; exact e) q
  · obtain ⟨v, h1, h2⟩ := R.sl i s e
    refine ⟨v, h1, ?_⟩
    cases s with
    | val d => exact h2
    | own l =>
      obtain ⟨p, vs, rfl, a, b, c, d⟩ := h2
      refine ⟨p, vs, rfl, ?_, b, c, d⟩
      have a : upd Z.2 D o p = none := a
      by_cases hp : p = D
      · rw [hp] 
        exact hz
      · rw [upd_ne hp] at a
        exact a
  · obtain ⟨v, h1, p, vs, rfl, a, _⟩ := R.sl i _ e
    rw [q] at h1
    cases h1
    have a : upd Z.2 D o D = none := a
    rw [upd_same] at a
    cases a
theorem Rel.atD (R : Rel K Z Hf H env σ) (hf : Hf D = none) (hz : Z.2 D = none) (hn : NoOwn env σ D) (o : HO) : Rel K Z Hf (upd H D o) env σ := by
  refine ⟨⟨R.st.f, fun b x e => ?_, fun b x e => ?_, R.st.n⟩, R.len, fun i s e => ?_, R.ds⟩
  · rw [upd_ne (ne_of_none e hf)]
    exact R.st.i b x e
  · rw [upd_ne (ne_of_none e hz)]
    exact R.st.h b x e
  · obtain ⟨v, h1, h2⟩ := R.sl i s e
    refine ⟨v, h1, ?_⟩
    cases s with
    | val d => exact h2
    | own l =>
      obtain ⟨p, vs, rfl, a, b, c, d⟩ := h2
      have hp : p ≠ D := fun q => hn i l e (by rw [h1, q])
      exact ⟨p, vs, rfl, a, b, by rw [upd_ne hp]; exact c, d⟩
end
theorem noOwn_wipe {env : En} {σ : L2.St} {D : Addr} (h : NoOwn env σ D) : ∀ vs : List Nat, NoOwn (wipeE env vs) (L2.wipe σ vs) D
  | [] => h
  | v :: vs => fun i x e q => by
    have ih := noOwn_wipe h vs
    unfold wipeE at e
    rcases set_cases e with ⟨_, z⟩ | ⟨hn, z⟩
    · cases z
    · unfold L2.wipe at q
      rw [List.getElem?_set_ne hn] at q
      exact ih i x z q
def lcD2 (g : PyData → En → Option En) (fj : FL) (u : PyData → En → Option En) (f : FE) (vs1 : List Nat) (env : En) : List PyData → Option (List PyData)
  | [] => some []
  | d :: ds => (g d env).bind fun e1 => (fj e1).bind fun es => (lcD u pYes f (wipeE e1 vs1) es).bind fun xs => (lcD2 g fj u f vs1 env ds).bind fun ys => some (xs ++ ys)
def lLc2 (fi : FL) (g : PyData → En → Option En) (fj : FL) (u : PyData → En → Option En) (f : FE) (vs vs1 : List Nat) : FL := fun env => (fi env).bind fun ds => (lcD2 g fj u f vs1 (wipeE env vs) ds).bind fun out => if out.length < 100000 then some out else none
theorem tLc2_of {K : PySem.W.Frag} {fi fj : FL} {g u : PyData → En → Option En} {f : FE} {vs vs1 sl sm : List Nat} (hsl : ∀ i ∈ sl, i ∈ vs) (hsm : ∀ i ∈ sm, i ∈ vs1) {σ : L2.St} {H : Hp} {Q : VK} (w : tL K (lLc2 fi g fj u f vs vs1) σ H Q) :
    tLc2 (tI K fi) (tG K false sl g) (tT K pYes) (tI K fj) (tG K false sm u) (tT K pYes) (tE K f) vs vs1 σ H Q := by
  obtain ⟨Z, Hf, env, out, R, hf, k⟩ := w
  obtain ⟨ds, hds, hf⟩ := Option_bind_some hf
  obtain ⟨out2, hout, hf⟩ := Option_bind_some hf
  split at hf
  · rename_i hlen
    cases hf
    refine ⟨Z, Hf, env, ds, R, hds, fun J H1 Hf1 s1 w D hD => ?_⟩
    have hD0 : H D = none := s1.h.free hD
    have hDf : Hf1 D = none := s1.i.free hD
    have hid := Stp.hid (o := .lst []) s1.i hD
    let Pv : Nat → Hp → Prop := fun i H' => ∃ (Hf' : Hp) (acc : List V) (da rs : List PyData), Stp Hf1 H1 Hf' H' ∧ Hf' D = none ∧ H' D = some (.lst acc) ∧ DpAll K Hf' acc da ∧ lcD2 g fj u f vs1 (wipeE env vs) (ds.drop i) = some rs ∧ out = da ++ rs
    refine ⟨fun i m H => m = ds.length - i ∧ i ≤ ds.length ∧ Pv i H, ⟨ds.length, by simp, Nat.zero_le _, Hf1, [], [], out, hid, hDf, upd_same, .nil, hout, rfl⟩, ?_⟩
    rintro i m H' ⟨rfl, hi, Hf', acc, da, rs, st, h1, h2, h3, h4, h5⟩
    have hG : Same Hf1 H' := st.f.trans st.i
    by_cases hlt : i < ds.length
    · refine .inr ⟨w.goes i H' hlt hG, Pv (i + 1), fun H2 p' => ⟨ds.length - (i + 1), by omega, rfl, hlt, p'⟩, fun x H2 y0 => ?_⟩
      have y := w.yields i H' x H2 hlt hG y0
      obtain ⟨d, hd, hdr⟩ := drop_get hlt
      rw [hdr] at h4
      obtain ⟨e1, hg1, h4⟩ := Option_bind_some h4
      obtain ⟨es, hes, h4⟩ := Option_bind_some h4
      obtain ⟨xs, hxs, h4⟩ := Option_bind_some h4
      obtain ⟨ys, hys, h4⟩ := Option_bind_some h4
      cases h4
      have R1 : Rel K Z Hf' H' (wipeE env vs) (L2.wipe σ vs) := ((R.step s1).wipe vs).step st
      obtain ⟨Hf2, st2, hx⟩ := yd_item y hd R1 st.f
      have hZ : Z.2 D = none := (R.step s1).st.h.free hD
      have no0 : NoOwn (wipeE env vs) (L2.wipe σ vs) D := ((R.step s1).wipe vs).noOwn hD
      have a1 : Hf2 D = none := st2.n D _ h2 h1
      have a2 : H2 D = some (.lst acc) := st2.h D _ h2
      refine ⟨(Z.1, upd Z.2 D (.lst acc)), Hf2, wipeE env vs, d, e1, (R1.step st2).lock a1 a2 no0, hx, hg1, fun σ3 H3 Hf3 s3 R3' pt ln mm => ?_⟩
      obtain ⟨rfl, rfl⟩ := mm rfl
      obtain ⟨R3, no3⟩ := Rel.unlock (Z := Z) R3' hZ
      have hw : L2.wipe σ3 vs = L2.wipe σ vs := by
        rw [← wipe_wipe σ vs]
        exact wipe_same (ln.trans rfl) fun i hi => pt i fun q => hi (hsl i q)
      refine ⟨hw, ?_⟩
      have st3 := st.trans st2
      have a3 := DpAll_up st2.f h3
      refine ⟨Z, Hf3, e1, true, R3, rfl, fun H4 Hf4 s4 => iteT ?_⟩
      have b1 : Hf4 D = none := s4.n D _ a2 a1
      have b2 : H4 D = some (.lst acc) := s4.h D _ a2
      have b3 := DpAll_up s4.f a3
      have st4 := st3.trans s4
      have R4 := R3.step s4
      refine ⟨Z, Hf4, e1, es, R4, hes, fun J1 H5 Hf5 s5 w1 => ?_⟩
      have c1 : Hf5 D = none := s5.n D _ b2 b1
      have c2 : H5 D = some (.lst acc) := s5.h D _ b2
      have c3 := DpAll_up s5.f b3
      have st5 := st4.trans s5
      have R5 := (R4.step s5).wipe vs1
      let Pw : Nat → Hp → Prop := fun j H' => ∃ (Hf' : Hp) (ac : List V) (dc qs : List PyData), Stp Hf1 H1 Hf' H' ∧ Same Hf5 Hf' ∧ Rel K Z Hf' H' (wipeE e1 vs1) (L2.wipe σ3 vs1) ∧ Hf' D = none ∧ H' D = some (.lst ac) ∧ DpAll K Hf' ac dc ∧ lcD u pYes f (wipeE e1 vs1) (es.drop j) = some qs ∧ out = dc ++ (qs ++ ys)
      refine ⟨fun j m H => m = es.length - j ∧ j ≤ es.length ∧ Pw j H, ⟨es.length, by simp, Nat.zero_le _, Hf5, acc, da, xs, st5, Same.refl _, R5, c1, c2, c3, hxs, by rw [h5]⟩, ?_⟩
      rintro j m H6 ⟨rfl, hj, Hf6, ac, dc, qs, st6, sm6, R6, d1, d2, d3, d4, d5⟩
      have hG6 : Same Hf5 H6 := sm6.trans st6.i
      by_cases hjl : j < es.length
      · refine .inr ⟨w1.goes j H6 hjl hG6, Pw (j + 1), fun H2 p' => ⟨es.length - (j + 1), by omega, rfl, hjl, p'⟩, fun x H7 y0 => ?_⟩
        have y1 := w1.yields j H6 x H7 hjl hG6 y0
        obtain ⟨d', hd', hdr'⟩ := drop_get hjl
        rw [hdr'] at d4
        obtain ⟨e2, hu1, d4⟩ := Option_bind_some d4
        have d4' : ((f e2).bind fun x => (lcD u pYes f (wipeE e1 vs1) (es.drop (j + 1))).bind fun xs => some (x :: xs)) = some qs := d4
        obtain ⟨x', hx', d4'⟩ := Option_bind_some d4'
        obtain ⟨zs, hzs, d4'⟩ := Option_bind_some d4'
        cases d4'
        obtain ⟨Hf7, st7, hx7⟩ := yd_item y1 hd' R6 sm6
        refine ⟨Z, Hf7, wipeE e1 vs1, d', e2, R6.step st7, hx7, hu1, fun σ8 H8 Hf8 s8 R8 pt8 ln8 mm8 => ?_⟩
        obtain ⟨rfl, rfl⟩ := mm8 rfl
        have hw8 : L2.wipe σ8 vs1 = L2.wipe σ3 vs1 := by
          rw [← wipe_wipe σ3 vs1]
          exact wipe_same (ln8.trans rfl) fun i hi => pt8 i fun q => hi (hsm i q)
        refine ⟨hw8, ?_⟩
        have e1' : Hf8 D = none := st7.n D _ d2 d1
        have e2' : H8 D = some (.lst ac) := st7.h D _ d2
        refine ⟨Z, Hf8, e2, true, R8, rfl, fun H9 Hf9 s9 => iteT ?_⟩
        refine ⟨Z, Hf9, e2, x', R8.step s9, hx', fun v HA HfA sA dA => ?_⟩
        have st89 := s9.trans sA
        have g1 : HfA D = none := st89.n D _ e2' e1'
        have g2 : HA D = some (.lst ac) := st89.h D _ e2'
        have stA := (st6.trans st7).trans st89
        have upA : Same Hf6 HfA := st7.f.trans st89.f
        have ha := DpAll_up upA d3
        have hdl : dc.length < 100000 := by
          have := congrArg List.length d5
          simp only [List.length_append] at this
          omega
        refine ⟨ac, g2, Nat.lt_of_lt_of_le (by rw [ha.len]; omega) (by decide : 100000 ≤ sizeLine), HfA, ac ++ [v], dc ++ [x'], zs, ⟨stA.f, fun b o e => ?_, fun b o e => ?_, stA.n⟩, sm6.trans upA, ?_, g1, upd_same, ha.app (.cons dA .nil), hzs, by rw [d5]; simp⟩
        · rw [upd_ne (ne_of_none e g1)]
          exact stA.i b o e
        · rw [upd_ne (ne_of_none e hD)]
          exact stA.h b o e
        · exact ((R6.step st7).step st89).atD g1 hZ (noOwn_wipe no3 vs1) _
      · have e : j = es.length := by omega
        subst e
        rw [List.drop_of_length_le (Nat.le_refl _)] at d4
        cases d4
        exact .inl ⟨w1.stops H6 hG6, Hf6, ac, dc, ys, st6, d1, d2, d3, hys, by simpa using d5⟩
    · have e : i = ds.length := by omega
      subst e
      rw [List.drop_of_length_le (Nat.le_refl _)] at h4
      cases h4
      rw [List.append_nil] at h5
      subst h5
      exact .inl ⟨w.stops H' hG, k D acc H' Hf' (s1.trans st) hD0 h1 h2 h3⟩
  · cases hf
section
variable {X : Cx} {elt tg iter tg1 iter1 : Expr} {scope : Scope} {own : List (Str × Nat)} {pos : Pos} {fi fj : FL} {g u : PyData → En → Option En} {f : FE} {sl sm vs vs1 : List Nat}
theorem l_lc2 (hc : X.calm = true) (hN : X.N.Nodup) (hi : PI X tg iter (tI X.K fi)) (ok : BlkOk X.N X.env.scope scope own)
    (hg : ∀ (s : Shared) (H : Hp) (C : Addr) (cl : List (Str × Addr)) (fp : List Addr), PG (X.blk s H scope (compEnvC scope cl C X.env) fp) tg (tG X.K false sl g))
    (hi1 : ∀ (s : Shared) (H : Hp) (C : Addr) (cl : List (Str × Addr)) (fp : List Addr), PI (X.blk s H scope (compEnvC scope cl C X.env) fp) tg1 iter1 (tI X.K fj))
    (hg1 : ∀ (s : Shared) (H : Hp) (C : Addr) (cl : List (Str × Addr)) (fp : List Addr), PG (X.blk s H scope (compEnvC scope cl C X.env) fp) tg1 (tG X.K false sm u))
    (he : ∀ (s : Shared) (H : Hp) (C : Addr) (cl : List (Str × Addr)) (fp : List Addr), PE (X.blk s H scope (compEnvC scope cl C X.env) fp) elt (tE X.K f)) (hvs : own.map (·.2) = vs := by rfl) (hv : ∀ i ∈ vs1, i ∈ vs := by decide) (hsl : ∀ i ∈ sl, i ∈ vs := by decide) (hsm : ∀ i ∈ sm, i ∈ vs1 := by decide)
    (hs : ∀ x, foldedSetIterable iter X.env x = pure x := by intro _; rfl) (hs1 : ∀ env x, foldedSetIterable iter1 env x = pure x := by intro _ _; rfl) :
    PE X (.ListComp elt [⟨tg, iter, [], 0⟩, ⟨tg1, iter1, [], 0⟩] scope pos) (tL X.K (lLc2 fi g fj u f vs vs1)) := by
  subst hvs
  exact pe_le (pe_lc2 hc hN hi ok hv hg (fun _ _ _ _ _ => q_nil) hi1 hg1 (fun _ _ _ _ _ => q_nil) he hs hs1) fun _ _ _ w => tLc2_of hsl hsm w
theorem s_setLc2 (i : Nat) {y : Str} {py spos : Pos} (hc : X.calm = true) (hN : X.N.Nodup) (hsw : swapsWith (.ListComp elt [⟨tg, iter, [], 0⟩, ⟨tg1, iter1, [], 0⟩] scope pos) (some (.Name y py)) spos.line X.env = pure true) (hi : PI X tg iter (tI X.K fi)) (ok : BlkOk X.N X.env.scope scope own)
    (hg : ∀ (s : Shared) (H : Hp) (C : Addr) (cl : List (Str × Addr)) (fp : List Addr), PG (X.blk s H scope (compEnvC scope cl C X.env) fp) tg (tG X.K false sl g))
    (hi1 : ∀ (s : Shared) (H : Hp) (C : Addr) (cl : List (Str × Addr)) (fp : List Addr), PI (X.blk s H scope (compEnvC scope cl C X.env) fp) tg1 iter1 (tI X.K fj))
    (hg1 : ∀ (s : Shared) (H : Hp) (C : Addr) (cl : List (Str × Addr)) (fp : List Addr), PG (X.blk s H scope (compEnvC scope cl C X.env) fp) tg1 (tG X.K false sm u))
    (he : ∀ (s : Shared) (H : Hp) (C : Addr) (cl : List (Str × Addr)) (fp : List Addr), PE (X.blk s H scope (compEnvC scope cl C X.env) fp) elt (tE X.K f)) (hy : X.N[i]? = some y := by rfl) (hyl : X.env.scope.names.lookup y = some .local := by rfl) (hvs : own.map (·.2) = vs := by rfl) (hv : ∀ i ∈ vs1, i ∈ vs := by decide) (hsl : ∀ i ∈ sl, i ∈ vs := by decide) (hsm : ∀ i ∈ sm, i ∈ vs1 := by decide)
    (hs : ∀ x, foldedSetIterable iter X.env x = pure x := by intro _; rfl) (hs1 : ∀ env x, foldedSetIterable iter1 env x = pure x := by intro _ _; rfl) :
    PS X (.Assign [.Name y py] (.ListComp elt [⟨tg, iter, [], 0⟩, ⟨tg1, iter1, [], 0⟩] scope pos) spos) (tS X.K (sOwn i (lLc2 fi g fj u f vs vs1))) := by
  subst hvs
  exact ps_le (ps_setLc2 hc hN hy hyl hsw hi ok hv hg (fun _ _ _ _ _ => q_nil) hi1 hg1 (fun _ _ _ _ _ => q_nil) he hs hs1) fun D σ H ⟨Z, Hf, env, o, R, hf, k⟩ => by
    obtain ⟨d, hd, rfl⟩ := Option.map_eq_some_iff.mp hf
    exact tLc2_of hsl hsm ⟨Z, Hf, env, d, R, hd, fun p vs H1 Hf1 s1 h0 h1 h2 d1 => k _ H1 Hf1 s1.f (R.setOwn s1 i h0 h1 h2 d1)⟩
end

def sortI (l : List Int) : List Int := l.mergeSort (fun a b => decide (a ≤ b))
theorem sortI_eq {l m : List Int} (h : m.Perm l) (hs : m.Pairwise (· ≤ ·)) : sortI l = m := by
  have h1 : (sortI l).Perm m := (List.mergeSort_perm l _).trans h.symm
  have h2 : (sortI l).Pairwise (· ≤ ·) := by
    have := List.pairwise_mergeSort (le := fun a b : Int => decide (a ≤ b)) (fun a b c h1 h2 => by simp at *; omega) (fun a b => by simp; omega) l
    exact this.imp (by simp)
  exact h1.eq_of_pairwise (fun a b _ _ h3 h4 => by omega) h2 hs
def lSorted (f : FE) : FL := fun env => (f env).bind fun x => match x with
  | .list l => (getInts l).bind fun ns => some ((sortI ns).map .int)
  | _ => none
section
variable {X : Cx} {a b e : Expr} {f g : FE} {pos : Pos}
theorem l_sorted {p : Pos} (hg : Gl X "sorted") (hm : X.mg "sorted" = none) (he : PE X e (tE X.K f)) (hs : starEach [e] X.env = (false, eval e X.env) :: starEach [] X.env := by rfl) (hpl : (backTo pos (starEach [] X.env)).any (·.1) = false := by rfl) :
    PE X (.Call (.Name "sorted" p) [e] [] pos) (tL X.K (lSorted f)) := pe_le (pe_callB cr_sortedI hg hm boot_sorted (pa_cons he pa_nil hs) (by decide) (by decide) hs hpl) fun σ H Q ⟨Z, Hf, env, d, R, hf, k⟩ => by
  obtain ⟨x, hx, hf⟩ := Option_bind_some hf
  cases x with
  | list l =>
    obtain ⟨ns, hns, hf⟩ := Option_bind_some hf
    cases hf
    refine ⟨Z, Hf, env, _, R, hx, fun v H1 Hf1 s1 d1 => ?_⟩
    obtain ⟨p, ys, rfl, hp, ha⟩ := d1.lst_of
    rw [getInts_eq hns] at ha
    rw [ha.ints] at hp
    refine ⟨p, ns, rfl, s1.i.seq hp, fun ns' q h1 h2 hq => ?_⟩
    have e := sortI_eq h1 h2
    refine k q _ _ _ (s1.trans (Stp.hid s1.i hq)) (s1.h.free hq) (s1.i.free hq) upd_same ?_
    rw [e]
    exact dp_ints ns'
  | _ => cases hf
def lRep (l : FL) (g : FE) : FL := fun env => (l env).bind fun x => (g env).bind fun y => match y with
  | .int k => if x.length ≤ 100 ∧ k ≤ 1000 ∧ -1000 ≤ k then some (List.replicate k.toNat x).flatten else none
  | _ => none
theorem DpAll_rep {K : PySem.W.Frag} {H : Hp} {vs : List V} {ds : List PyData} (h : DpAll K H vs ds) : ∀ n : Nat, DpAll K H (List.replicate n vs).flatten (List.replicate n ds).flatten
  | 0 => .nil
  | n + 1 => by
    rw [List.replicate_succ, List.replicate_succ, List.flatten_cons, List.flatten_cons]
    exact h.app (DpAll_rep h n)
theorem l_rep {l : FL} (ha : PE X a (tL X.K l)) (hb : PE X b (tE X.K g)) : PE X (.BinOp a .Mult b pos) (tL X.K (lRep l g)) := pe_le (pe_op op_rep ha hb) fun σ H Q ⟨Z, Hf, env, d, R, hf, k⟩ => by
  obtain ⟨x, hx, hf⟩ := Option_bind_some hf
  obtain ⟨y, hy, hf⟩ := Option_bind_some hf
  split at hf
  · rename_i n
    split at hf
    · rename_i hc
      cases hf
      refine ⟨Z, Hf, env, _, R, hx, fun p vs H1 Hf1 s1 h0 h1 h2 d1 => ⟨Z, Hf1, env, _, R.step s1, hy, fun u H2 Hf2 s2 d2 => ?_⟩⟩
      cases d2.int_eq
      have s12 := s1.trans s2
      have hle : vs.length * n.toNat ≤ 100 * 1000 := Nat.mul_le_mul (by rw [d1.len]; exact hc.1) (by omega)
      refine ⟨p, n, vs, rfl, rfl, s2.h p _ h2, by omega, by omega, size_le (by omega), fun r hr => ?_⟩
      exact k r _ _ _ (s12.trans (Stp.hid s12.i hr)) (s12.h.free hr) (s12.i.free hr) upd_same (DpAll_rep (DpAll_up s2.f d1) _)
    · cases hf
  · cases hf
end
end Fi
namespace Fi
open PySem L2
theorem u65 {k : Nat} {A : Around} (r : Room k A) : A.units + 65 < cLine := by have := r.un; omega
end Fi

namespace Fi
open PySem PySem.Spec PyProof.Rows L2

def ItzK3 (K : PySem.W.Frag) (k1 k2 k3 : Kd) (a b c : Addr) : It :=
  ⟨fun i H => ∃ (xs ys zs : List V) (x y z : V), SqK K k1 H a xs ∧ SqK K k2 H b ys ∧ SqK K k3 H c zs ∧ xs[i]? = some x ∧ ys[i]? = some y ∧ zs[i]? = some z,
    fun i H v H' => ∃ T x y z, v = .ref T ∧ H T = none ∧ H' = upd H T (.tup [x, y, z]) ∧ (∀ xs, SqK K k1 H a xs → xs[i]? = some x) ∧ (∀ ys, SqK K k2 H b ys → ys[i]? = some y) ∧ ∀ zs, SqK K k3 H c zs → zs[i]? = some z,
    fun i H => ∃ xs ys zs : List V, SqK K k1 H a xs ∧ SqK K k2 H b ys ∧ SqK K k3 H c zs ∧ i ≤ xs.length ∧ i ≤ ys.length ∧ i ≤ zs.length ∧ (i = xs.length ∨ i = ys.length ∨ i = zs.length)⟩
theorem itK_ne {k : Kd} {h : Heap} {it a : Addr} {i : Nat} {x : Array Value} (h1 : ItK k h it a i) (p : HasK k h a x) : a ≠ it := fun q => by
  subst q
  cases k with
  | l =>
    obtain ⟨o1, e1, c1, _⟩ := h1
    obtain ⟨o2, e2, c2, _⟩ := p
    rw [e1] at e2
    cases e2
    rw [c1] at c2
    exact absurd c2 (by decide)
  | t =>
    obtain ⟨o1, e1, c1, _⟩ := h1
    obtain ⟨o2, e2, c2, _⟩ := p
    rw [e1] at e2
    cases e2
    rw [c1] at c2
    exact absurd c2 (by decide)
theorem turn_zipK3 {P : Program} {w : World} {K : PySem.W.Frag} {elts : List Expr} {kk : Nat} {tpos : Pos} {k1 k2 k3 : Kd} {a b c z TI TO i1 i2 i3 : Addr} (D : ZipSep3 z TI TO i1 i2 i3 [i1, a] [i2, b] [i3, c]) :
    Turn P w K (.Tuple elts kk tpos) (ItzK3 K k1 k2 k3 a b c) [z, TI, TO, i1, i2, i3] z (fun i h => IsZip h z TI TO .none ∧ IsTupOf3 h TI (.ref i1) (.ref i2) (.ref i3) ∧ (∃ x y u, IsTupOf3 h TO x y u) ∧ ItK k1 h i1 a i ∧ ItK k2 h i2 b i ∧ ItK k3 h i3 c i) where
  mem := by simp
  obj := fun i h st d hc => by
    obtain ⟨hz, hTI, ⟨x, y, u, hTO⟩, h1, h2, h3⟩ := st
    have e' : d = z ∨ d = TI ∨ d = TO ∨ d = i1 ∨ d = i2 ∨ d = i3 := by simpa using hc
    rcases e' with q | q | q | q | q | q
    · rw [q]; exact ⟨_, hz, fun v q => nomatch q⟩
    · rw [q]; exact ⟨_, hTI, fun v q => nomatch q⟩
    · rw [q]; exact ⟨_, hTO, fun v q => nomatch q⟩
    · rw [q]; exact itK_obj h1
    · rw [q]; exact itK_obj h2
    · rw [q]; exact itK_obj h3
  keep := fun i h h' st k => by
    obtain ⟨hz, hTI, ⟨x, y, u, hTO⟩, h1, h2, h3⟩ := st
    exact ⟨k z (by simp) _ hz, k TI (by simp) _ hTI, ⟨x, y, u, k TO (by simp) _ hTO⟩, itK_at h1 fun o q => k i1 (by simp) o q, itK_at h2 fun o q => k i2 (by simp) o q, itK_at h3 fun o q => k i3 (by simp) o q⟩
  item := by
    intro X hP hw hK hc i pins s σ H E I hf st hg
    subst hP hw hK
    obtain ⟨hz, hTI, ⟨x0, y0, z0, hTO⟩, h1, h2, h3⟩ := st
    obtain ⟨xs, ys, zs, x, y, zz, hqx, hqy, hqz, hx, hy, hzz⟩ := hg
    obtain ⟨its, rv, p⟩ := hasK_of I hqx
    obtain ⟨its2, rv2, p2⟩ := hasK_of I hqy
    obtain ⟨its3, rv3, p3⟩ := hasK_of I hqz
    obtain ⟨u, hu, ru⟩ := rv.get hx
    obtain ⟨u2, hu2, ru2⟩ := rv2.get hy
    obtain ⟨u3, hu3, ru3⟩ := rv3.get hzz
    have hzl : z < s.heap.objs.size := Heap.lt_size hz
    have lx : i < its.toArray.size := by
      rw [List.size_toArray]
      exact (List.getElem?_eq_some_iff.mp hu).1
    have ly : i < its2.toArray.size := by
      rw [List.size_toArray]
      exact (List.getElem?_eq_some_iff.mp hu2).1
    have lz : i < its3.toArray.size := by
      rw [List.size_toArray]
      exact (List.getElem?_eq_some_iff.mp hu3).1
    refine wpAny_pyNext_zipD3_item D (drawsK k1 (A := X.A.in1) (I.ok.hd hc) i1 a (itK_ne h1 p) its.toArray) (drawsK k2 (A := X.A.in1) (I.ok.hd hc) i2 b (itK_ne h2 p2) its2.toArray) (drawsK k3 (A := X.A.in1) (I.ok.hd hc) i3 c (itK_ne h3 p3) its3.toArray) hz hTI hTO ⟨h1, p⟩ ⟨h2, p2⟩ ⟨h3, p3⟩ lx ly lz fun x1 x2 x3 h' tk hx1 hx2 hx3 z' TO' h1' h2' h3' hT hsz hk => ?_
    have ex1 : x1 = u := Option.some.inj (hx1.symm.trans (by simpa using hu))
    have ex2 : x2 = u2 := Option.some.inj (hx2.symm.trans (by simpa using hu2))
    have ex3 : x3 = u3 := Option.some.inj (hx3.symm.trans (by simpa using hu3))
    subst ex1 ex2 ex3
    refine ⟨_, rfl, wpAny_letOwnedTupleGo_zip (s := { s with heap := h', toks := tk }) z' fun h'' z'' sb => ?_⟩
    have hT2 : h''.get? s.heap.objs.size = some { cls := .type "tuple", data := .seq #[x1, x2, x3] } := (sb.2 _ (Nat.ne_of_gt hzl)).trans hT
    have new : ObjOk X.prog X.w (upd H s.heap.objs.size (.tup [x, y, zz])) h'' s.heap.objs.size (.tup [x, y, zz]) :=
      ⟨by show 3 ≤ sizeLine; decide, [x1, x2, x3], .cons ru (.cons ru2 (.cons ru3 .nil)), ⟨_, hT2, rfl, _, rfl⟩⟩
    have I1 : Inv X pins σ (upd H s.heap.objs.size (.tup [x, y, zz])) { s with heap := h'', toks := tk } :=
      I.turnedNew (t' := tk) (ch := [z, TI, TO, i1, i2, i3]) (fun c o hb q => (sb.2 c (fun q' => hb (by simp [q']))).trans (hk c o (fun q' => hb (by simp [q'])) (fun q' => hb (by simp [q'])) (fun q' => hb (by simp [q'])) (fun q' => hb (by simp [q'])) (fun q' => hb (by simp [q'])) q)) hf (Nat.le_refl _) new
    refine ⟨.ref s.heap.objs.size, _, I1, rfl, ⟨_, x, y, zz, rfl, I.hok.fresh (Nat.le_refl _), rfl, fun l hl => by rw [sqK_inj I hl hqx]; exact hx, fun l hl => by rw [sqK_inj I hl hqy]; exact hy, fun l hl => by rw [sqK_inj I hl hqz]; exact hzz⟩, ⟨z'', ?_, ⟨x1, x2, x3, ?_⟩, ?_, ?_, ?_⟩, fun c hcm => ?_⟩
    · exact (sb.2 _ D.TIz).trans (hk _ _ D.TIz D.TITO D.TIi1 D.TIi2 D.TIi3 hTI)
    · exact (sb.2 _ D.TOz).trans TO'
    · exact itK_at h1'.1 fun o q => (sb.2 _ (Ne.symm D.zi1)).trans q
    · exact itK_at h2'.1 fun o q => (sb.2 _ (Ne.symm D.zi2)).trans q
    · exact itK_at h3'.1 fun o q => (sb.2 _ (Ne.symm D.zi3)).trans q
    · have hlt : c < s.heap.objs.size := by
        have e' : c = z ∨ c = TI ∨ c = TO ∨ c = i1 ∨ c = i2 ∨ c = i3 := by simpa using hcm
        rcases e' with q | q | q | q | q | q
        · rw [q]; exact hzl
        · rw [q]; exact Heap.lt_size hTI
        · rw [q]; exact Heap.lt_size hTO
        · rw [q]; obtain ⟨_, e1, _⟩ := itK_obj h1; exact Heap.lt_size e1
        · rw [q]; obtain ⟨_, e2, _⟩ := itK_obj h2; exact Heap.lt_size e2
        · rw [q]; obtain ⟨_, e2, _⟩ := itK_obj h3; exact Heap.lt_size e2
      rw [upd_ne (Nat.ne_of_lt hlt)]
      exact (hf c hcm).1
  done := by
    intro X hP hw hK hc i pins s σ H E I hf st hg
    subst hP hw hK
    obtain ⟨hz, hTI, ⟨x0, y0, z0, hTO⟩, h1, h2, h3⟩ := st
    obtain ⟨xs, ys, zs, hqx, hqy, hqz, hix, hiy, hiz, hend⟩ := hg
    obtain ⟨its, rv, p⟩ := hasK_of I hqx
    obtain ⟨its2, rv2, p2⟩ := hasK_of I hqy
    obtain ⟨its3, rv3, p3⟩ := hasK_of I hqz
    have l1 := rv.length
    have l2 := rv2.length
    have l3 := rv3.length
    refine wpAny_pyNext_zipD3_end D (drawsK k1 (A := X.A.in1) (I.ok.hd hc) i1 a (itK_ne h1 p) its.toArray) (drawsK k2 (A := X.A.in1) (I.ok.hd hc) i2 b (itK_ne h2 p2) its2.toArray) (drawsK k3 (A := X.A.in1) (I.ok.hd hc) i3 c (itK_ne h3 p3) its3.toArray) hz hTI hTO ⟨h1, p⟩ ⟨h2, p2⟩ ⟨h3, p3⟩ (by rw [List.size_toArray]; omega) (by rw [List.size_toArray]; omega) (by rw [List.size_toArray]; omega) (by rw [List.size_toArray, List.size_toArray, List.size_toArray]; omega) fun h' tk hk => ⟨rfl, I.turnedL (t' := tk) (ch := [z, TI, TO, i1, i2, i3]) (fun c o hb q =>
      hk c o (fun q' => hb (by simp [q'])) (fun q' => hb (by simp [q'])) (fun q' => hb (by simp [q'])) (fun q' => hb (by simp [q'])) (fun q' => hb (by simp [q'])) q) hf⟩
  self := fun A i s Q E st h => wpAny_pyIter_zip st.1 h
def iZipK3 (K : PySem.W.Frag) (k1 k2 k3 : Kd) (ta : TA) : TI := fun σ H R => ta σ H fun vs H1 => ∃ a b c xs ys zs, vs = [.ref a, .ref b, .ref c] ∧ SqK K k1 H1 a xs ∧ SqK K k2 H1 b ys ∧ SqK K k3 H1 c zs ∧ R (ItzK3 K k1 k2 k3 a b c) H1
theorem pi_zipK3 (k1 k2 k3 : Kd) {X : Cx} {e e2 e3 : Expr} {ta : TA} {p pos tpos : Pos} {elts : List Expr} {kk : Nat} (hg : Gl X "zip") (hm : X.mg "zip" = none) (ha : PA X [e, e2, e3] ta)
    (hs : starEach [e, e2, e3] X.env = (false, eval e X.env) :: starEach [e2, e3] X.env := by rfl) (hpl : (backTo pos (starEach [e2, e3] X.env)).any (·.1) = false := by rfl) :
    PI X (.Tuple elts kk tpos) (.Call (.Name "zip" p) [e, e2, e3] [] pos) (iZipK3 X.K k1 k2 k3 ta) := by
  refine ⟨fun pins s σ H R I h => ?_⟩
  refine Call_ (ld_blt I hg hm PyProof.Rows.boot_zip (PyProof.Rows.callWith_type1 (thn (ha.run pos pins s σ H _ I h) fun us s1 ⟨vs, H1, I1, r1, q1⟩ => ?_) hs hpl))
  obtain ⟨a, b, c, xs, ys, zs, ex, hqx, hqy, hqz, q⟩ := q1
  subst ex
  cases r1 with
  | cons r rr =>
    cases rr with
    | cons r' rr =>
      cases rr with
      | cons r'' rr =>
      cases rr
      cases r
      cases r'
      cases r''
      have fresh6 : ∀ d, d ∈ [s1.heap.objs.size + 5, s1.heap.objs.size + 3, s1.heap.objs.size + 4, s1.heap.objs.size, s1.heap.objs.size + 1, s1.heap.objs.size + 2] → FpOk X pins H1 d := fun d hcm => by
        have e' : d = s1.heap.objs.size + 5 ∨ d = s1.heap.objs.size + 3 ∨ d = s1.heap.objs.size + 4 ∨ d = s1.heap.objs.size ∨ d = s1.heap.objs.size + 1 ∨ d = s1.heap.objs.size + 2 := by simpa using hcm
        have hle : s1.heap.objs.size ≤ d := by
          rcases e' with z | z | z | z | z | z
          · rw [z]; exact Nat.le_add_right _ _
          · rw [z]; exact Nat.le_add_right _ _
          · rw [z]; exact Nat.le_add_right _ _
          · rw [z]; exact Nat.le_refl _
          · rw [z]; exact Nat.le_add_right _ _
          · rw [z]; exact Nat.le_add_right _ _
        exact I1.fpOk hle (I1.hok.fresh hle)
      obtain ⟨its, rv, p1⟩ := hasK_of I1 hqx
      obtain ⟨its2, rv2, p2⟩ := hasK_of I1 hqy
      obtain ⟨its3, rv3, p3⟩ := hasK_of I1 hqz
      refine zip_begins3 (beginsK k1 a its.toArray) (beginsK k2 b its2.toArray) (beginsK k3 c its3.toArray) p1 p2 p3 fun h' hz hTI hTO h1 h2 h3 hsz hk => wpAny_pyIter_zip hz ?_
      have I2 : Inv X pins σ H1 { s1 with heap := h' } := I1.kept (t' := s1.toks) hk
      have hsep := zip_sep3 (N := s1.heap.objs.size) (fp1 := [a]) (fp2 := [b]) (fp3 := [c]) (fun c hc => by rw [List.mem_singleton.mp hc]; exact hasK_lt p1) (fun c hc => by rw [List.mem_singleton.mp hc]; exact hasK_lt p2) (fun c hc => by rw [List.mem_singleton.mp hc]; exact hasK_lt p3)
      exact ⟨s1.heap.objs.size + 5, [s1.heap.objs.size + 5, s1.heap.objs.size + 3, s1.heap.objs.size + 4, s1.heap.objs.size, s1.heap.objs.size + 1, s1.heap.objs.size + 2], _, _, H1, rfl, I2, turn_zipK3 hsep, ⟨hz, hTI, ⟨_, _, _, hTO⟩, itK_0 h1, itK_0 h2, itK_0 h3⟩, fresh6, q⟩
def triples : List PyData → List PyData → List PyData → List PyData
  | x :: xs, y :: ys, z :: zs => .tuple [x, y, z] :: triples xs ys zs
  | _, _, _ => []
theorem triples_len : ∀ xs ys zs : List PyData, (triples xs ys zs).length = min xs.length (min ys.length zs.length)
  | x :: xs, y :: ys, z :: zs => by
    rw [triples, List.length_cons, triples_len xs ys zs, List.length_cons, List.length_cons, List.length_cons]
    omega
  | [], _, _ => by simp [triples]
  | _ :: _, [], _ => by simp [triples]
  | _ :: _, _ :: _, [] => by simp [triples]
theorem triples_get : ∀ {xs ys zs : List PyData} {i : Nat} {x y z : PyData}, xs[i]? = some x → ys[i]? = some y → zs[i]? = some z → (triples xs ys zs)[i]? = some (.tuple [x, y, z])
  | x :: xs, y :: ys, z :: zs, 0, _, _, _, h1, h2, h3 => by
    cases h1
    cases h2
    cases h3
    rfl
  | x :: xs, y :: ys, z :: zs, i + 1, _, _, _, h1, h2, h3 => by
    rw [triples, List.getElem?_cons_succ]
    exact triples_get (by simpa using h1) (by simpa using h2) (by simpa using h3)
  | [], _, _, _, _, _, _, h, _, _ => by simp at h
  | _ :: _, [], _, _, _, _, _, _, h, _ => by simp at h
  | _ :: _, _ :: _, [], _, _, _, _, _, _, h => by simp at h
def iZ3 (k1 k2 k3 : Kd) (r : FL) : FL := fun env => match r env with
  | some [x, y, z] => (itemsK k1 x).bind fun xs => (itemsK k2 y).bind fun ys => (itemsK k3 z).bind fun zs => some (triples xs ys zs)
  | _ => none
theorem DpAll_three {K : PySem.W.Frag} {H : Hp} {vs : List V} {d e f : PyData} (h : DpAll K H vs [d, e, f]) : ∃ v w u, vs = [v, w, u] ∧ Dp K H v d ∧ Dp K H w e ∧ Dp K H u f := by
  cases h with
  | cons h t =>
    obtain ⟨w, u, rfl, q, r⟩ := t.two
    exact ⟨_, w, u, rfl, h, q, r⟩
theorem i_zip3 (k1 k2 k3 : Kd) {X : Cx} {e e2 e3 : Expr} {r : FL} {p pos tpos : Pos} {elts : List Expr} {kk : Nat} (hg : Gl X "zip") (hm : X.mg "zip" = none) (ha : PA X [e, e2, e3] (tA X.K r))
    (hs : starEach [e, e2, e3] X.env = (false, eval e X.env) :: starEach [e2, e3] X.env := by rfl) (hpl : (backTo pos (starEach [e2, e3] X.env)).any (·.1) = false := by rfl) :
    PI X (.Tuple elts kk tpos) (.Call (.Name "zip" p) [e, e2, e3] [] pos) (tI X.K (iZ3 k1 k2 k3 r)) := pi_le (pi_zipK3 k1 k2 k3 hg hm ha hs hpl) fun σ H R ⟨Z, Hf, env, ds, Rl, hf, k⟩ => by
  unfold iZ3 at hf
  split at hf
  · rename_i x y z hr
    obtain ⟨xs, hx, hf⟩ := Option_bind_some hf
    obtain ⟨ys, hy, hf⟩ := Option_bind_some hf
    obtain ⟨zs, hz, hf⟩ := Option_bind_some hf
    cases hf
    refine ⟨Z, Hf, env, _, Rl, hr, fun vs H1 Hf1 s1 d1 => ?_⟩
    obtain ⟨v, w, t, rfl, hv, hw, ht⟩ := DpAll_three d1
    obtain ⟨a, us, rfl, ha, hda⟩ := dp_itemsK hv hx
    obtain ⟨b, ws, rfl, hb, hdb⟩ := dp_itemsK hw hy
    obtain ⟨c, ts, rfl, hc, hdc⟩ := dp_itemsK ht hz
    refine ⟨a, b, c, us, ws, ts, rfl, sqK_up s1.i ha, sqK_up s1.i hb, sqK_up s1.i hc, k _ H1 Hf1 s1 ?_⟩
    have hl : (triples xs ys zs).length = min us.length (min ws.length ts.length) := by
      rw [triples_len, hda.len, hdb.len, hdc.len]
    show Walk _ (triples xs ys zs).length _ _
    rw [hl]
    refine ⟨fun i H hi q => ?_, fun H q => ?_, fun i H v H' hi q y => ?_⟩
    · have g1 : i < us.length := by omega
      have g2 : i < ws.length := by omega
      have g3 : i < ts.length := by omega
      exact ⟨us, ws, ts, us[i], ws[i], ts[i], sqK_up q ha, sqK_up q hb, sqK_up q hc, by simp [g1], by simp [g2], by simp [g3]⟩
    · exact ⟨us, ws, ts, sqK_up q ha, sqK_up q hb, sqK_up q hc, by omega, by omega, by omega, by omega⟩
    · obtain ⟨T, x, y, z, h1, h2, h3, h4, h5, h6⟩ := y
      obtain ⟨dx, e1, q1⟩ := hda.get (h4 us (sqK_up q ha))
      obtain ⟨dy, e2, q2⟩ := hdb.get (h5 ws (sqK_up q hb))
      obtain ⟨dz, e3, q3⟩ := hdc.get (h6 ts (sqK_up q hc))
      exact ⟨.tuple [dx, dy, dz], triples_get e1 e2 e3, .inr ⟨T, [x, y, z], [dx, dy, dz], h1, h2, h3, rfl, .cons q1 (.cons q2 (.cons q3 .nil))⟩⟩
  · cases hf

def lR1 (f : FE) : FL := fun env => match f env with
  | some (.int n) => if -100000 < n ∧ n < 100000 then some ((List.range n.toNat).map fun (i : Nat) => PyData.int (i : Int)) else none
  | _ => none
theorem dp_range {K : PySem.W.Frag} {H : Hp} (l : List Nat) : DpAll K H (l.map fun i => V.int (0 + (i : Nat))) (l.map fun (i : Nat) => PyData.int (i : Int)) := by
  induction l with
  | nil => exact .nil
  | cons a l ih =>
    refine .cons ?_ ih
    show Dp K H (V.int (0 + (a : Int))) (.int (a : Int))
    rw [Int.zero_add]
    exact .int _
section
variable {X : Cx} {e : Expr} {f g : FE} {pos : Pos}
theorem l_listRange {p p2 pos2 : Pos} (hc : X.calm = true) (hg : Gl X "list") (hm : X.mg "list" = none) (hg2 : Gl X "range") (hm2 : X.mg "range" = none) (he : PE X e (tE X.K f)) (na : starEach [e] X.env = (false, eval e X.env) :: starEach [] X.env := by rfl)
    (na2 : starEach [.Call (.Name "range" p2) [e] [] pos2] X.env = (false, eval (.Call (.Name "range" p2) [e] [] pos2) X.env) :: starEach [] X.env := by rfl) :
    PE X (.Call (.Name "list" p) [.Call (.Name "range" p2) [e] [] pos2] [] pos) (tL X.K (lR1 f)) := pe_le (pe_listRg hc hg hm (prg_1 hg2 hm2 he na) na2) fun σ H Q ⟨Z, Hf, env, d, R, hf, k⟩ => by
  unfold lR1 at hf
  split at hf
  · rename_i n hn
    split at hf
    · rename_i hb
      cases hf
      refine ⟨Z, Hf, env, _, R, hn, fun v H1 Hf1 s1 d1 => ?_⟩
      cases d1.int_eq
      refine ⟨n, rfl, ⟨by omega, by omega, by omega, by omega, by omega⟩, fun q hq => ?_⟩
      refine k q _ _ _ (s1.trans (Stp.hid s1.i hq)) (s1.h.free hq) (s1.i.free hq) upd_same ?_
      unfold rgV
      rw [Int.sub_zero]
      exact dp_range _
    · cases hf
  · cases hf

def ownNe (i : Nat) (g : FE) : FE := fun env => match env[i]? with
  | some (some (.own l)) => (g env).bind fun y => if SeqAt.shaped (.list l) = true ∧ SeqAt.shaped y = true then some (.bool (!PyData.eqv (.list l) y)) else none
  | _ => none
theorem x_ownNe (i : Nat) {x : Str} {p : Pos} (hu : X.A.units + 64 < cLine) (hb : PE X e (tE X.K g)) (hN : X.N[i]? = some x := by rfl) (hv : Vis X.env.scope x := by first | exact Or.inl rfl | exact Or.inr (Or.inl rfl) | exact Or.inr (Or.inr rfl)) (hd : (x == ("__debug__" : Str)) = false := by decide)
    (hcd : (x == ("__classdict__" : Str)) = false := by decide) : PE X (.Compare (.Name x p) [.NotEq] [e] pos) (tE X.K (ownNe i g)) := pe_le (pe_cmpR (op_neD hu) (pe_var hN hv hd hcd) hb (nomark _)) fun σ H Q ⟨Z, Hf, env, d, R, hf, k⟩ => by
  unfold ownNe at hf
  split at hf
  · rename_i l hl
    obtain ⟨y, hy, hf⟩ := Option_bind_some hf
    split at hf
    · rename_i hc
      cases hf
      obtain ⟨w, hs, p, vs, rfl, hz, hfp, hp, ha⟩ := R.sl i _ hl
      refine ⟨.ref p, hs, Z, Hf, env, _, R, hy, fun v H1 Hf1 s1 d1 => ?_⟩
      exact ⟨_, _, .lst (SqL.of (s1.h p _ hp)) (DpAll_up (s1.f.trans s1.i) ha), Dp_up s1.i d1, hc.1, hc.2, k _ _ _ s1 (.bl _)⟩
    · cases hf
  · cases hf
def ownIn (i : Nat) (g : FE) : FE := fun env => match env[i]? with
  | some (some (.own l)) => (g env).bind fun y => if SeqAt.shaped y = true ∧ SeqAt.shaped (.list l) = true then some (.bool (l.any fun z => PyData.eqv z y)) else none
  | _ => none
theorem x_ownIn (i : Nat) {x : Str} {p : Pos} (hu : X.A.units + 65 < cLine) (hb : PE X e (tE X.K g)) (hm : behindInMarks .In (.Name x p) = false) (hN : X.N[i]? = some x := by rfl) (hv : Vis X.env.scope x := by first | exact Or.inl rfl | exact Or.inr (Or.inl rfl) | exact Or.inr (Or.inr rfl)) (hd : (x == ("__debug__" : Str)) = false := by decide)
    (hcd : (x == ("__classdict__" : Str)) = false := by decide) : PE X (.Compare e [.In] [.Name x p] pos) (tE X.K (ownIn i g)) := pe_le (pe_cmpR (op_inD hu) hb (pe_var hN hv hd hcd) hm) fun σ H Q ⟨Z, Hf, env, d, R, hf, k⟩ => by
  unfold ownIn at hf
  split at hf
  · rename_i l hl
    obtain ⟨y, hy, hf⟩ := Option_bind_some hf
    split at hf
    · rename_i hc
      cases hf
      refine ⟨Z, Hf, env, _, R, hy, fun v H1 Hf1 s1 d1 => ?_⟩
      obtain ⟨w, hs, p, vs, rfl, hz, hfp, hp, ha⟩ := (R.step s1).sl i _ hl
      exact ⟨.ref p, hs, _, _, Dp_up s1.i d1, .lst (SqL.of hp) (DpAll_up s1.i ha), hc.1, hc.2, k _ _ _ s1 (.bl _)⟩
    · cases hf
  · cases hf
/-- isinstance(x, list) of an own list -/
def ownIsL (i : Nat) : FE := fun env => match env[i]? with
  | some (some (.own _)) => some (.bool true)
  | _ => none
theorem x_ownIsL (i : Nat) {x : Str} {p p1 p2 : Pos} (hg : Gl X "isinstance") (hm : X.mg "isinstance" = none) (hg2 : Gl X "list") (hm2 : X.mg "list" = none) (hN : X.N[i]? = some x := by rfl) (hv : Vis X.env.scope x := by first | exact Or.inl rfl | exact Or.inr (Or.inl rfl) | exact Or.inr (Or.inr rfl)) (hd : (x == ("__debug__" : Str)) = false := by decide)
    (hcd : (x == ("__classdict__" : Str)) = false := by decide)
    (hs : starEach [.Name x p1, .Name "list" p2] X.env = (false, eval (.Name x p1) X.env) :: starEach [.Name "list" p2] X.env := by rfl) (hs2 : starEach [.Name "list" p2] X.env = (false, eval (.Name "list" p2) X.env) :: starEach [] X.env := by rfl) (hpl : (backTo pos (starEach [.Name "list" p2] X.env)).any (·.1) = false := by rfl) :
    PE X (.Call (.Name "isinstance" p) [.Name x p1, .Name "list" p2] [] pos) (tE X.K (ownIsL i)) := by
  have ht : PE X (.Name "list" p2) (tC (.ty "list")) := pe_bltn hg2 hm2 PyProof.Rows.boot_list rfl
  refine pe_le (pe_callB call_isi hg hm boot_isinstance (pa_cons (pe_var hN hv hd hcd) (pa_cons ht pa_nil hs2) hs) (by decide) (by decide) hs hpl) fun σ H Q ⟨Z, Hf, env, d, R, hf, k⟩ => ?_
  unfold ownIsL at hf
  split at hf
  · rename_i l hl
    cases hf
    obtain ⟨w, hs, p, vs, rfl, hz, hfp, hp, ha⟩ := R.sl i _ hl
    exact ⟨.ref p, hs, .ref p, .ty "list", .type "list", .type "list", true, rfl, .ty "list", .base (.lst hp), kit_ty (by decide +kernel), k _ H Hf (.refl R.st.i) (.bl true)⟩
  · cases hf
end
end Fi

namespace Fi
open PySem PySem.Spec PyProof.Rows L2
/-- statements that change no slot outside W -/
def FinF (K : PySem.W.Frag) (Z : Hp × Hp) (Hf : Hp) (σ : L2.St) (W : List Nat) (D : Ends) : Out → Prop
  | .next e => ∀ σ' H' Hf', Same Hf Hf' → Rel K Z Hf' H' e σ' → (∀ i : Nat, i ∉ W → σ'[i]? = σ[i]?) → D.nx σ' H'
  | .ret d => ∀ v H' Hf', Stp Z.1 Z.2 Hf' H' → Dp K Hf' v d → D.rt v H'
  | _ => False
theorem FinF.up {K : PySem.W.Frag} {Z : Hp × Hp} {Hf Hf' : Hp} {σ τ : L2.St} {W : List Nat} {D : Ends} (e : Same Hf Hf') (hs : ∀ i : Nat, i ∉ W → τ[i]? = σ[i]?) : ∀ {o : Out}, FinF K Z Hf σ W D o → FinF K Z Hf' τ W D o
  | .next _, h => fun σ' H' Hg s R q => h σ' H' Hg (e.trans s) R fun i hi => (q i hi).trans (hs i hi)
  | .ret _, h => h
  | .brk _, h => h
  | .cont _, h => h
  | .retL _, h => h
def tSf (K : PySem.W.Frag) (W : List Nat) (f : FS) : TS := fun D σ H => ∃ (Z : Hp × Hp) (Hf : Hp) (env : En) (o : Out), Rel K Z Hf H env σ ∧ f env = some o ∧ FinF K Z Hf σ W D o
section
variable {X : Cx} {W : List Nat} {st : Stmt} {rest : List Stmt} {e : Expr} {pos : Pos} {f g : FS} {h : FE} {p : FT}
theorem sf_nil : PSs X [] (tSf X.K W sNext) := pss_le pss_nil fun D σ H ⟨Z, Hf, env, o, R, hf, k⟩ => by
  cases hf
  exact k σ H Hf (Same.refl _) R fun _ _ => rfl
theorem sf_cons (h1 : PS X st (tSf X.K W f)) (h2 : PSs X rest (tSf X.K W g)) : PSs X (st :: rest) (tSf X.K W (sSeq f g)) := pss_le (pss_cons h1 h2) fun D σ H ⟨Z, Hf, env, o, R, hf, k⟩ => by
  unfold sSeq at hf
  cases q : f env with
  | none =>
    rw [q] at hf
    cases hf
  | some o1 =>
    rw [q] at hf
    cases o1 with
    | next e1 => exact ⟨Z, Hf, env, .next e1, R, q, fun σ' H' Hf' s1 R' hs => ⟨Z, Hf', e1, o, R', hf, k.up s1 hs⟩⟩
    | brk e1 =>
      cases hf
      exact k.elim
    | cont e1 =>
      cases hf
      exact k.elim
    | ret d =>
      cases hf
      exact ⟨Z, Hf, env, .ret d, R, q, k⟩
    | retL d =>
      cases hf
      exact k.elim
theorem sf_one (h1 : PS X st (tSf X.K W f)) : PSs X [st] (tSf X.K W f) := pss_one h1
theorem sf_set (i : Nat) {x : Str} {pos' : Pos} (hN : X.N.Nodup) (he : PE X e (tE X.K h)) (hW : i ∈ W := by decide) (hi : X.N[i]? = some x := by rfl) (hx : Loc X.env.scope x := by first | exact Or.inl rfl | exact Or.inr rfl) (hs : swapsWith e (some (.Name x pos')) pos.line X.env = pure false := by rfl) (hf : X.fn x = true ∨ X.env.scope.names.lookup x = some .local := by first | exact .inl rfl | exact .inr rfl | assumption) :
    PS X (.Assign [.Name x pos'] e pos) (tSf X.K W (sSet i h)) := ps_le (ps_set hN hi hx he hs hf) fun D σ H ⟨Z, Hf, env, o, R, hf, k⟩ => by
  obtain ⟨d, hd, rfl⟩ := Option.map_eq_some_iff.mp hf
  refine ⟨Z, Hf, env, d, R, hd, fun v H1 Hf1 s1 d1 => k _ H1 Hf1 s1.f ((R.step s1).set i d1) fun j hj => ?_⟩
  rw [List.getElem?_set_ne (fun q => hj (by rw [← q]; exact hW))]
theorem sf_if {c : Expr} {a b : List Stmt} (hc : PT X c (tT X.K p)) (ha : PSs X a (tSf X.K W f)) (hb : PSs X b (tSf X.K W g)) : PS X (.If c a b pos) (tSf X.K W (sIf p f g)) := ps_le (ps_if hc ha hb) fun D σ H ⟨Z, Hf, env, o, R, hf, k⟩ => by
  unfold sIf at hf
  split at hf
  · rename_i hp
    exact ⟨Z, Hf, env, true, R, hp, fun H1 Hf1 s1 => iteT ⟨Z, Hf1, env, o, R.step s1, hf, k.up s1.f fun _ _ => rfl⟩⟩
  · rename_i hp
    exact ⟨Z, Hf, env, false, R, hp, fun H1 Hf1 s1 => iteF ⟨Z, Hf1, env, o, R.step s1, hf, k.up s1.f fun _ _ => rfl⟩⟩
  · cases hf
theorem sf_ret (he : PE X e (tE X.K h)) : PS X (.Return (some e) pos) (tSf X.K W (sRet h)) := ps_le (ps_ret he) fun D σ H ⟨Z, Hf, env, o, R, hf, k⟩ => by
  obtain ⟨d, hd, rfl⟩ := Option.map_eq_some_iff.mp hf
  exact ⟨Z, Hf, env, d, R, hd, fun v H1 Hf1 s1 d1 => k v H1 Hf1 (R.st.trans s1) d1⟩
end
theorem Rel.reown {K : PySem.W.Frag} {Z : Hp × Hp} {Hf H : Hp} {e : En} {σ : L2.St} {i : Nat} {p : Addr} {vs : List V} {l : List PyData} (R : Rel K Z Hf H e σ) (hs : σ[i]? = some (some (.ref p))) (hn : NoOwn e σ p) (hz : Z.2 p = none) (hf : Hf p = none) (hp : H p = some (.lst vs)) (hd : DpAll K Hf vs l) :
    Rel K Z Hf H (e.set i (some (.own l))) σ := by
  refine ⟨R.st, by rw [List.length_set, R.len], fun j s q => ?_, fun j k x y r ej ek hj hk => ?_⟩
  · rcases set_cases q with ⟨rfl, z⟩ | ⟨_, z⟩
    · cases z
      exact ⟨.ref p, hs, p, vs, rfl, hz, hf, hp, hd⟩
    · exact R.sl j s z
  · rcases set_cases ej with ⟨rfl, z⟩ | ⟨n1, z⟩
    · rcases set_cases ek with ⟨rfl, z2⟩ | ⟨n2, z2⟩
      · rfl
      · rw [hs] at hj
        cases hj
        exact absurd hk (hn k y z2)
    · rcases set_cases ek with ⟨rfl, z2⟩ | ⟨n2, z2⟩
      · rw [hs] at hk
        cases hk
        exact absurd hj (hn j x z)
      · exact R.ds j k x y r z z2 hj hk
def forF (g : PyData → En → Option En) (fb : FS) : List PyData → FS
  | [], env => some (.next env)
  | d :: ds, env => (g d env).bind fun e1 => match fb e1 with
    | some (.next e) => forF g fb ds e
    | some (.ret d) => some (.ret d)
    | _ => none
theorem forF_inv {g : PyData → En → Option En} {fb : FS} (P : Nat → En → Prop) : ∀ (ds : List PyData) (k : Nat) (env : En), P k env →
    (∀ (i : Nat) (d : PyData) (e : En), ds[i]? = some d → P (k + i) e → ∃ e1 e2, g d e = some e1 ∧ fb e1 = some (.next e2) ∧ P (k + i + 1) e2) → ∃ e, forF g fb ds env = some (.next e) ∧ P (k + ds.length) e
  | [], k, env, h, _ => ⟨env, rfl, h⟩
  | d :: ds, k, env, h, hs => by
    obtain ⟨e1, e2, h1, h2, h3⟩ := hs 0 d env rfl h
    obtain ⟨e, q1, q2⟩ := forF_inv P ds (k + 1) e2 h3 fun i d' e hd hp => by
      have e0 : k + 1 + i = k + (i + 1) := by omega
      rw [e0] at hp ⊢
      exact hs (i + 1) d' e (by simpa using hd) hp
    refine ⟨e, by simp only [forF, h1, h2, Option.bind_some, q1], ?_⟩
    have e0 : k + (d :: ds).length = k + 1 + ds.length := by rw [List.length_cons]; omega
    rw [e0]
    exact q2
theorem Stp.unlock {A B C E : Hp} {p : Addr} {o : HO} (s : Stp A (upd B p o) C E) (hz : B p = none) : Stp A B C E :=
  ⟨s.f, s.i, fun b x e => s.h b x (by rw [upd_ne (ne_of_none e hz)]; exact e), fun b x e q => s.n b x (by rw [upd_ne (ne_of_none e hz)]; exact e) q⟩
def sForOE (i : Nat) (g : PyData → En → Option En) (fb : FS) : FS := fun env => match env[i]? with
  | some (some (.own l)) => match forF g fb (enumD l) (env.set i none) with
    | some (.next e) => some (.next (e.set i (some (.own l))))
    | some (.ret d) => some (.ret d)
    | _ => none
  | _ => none
theorem s_forOE (i : Nat) {X : Cx} {W sl : List Nat} {x : Str} {p1 p2 p3 pos tpos : Pos} {elts : List Expr} {kk : Nat} {g : PyData → En → Option En} {fb : FS} {body : List Stmt} (hp : PassesOwn (model X.prog X.w) X.A X.env X.xe) (hc : X.calm = true) (hg : Gl X "enumerate") (hm : X.mg "enumerate" = none)
    (htg : PG X (.Tuple elts kk tpos) (tG X.K false sl g)) (hb : PSs X body (tSf X.K W fb)) (hW : i ∉ W := by decide) (hsl : ∀ j ∈ sl, j ∈ W := by decide) (hN : X.N[i]? = some x := by rfl) (hv : Vis X.env.scope x := by first | exact Or.inl rfl | exact Or.inr (Or.inl rfl) | exact Or.inr (Or.inr rfl)) (hd : (x == ("__debug__" : Str)) = false := by decide)
    (hcd : (x == ("__classdict__" : Str)) = false := by decide) (hst : starEach [.Name x p1] X.env = [(false, eval (.Name x p1) X.env)] := by rfl)
    (hs : ∀ y, foldedSetIterable (.Call (.Name "enumerate" p2) [.Name x p1] [] p3) X.env y = pure y := by intro _; rfl) : PS X (.For (.Tuple elts kk tpos) (.Call (.Name "enumerate" p2) [.Name x p1] [] p3) body [] pos) (tS X.K (sForOE i g fb)) := by
  have ha : PA X [.Name x p1] (tCons (tVar i) tNil) := pa_cons (pe_var hN hv hd hcd) pa_nil (by rw [hst]; rfl)
  refine ps_le (ps_for hp hc (pi_enumK .l hg hm ha hst) htg hb hs) fun D σ H ⟨Z, Hf, env, o, R, hf, k⟩ => ?_
  unfold sForOE at hf
  split at hf
  · rename_i l hl
    obtain ⟨v, hsi, p, vs, rfl, hz, hfp, hpp, hda⟩ := R.sl i _ hl
    have hno : NoOwn (env.set i none) σ p := fun j y e q => by
      rcases set_cases e with ⟨_, z⟩ | ⟨hn, z⟩
      · cases z
      · exact hn (R.ds i j l y p hl z hsi q)
    have hR0 : Rel X.K Z Hf H (env.set i none) σ := by
      have := R.drop i (some (.ref p))
      have e : σ.set i (some (V.ref p)) = σ := by
        apply List.ext_getElem?
        intro j
        by_cases h : i = j
        · subst h
          rw [List.getElem?_set_self (List.getElem?_eq_some_iff.mp hsi).1, hsi]
        · rw [List.getElem?_set_ne h]
      rw [e] at this
      exact this
    have R0 := hR0.lock hfp hpp hno
    obtain ⟨o', ho'⟩ : ∃ o', forF g fb (enumD l) (env.set i none) = some o' := by
      cases q : forF g fb (enumD l) (env.set i none) with
      | none =>
        rw [q] at hf
        cases hf
      | some o' => exact ⟨o', rfl⟩
    rw [ho'] at hf
    refine ⟨.ref p, hsi, p, vs, rfl, .inl (.inl hpp), ?_⟩
    have hlen : (enumD l).length = vs.length := by
      unfold enumD
      rw [List.length_zipWith, List.length_range, hda.len, Nat.min_self]
    have w := walk_enumK (K := X.K) (k := .l) (a := p) (xs := vs)
    refine for_it w (fun j σ' H' => ∃ (Hf' : Hp) (env' : En), Same Hf Hf' ∧ Rel X.K (Z.1, upd Z.2 p (.lst vs)) Hf' H' env' σ' ∧ σ'[i]? = some (some (.ref p)) ∧ forF g fb ((enumD l).drop j) env' = some o') ⟨Hf, _, Same.refl _, R0, hsi, ho'⟩ (fun j σ' H' _ ⟨Hf', env', a, R', _⟩ => ?_) (fun j y σ' H' H2 hj ⟨Hf', env', a, R', hi', q⟩ yy => ?_) fun σ' H' ⟨Hf', env', a, R', hi', q⟩ => ?_
    · have : H' p = some (.lst vs) := R'.st.h p _ (by show upd Z.2 p (.lst vs) p = _; exact upd_same)
      exact .inl (.inl this)
    · obtain ⟨d, hd, hdr⟩ := drop_get (l := enumD l) (i := j) (by rw [hlen]; exact hj)
      rw [hdr] at q
      obtain ⟨e1, hg1, q'⟩ := Option_bind_some q
      clear q
      obtain ⟨T, a1, a2, rfl, hT, rfl, h4, h5⟩ := yy
      have e4 : V.int (j : Nat) = a1 := Option.some.inj h4
      subst e4
      obtain ⟨dy, h6, h7⟩ := hda.get h5
      have hjl : j < l.length := (List.getElem?_eq_some_iff.mp h6).1
      have ed : d = .tuple [.int (j : Int), dy] := by
        unfold enumD at hd
        rw [List.getElem?_zipWith, List.getElem?_range hjl, h6] at hd
        exact (Option.some.inj hd).symm
      subst ed
      have st2 := Stp.new (o := .tup [V.int (j : Nat), a2]) R'.st.i hT
      have hx : Dp X.K (upd Hf' T (.tup [V.int (j : Nat), a2])) (.ref T) (.tuple [.int (j : Int), dy]) := .tup (SqT.of upd_same) (.cons (.int _) (.cons (Dp_up (a.trans st2.f) h7) .nil))
      refine ⟨_, _, env', _, e1, R'.step st2, hx, hg1, fun σ3 H3 Hf3 s3 R3 pt _ _ => ?_⟩
      have up : Same Hf Hf3 := a.trans (st2.f.trans s3)
      have hi3 : σ3[i]? = some (some (.ref p)) := by rw [pt i fun z => hW (hsl i z)]; exact hi'
      cases hb1 : fb e1 with
      | none =>
        rw [hb1] at q'
        cases q'
      | some o1 =>
        rw [hb1] at q'
        refine ⟨_, Hf3, e1, o1, R3, hb1, ?_⟩
        cases o1 with
        | next e2 => exact fun σ4 H4 Hf4 s4 R4 hs4 => ⟨Hf4, e2, up.trans s4, R4, by rw [hs4 i hW]; exact hi3, q'⟩
        | cont e2 => cases q'
        | brk e2 => cases q'
        | ret d =>
          cases q'
          cases hf
          exact fun v H' Hf' st dd => k v H' Hf' (Stp.unlock st hz) dd
        | retL d => cases q'
    · rw [List.drop_of_length_le (by rw [hlen]; exact Nat.le_refl _)] at q
      cases q
      cases hf
      obtain ⟨R2, hno2⟩ := Rel.unlock (Z := Z) R' hz
      have hH : H' p = some (.lst vs) := R'.st.h p _ (by show upd Z.2 p (.lst vs) p = _; exact upd_same)
      have hF : Hf' p = none := R'.st.n p (.lst vs) (by show upd Z.2 p (.lst vs) p = _; exact upd_same) (by show Z.1 p = none; exact R.st.f.free hfp)
      exact k σ' H' Hf' a (R2.reown hi' hno2 hz hF hH (DpAll_up a hda))
  · cases hf
def sPar3 (i j k : Nat) (r : FL) : FS := fun env => match r env with
  | some [x, y, z] => some (.next (((env.set i (some (.val x))).set j (some (.val y))).set k (some (.val z))))
  | _ => none
section
variable {X : Cx} {e : Expr} {pos : Pos} {g : FE} {l : FL}
theorem s_par3 (i j k : Nat) {x y z : Str} {a b c : Expr} {px py pz pt : Pos} {kt k2 pt2} (hc : X.calm = true) (hN : X.N.Nodup) (ha : PA X [a, b, c] (tA X.K l)) (hi : X.N[i]? = some x := by rfl) (hj : X.N[j]? = some y := by rfl) (hk : X.N[k]? = some z := by rfl) (hij : i ≠ j := by decide) (hik : i ≠ k := by decide) (hjk : j ≠ k := by decide)
    (hx : X.env.scope.names.lookup x = some .local := by rfl) (hy : X.env.scope.names.lookup y = some .local := by rfl) (hz : X.env.scope.names.lookup z = some .local := by rfl) (hw : swappedStores [.Tuple [.Name x px, .Name y py, .Name z pz] kt pt] (.Tuple [a, b, c] k2 pt2) X.env = pure (some [x, y, z]) := by rfl)
    (hs : swapsWithSole [.Tuple [.Name x px, .Name y py, .Name z pz] kt pt] (.Tuple [a, b, c] k2 pt2) pos.line X.env = pure false := by rfl) :
    PS X (.Assign [.Tuple [.Name x px, .Name y py, .Name z pz] kt pt] (.Tuple [a, b, c] k2 pt2) pos) (tS X.K (sPar3 i j k l)) := ps_le (ps_par3 hc hN hi hj hk hij hik hjk hx hy hz ha hw hs) fun D σ H ⟨Z, Hf, env, o, R, hf, kk⟩ => by
  unfold sPar3 at hf
  split at hf
  · rename_i u v w hl
    cases hf
    refine ⟨Z, Hf, env, _, R, hl, fun vs H1 Hf1 s1 d1 => ?_⟩
    obtain ⟨w1, w2, w3, rfl, e1, e2, e3⟩ := DpAll_three d1
    exact ⟨w1, w2, w3, rfl, kk _ H1 Hf1 s1.f ((((R.step s1).set i e1).set j e2).set k e3)⟩
  · cases hf
theorem t_ownNe (i : Nat) {x : Str} {p : Pos} (hu : X.A.units + 64 < cLine) (hb : PE X e (tE X.K g)) (hN : X.N[i]? = some x := by rfl) (hv : Vis X.env.scope x := by first | exact Or.inl rfl | exact Or.inr (Or.inl rfl) | exact Or.inr (Or.inr rfl)) (hd : (x == ("__debug__" : Str)) = false := by decide)
    (hcd : (x == ("__classdict__" : Str)) = false := by decide) : PT X (.Compare (.Name x p) [.NotEq] [e] pos) (tT X.K (asB (ownNe i g))) := pt_le (pt_cmpR (op_neD hu) (pe_var hN hv hd hcd) hb (nomark _)) fun σ H Q ⟨Z, Hf, env, d, R, hf, k⟩ => by
  have hf := asB_some hf
  unfold ownNe at hf
  split at hf
  · rename_i l hl
    obtain ⟨y, hy, hf⟩ := Option_bind_some hf
    split at hf
    · rename_i hc
      cases hf
      obtain ⟨w, hs, p, vs, rfl, hz, hfp, hp, ha⟩ := R.sl i _ hl
      refine ⟨.ref p, hs, Z, Hf, env, _, R, hy, fun v H1 Hf1 s1 d1 => ?_⟩
      exact ⟨_, _, .lst (SqL.of (s1.h p _ hp)) (DpAll_up (s1.f.trans s1.i) ha), Dp_up s1.i d1, hc.1, hc.2, _, rfl, k _ _ s1⟩
    · cases hf
  · cases hf
theorem t_ownIn (i : Nat) {x : Str} {p : Pos} (hu : X.A.units + 65 < cLine) (hb : PE X e (tE X.K g)) (hm : behindInMarks .In (.Name x p) = false) (hN : X.N[i]? = some x := by rfl) (hv : Vis X.env.scope x := by first | exact Or.inl rfl | exact Or.inr (Or.inl rfl) | exact Or.inr (Or.inr rfl)) (hd : (x == ("__debug__" : Str)) = false := by decide)
    (hcd : (x == ("__classdict__" : Str)) = false := by decide) : PT X (.Compare e [.In] [.Name x p] pos) (tT X.K (asB (ownIn i g))) := pt_le (pt_cmpR (op_inD hu) hb (pe_var hN hv hd hcd) hm) fun σ H Q ⟨Z, Hf, env, d, R, hf, k⟩ => by
  have hf := asB_some hf
  unfold ownIn at hf
  split at hf
  · rename_i l hl
    obtain ⟨y, hy, hf⟩ := Option_bind_some hf
    split at hf
    · rename_i hc
      cases hf
      refine ⟨Z, Hf, env, _, R, hy, fun v H1 Hf1 s1 d1 => ?_⟩
      obtain ⟨w, hs, p, vs, rfl, hz, hfp, hp, ha⟩ := (R.step s1).sl i _ hl
      exact ⟨.ref p, hs, _, _, Dp_up s1.i d1, .lst (SqL.of hp) (DpAll_up s1.i ha), hc.1, hc.2, _, rfl, k _ _ s1⟩
    · cases hf
  · cases hf
end
end Fi

namespace Fi
open PySem PySem.Spec PyProof.Rows L2
section
variable {prog : Program} {w : World} {A : Around} {E : Value → Shared → Prop} {s : Shared} {z TI TO i1 i2 : Addr} {fp1 fp2 : List Addr} {n1 n2 i : Nat} {P1 P2 : Nat → Value → Prop} {St1 St2 : Nat → Heap → Prop}
/-- the next of a zip whose last tuple is still held -/
theorem zh_item {T : Addr} {f : Bool} {oT : Obj} {Q : Option Value → Shared → Prop} (S : ZipSep2 z TI TO i1 i2 fp1 fp2) (D1 : Draws prog w A.in1 i1 fp1 n1 P1 St1) (D2 : Draws prog w A.in1 i2 fp2 n2 P2 St2)
    (hz : IsZipHeld s.heap z TI TO T f) (hT : s.heap.get? T = some oT) (hTI : IsTupOf2 s.heap TI (.ref i1) (.ref i2)) (st1 : St1 i s.heap) (st2 : St2 i s.heap) (hlt1 : i < n1) (hlt2 : i < n2)
    (hQ : ∀ x1 x2 h' tk, P1 i x1 → P2 i x2 → IsZipHeld h' z TI TO T true → St1 (i + 1) h' → St2 (i + 1) h' → IsTupOf2 h' s.heap.objs.size x1 x2 → h'.objs.size = s.heap.objs.size + 1 →
      (∀ c o, c ≠ z → c ≠ i1 → c ≠ i2 → s.heap.get? c = some o → h'.get? c = some o) → Q (some (.ref s.heap.objs.size)) { s with heap := h', toks := tk }) :
    wpAny (model prog w) A (pyNext (.ref z)) Q E s := by
  have hTy : s.TypeIs (.ref z) "zip" := ⟨_, hz, rfl⟩
  unfold pyNext
  refine wpAny_bind (wpAny_attempt (wpAny_callSpecial?_slot (name := Str.ofString "__next__") hTy F.slot_zip_next (wpAny_call_entry F.slot_zip_next hTy F.entry_zip_next ?_ (F.args_zip_next_1 _))))
  obtain ⟨hp, g, d, tk0, os⟩ := s
  show wpAny _ _ (field (.ref z) 2 >>= _) _ _ _
  refine wpAny_bind (wpAny_field hz rfl (x := .bool false) rfl ?_)
  show wpAny _ _ (field (.ref z) 3 >>= _) _ _ _
  refine wpAny_bind (wpAny_field hz rfl (x := .ref TI) rfl (wpAny_bind (wpAny_seqItems hTI rfl ?_)))
  show wpAny _ _ (Builtin.SmallTypes.ownedTupleIsFree (.ref z) >>= _) _ _ _
  refine wpAny_bind (wpAny_tupleHeld_zip hz hT fun g0 hz0 hs0 => ?_)
  replace hs0 : Heap.SameBut z hp g0 := hs0
  simp only [Bool.false_eq_true, if_false]
  refine wpAny_bind ?_
  rw [← Array.forIn_toList]
  simp only [List.forIn_cons, List.forIn_nil]
  refine wpAny_bind (wpAny_bind (wpAny_holding ?_))
  show wpAny _ _ (Builtin.SmallTypes.nextOf (.ref i1) >>= _) _ _ ⟨g0, g, d, tk0, os⟩
  refine wpAny_bind (D1.item i _ _ _ hlt1 (D1.over st1 hs0 S.zf1) fun x1 p1 tk1 hx1 sn1 hp1 => wpAny_pure (wpAny_pure ?_))
  replace hp1 : Heap.SameBut i1 g0 p1 := hp1
  refine wpAny_bind (wpAny_bind (wpAny_holding ?_))
  show wpAny _ _ (Builtin.SmallTypes.nextOf (.ref i2) >>= _) _ _ ⟨p1, g, d, tk1, os⟩
  refine wpAny_bind (D2.item i _ _ _ hlt2 (D2.over (D2.over st2 hs0 S.zf2) hp1 S.sep1_2) fun x2 p2 tk2 hx2 sn2 hp2 => wpAny_pure (wpAny_pure (wpAny_pure ?_)))
  replace hp2 : Heap.SameBut i2 p1 p2 := hp2
  show wpAny _ _ (newTuple [x1, x2] >>= _) _ _ ⟨p2, g, d, tk2, os⟩
  refine wpAny_bind (wpAny_newTuple ?_)
  have hsz : p2.objs.size = hp.objs.size := by rw [hp2.1, hp1.1, hs0.1]
  have hzz : IsZipHeld p2 z TI TO T true := hp2.extBut _ _ S.zi2 (hp1.extBut _ _ S.zi1 hz0)
  refine wpAny_pure ⟨_, rfl, wpAny_pure ?_⟩
  show Q (some (.ref p2.objs.size)) _
  have hpair : IsTupOf2 (p2.push { cls := .type "tuple", data := .seq #[x1, x2] }) p2.objs.size x1 x2 := Heap.get?_push_size _ rfl
  have hsz2 : (p2.push { cls := .type "tuple", data := .seq #[x1, x2] }).objs.size = p2.objs.size + 1 := Heap.size_push ..
  rw [hsz] at hpair hsz2 ⊢
  exact hQ x1 x2 _ tk2 hx1 hx2 (Heap.get?_push_of_some _ hzz) (D1.frame _ _ _ (D1.over sn1 hp2 S.sep2_1) fun b _ o e => Heap.get?_push_of_some _ e) (D2.frame _ _ _ sn2 fun b _ o e => Heap.get?_push_of_some _ e) hpair hsz2
    fun c o c1 c2 c3 e => Heap.get?_push_of_some _ (hp2.extBut _ _ c3 (hp1.extBut _ _ c2 (hs0.extBut _ _ c1 e)))
theorem zh_done {T : Addr} {f : Bool} {oT : Obj} {Q : Option Value → Shared → Prop} (S : ZipSep2 z TI TO i1 i2 fp1 fp2) (D1 : Draws prog w A.in1 i1 fp1 n1 P1 St1) (D2 : Draws prog w A.in1 i2 fp2 n2 P2 St2)
    (hz : IsZipHeld s.heap z TI TO T f) (hT : s.heap.get? T = some oT) (hTI : IsTupOf2 s.heap TI (.ref i1) (.ref i2)) (st1 : St1 i s.heap) (st2 : St2 i s.heap) (hle1 : i ≤ n1) (hle2 : i ≤ n2) (hend : i = n1 ∨ i = n2)
    (hQ : ∀ h' tk, (∀ c o, c ≠ z → c ≠ i1 → c ≠ i2 → s.heap.get? c = some o → h'.get? c = some o) → Q none { s with heap := h', toks := tk }) :
    wpAny (model prog w) A (pyNext (.ref z)) Q E s := by
  have hTy : s.TypeIs (.ref z) "zip" := ⟨_, hz, rfl⟩
  unfold pyNext
  refine wpAny_bind (wpAny_attempt (wpAny_callSpecial?_slot (name := Str.ofString "__next__") hTy F.slot_zip_next (wpAny_call_entry F.slot_zip_next hTy F.entry_zip_next ?_ (F.args_zip_next_1 _))))
  obtain ⟨hp, g, d, tk0, os⟩ := s
  show wpAny _ _ (field (.ref z) 2 >>= _) _ _ _
  refine wpAny_bind (wpAny_field hz rfl (x := .bool false) rfl ?_)
  show wpAny _ _ (field (.ref z) 3 >>= _) _ _ _
  refine wpAny_bind (wpAny_field hz rfl (x := .ref TI) rfl (wpAny_bind (wpAny_seqItems hTI rfl ?_)))
  show wpAny _ _ (Builtin.SmallTypes.ownedTupleIsFree (.ref z) >>= _) _ _ _
  refine wpAny_bind (wpAny_tupleHeld_zip hz hT fun g0 hz0 hs0 => ?_)
  replace hs0 : Heap.SameBut z hp g0 := hs0
  simp only [Bool.false_eq_true, if_false]
  refine wpAny_bind ?_
  rw [← Array.forIn_toList]
  simp only [List.forIn_cons, List.forIn_nil]
  refine wpAny_bind (wpAny_bind (wpAny_holding ?_))
  show wpAny _ _ (Builtin.SmallTypes.nextOf (.ref i1) >>= _) _ _ ⟨g0, g, d, tk0, os⟩
  by_cases hlt1 : i < n1
  · refine wpAny_bind (D1.item i _ _ _ hlt1 (D1.over st1 hs0 S.zf1) fun x1 p1 tk1 hx1 sn1 hp1 => wpAny_pure (wpAny_pure ?_))
    replace hp1 : Heap.SameBut i1 g0 p1 := hp1
    have hi2 : i = n2 := by omega
    refine wpAny_bind (wpAny_bind (wpAny_holding ?_))
    show wpAny _ _ (Builtin.SmallTypes.nextOf (.ref i2) >>= _) _ _ ⟨p1, g, d, tk1, os⟩
    refine wpAny_bind (D2.done ⟨p1, g, d, tk1, os⟩ _ _ (by rw [← hi2]; exact D2.over (D2.over st2 hs0 S.zf2) hp1 S.sep1_2) fun q e hq he => ?_)
    replace hq : Heap.ExtBut i2 p1 q := hq
    obtain ⟨o, ho, hce⟩ := he
    refine wpAny_bind (wpAny_isInstance (T := "StopIteration") (b := true) ⟨o, ho, hce⟩ isSubtype_stop ?_)
    exact wpAny_pure (hQ q tk1 fun c o c1 c2 c3 x => hq _ _ c3 (hp1.extBut _ _ c2 (hs0.extBut _ _ c1 x)))
  · have hi1 : i = n1 := by omega
    refine wpAny_bind (D1.done ⟨g0, g, d, tk0, os⟩ _ _ (by rw [← hi1]; exact D1.over st1 hs0 S.zf1) fun q e hq he => ?_)
    replace hq : Heap.ExtBut i1 g0 q := hq
    obtain ⟨o, ho, hce⟩ := he
    refine wpAny_bind (wpAny_isInstance (T := "StopIteration") (b := true) ⟨o, ho, hce⟩ isSubtype_stop ?_)
    exact wpAny_pure (hQ q tk0 fun c o c1 c2 c3 x => hq _ _ c2 (hs0.extBut _ _ c1 x))
end
/-- a zip at its turn i, L the list that is filled -/
def ZS (k1 k2 : Kd) (a b z TI TO i1 i2 L : Addr) (i : Nat) (h : Heap) : Prop :=
  (IsZip h z TI TO .none ∨ ∃ T f oT, IsZipHeld h z TI TO T f ∧ h.get? T = some oT ∧ T ≠ z ∧ T ≠ i1 ∧ T ≠ i2 ∧ T ≠ L) ∧ (∃ x y, IsTupOf2 h TO x y) ∧ IsTupOf2 h TI (.ref i1) (.ref i2) ∧ ItK k1 h i1 a i ∧ ItK k2 h i2 b i
theorem ZS.keep {k1 k2 : Kd} {a b z TI TO i1 i2 L : Addr} {i : Nat} {h h' : Heap} (x : ZS k1 k2 a b z TI TO i1 i2 L i h) (hn : z ≠ L ∧ TI ≠ L ∧ TO ≠ L ∧ i1 ≠ L ∧ i2 ≠ L) (k : ∀ c o, c ≠ L → h.get? c = some o → h'.get? c = some o) : ZS k1 k2 a b z TI TO i1 i2 L i h' := by
  obtain ⟨n1, n2, n3, n4, n5⟩ := hn
  obtain ⟨x1, ⟨u, v, y2⟩, x2, x3, x4⟩ := x
  refine ⟨?_, ⟨u, v, k _ _ n3 y2⟩, k _ _ n2 x2, itK_at x3 fun o q => k _ _ n4 q, itK_at x4 fun o q => k _ _ n5 q⟩
  rcases x1 with y1 | ⟨T, f, oT, y1, y2, y3, y4, y5, y6⟩
  · exact .inl (k _ _ n1 y1)
  · exact .inr ⟨T, f, oT, k _ _ n1 y1, k _ _ y6 y2, y3, y4, y5, y6⟩
section
variable {X : Cx} {pins : List (Addr × Obj)} {σ : L2.St} {a b z TI TO i1 i2 L : Addr} {k1 k2 : Kd}
/-- the list's loop over a zip -/
theorem lz_loop {A : Around} {R : Result → Shared → Prop} (hh : A.handled = none) (D : ZipSep2 z TI TO i1 i2 [i1, a] [i2, b]) (hn : z ≠ L ∧ TI ≠ L ∧ TO ≠ L ∧ i1 ≠ L ∧ i2 ≠ L) {xs ys : List V} {H0 : Hp} (hsz : min xs.length ys.length ≤ 100000) (res : Value) (hL0 : H0 L = none) (hqx : SqK X.K k1 H0 a xs) (hqy : SqK X.K k2 H0 b ys)
    (hR : ∀ H s vs, Inv X pins σ H s → (∀ c o, H0 c = some o → H c = some o) → H L = some (.lst vs) → vs.length = min xs.length ys.length → (∀ (j : Nat) (v : V), vs[j]? = some v → ∃ T x y, v = .ref T ∧ H0 T = none ∧ T ≠ L ∧ H T = some (.tup [x, y]) ∧ xs[j]? = some x ∧ ys[j]? = some y) → R (.ok (.ret res)) s) :
    ∀ (k i : Nat) (H : Hp) (s : Shared) (vs : List V), min xs.length ys.length - i = k → i ≤ min xs.length ys.length → Inv X pins σ H s → (∀ c o, H0 c = some o → H c = some o) → H L = some (.lst vs) → vs.length = i →
      (∀ (j : Nat) (v : V), vs[j]? = some v → ∃ T x y, v = .ref T ∧ H0 T = none ∧ T ≠ L ∧ H T = some (.tup [x, y]) ∧ xs[j]? = some x ∧ ys[j]? = some y) → ZS k1 k2 a b z TI TO i1 i2 L i s.heap → (∀ c ∈ [z, TI, TO, i1, i2], FpOk X pins H c) →
      codeAny (model X.prog X.w) A (.builtin "list.extend.loop" ⟨[.ref L, .ref z, res], []⟩) R s := by
  intro k
  induction k with
  | zero =>
    intro i H s vs hk hi I up hL hvl hvs st hf
    refine codeAny_builtin PySem.F.entry_extend_loop ?_
    rw [Around.under_plainId PySem.F.plain_extend_loop _]
    show wpAny _ A.in1 (pyNext (.ref z) >>= _) _ _ _
    obtain ⟨x1, ⟨u0, v0, y0⟩, x2, x3, x4⟩ := st
    have same : Same H0 H := up
    obtain ⟨its, rv, p⟩ := hasK_of I (sqK_up same hqx)
    obtain ⟨its2, rv2, p2⟩ := hasK_of I (sqK_up same hqy)
    have l1 := rv.length
    have l2 := rv2.length
    have d1 := drawsK k1 (prog := X.prog) (w := X.w) (A := A.in1.in1) hh i1 a (itK_ne x3 p) its.toArray
    have d2 := drawsK k2 (prog := X.prog) (w := X.w) (A := A.in1.in1) hh i2 b (itK_ne x4 p2) its2.toArray
    have fin : ∀ h' tk, (∀ c o, c ≠ z → c ≠ TO → c ≠ i1 → c ≠ i2 → s.heap.get? c = some o → h'.get? c = some o) → R (.ok (.ret res)) { s with heap := h', toks := tk } := fun h' tk hk =>
      hR H _ vs (I.turnedL (t' := tk) (ch := [z, TI, TO, i1, i2]) (fun c o hb q => hk c o (fun q' => hb (by simp [q'])) (fun q' => hb (by simp [q'])) (fun q' => hb (by simp [q'])) (fun q' => hb (by simp [q'])) q) hf) up hL (by omega) hvs
    rcases x1 with y1 | ⟨T, f, oT, y1, y2, y3, y4, y5, y6⟩
    · exact wpAny_bind (wpAny_pyNext_zipD2_end D d1 d2 y1 x2 y0 ⟨x3, p⟩ ⟨x4, p2⟩ (by rw [List.size_toArray]; omega) (by rw [List.size_toArray]; omega) (by rw [List.size_toArray, List.size_toArray]; omega) fun h' tk hk => wpAny_pure (fin h' tk hk))
    · exact wpAny_bind (zh_done D d1 d2 y1 y2 x2 ⟨x3, p⟩ ⟨x4, p2⟩ (by rw [List.size_toArray]; omega) (by rw [List.size_toArray]; omega) (by rw [List.size_toArray, List.size_toArray]; omega) fun h' tk hk => wpAny_pure (fin h' tk fun c o c1 _ c3 c4 e => hk c o c1 c3 c4 e))
  | succ k ih =>
    intro i H s vs hk hi I up hL hvl hvs st hf
    refine codeAny_builtin PySem.F.entry_extend_loop ?_
    rw [Around.under_plainId PySem.F.plain_extend_loop _]
    show wpAny _ A.in1 (pyNext (.ref z) >>= _) _ _ _
    obtain ⟨x1, ⟨u0, v0, y0⟩, x2, x3, x4⟩ := st
    have same : Same H0 H := up
    obtain ⟨its, rv, p⟩ := hasK_of I (sqK_up same hqx)
    obtain ⟨its2, rv2, p2⟩ := hasK_of I (sqK_up same hqy)
    have l1 := rv.length
    have l2 := rv2.length
    have hx : xs[i]? = some xs[i] := List.getElem?_eq_getElem (by omega)
    have hy : ys[i]? = some ys[i] := List.getElem?_eq_getElem (by omega)
    obtain ⟨u, hu, ru⟩ := rv.get hx
    obtain ⟨u2, hu2, ru2⟩ := rv2.get hy
    have d1 := drawsK k1 (prog := X.prog) (w := X.w) (A := A.in1.in1) hh i1 a (itK_ne x3 p) its.toArray
    have d2 := drawsK k2 (prog := X.prog) (w := X.w) (A := A.in1.in1) hh i2 b (itK_ne x4 p2) its2.toArray
    obtain ⟨zL, lits, ln, lr, ll, le⟩ := I.lstM hL
    have hLlt : L < s.heap.objs.size := Heap.lt_size le
    have fin : ∀ v1 v2 h' tk, its.toArray[i]? = some v1 → its2.toArray[i]? = some v2 → ZS k1 k2 a b z TI TO i1 i2 L (i + 1) h' → IsTupOf2 h' s.heap.objs.size v1 v2 → (∀ c o, c ≠ z → c ≠ TO → c ≠ i1 → c ≠ i2 → s.heap.get? c = some o → h'.get? c = some o) →
        wpAny (model X.prog X.w) A.in1 (updateSeq L (·.push (Value.ref s.heap.objs.size)) >>= fun _ => again (.builtin "list.extend.loop" ⟨[.ref L, .ref z, res], []⟩)) (fun fin s' => match fin with | .done f => R (.ok f) s' | .again c' => c'.quiet = true ∧ codeAny (model X.prog X.w) A c' R s') (fun e s' => R (.error e) s') { s with heap := h', toks := tk } := fun v1 v2 h' tk e1 e2 st' hT hk => by
      have ex1 : v1 = u := Option.some.inj (e1.symm.trans (by simpa using hu))
      have ex2 : v2 = u2 := Option.some.inj (e2.symm.trans (by simpa using hu2))
      subst ex1 ex2
      have new : ObjOk X.prog X.w (upd H s.heap.objs.size (.tup [xs[i], ys[i]])) h' s.heap.objs.size (.tup [xs[i], ys[i]]) :=
        ⟨by show 2 ≤ sizeLine; decide, [v1, v2], .cons ru (.cons ru2 .nil), ⟨_, hT, rfl, _, rfl⟩⟩
      have I1 : Inv X pins σ (upd H s.heap.objs.size (.tup [xs[i], ys[i]])) { s with heap := h', toks := tk } :=
        I.turnedNew (t' := tk) (ch := [z, TI, TO, i1, i2]) (fun c o hb q => hk c o (fun q' => hb (by simp [q'])) (fun q' => hb (by simp [q'])) (fun q' => hb (by simp [q'])) (fun q' => hb (by simp [q'])) q) hf (Nat.le_refl _) new
      have hfr : H s.heap.objs.size = none := I.fresh
      have hLne : L ≠ s.heap.objs.size := Nat.ne_of_lt hLlt
      have hL1 : upd H s.heap.objs.size (.tup [xs[i], ys[i]]) L = some (.lst vs) := by rw [upd_ne hLne]; exact hL
      obtain ⟨_, lits', ln', lr', ll', le'⟩ := I1.lstM hL1
      have up' : ∀ c o, c ≠ L → h'.get? c = some o → (h'.update L (Obj.mapSeq (·.push (Value.ref s.heap.objs.size)))).get? c = some o := fun c o hb e => (Heap.get?_update_other _ _ (Ne.symm hb)).trans e
      refine wpAny_bind (wpAny_updateSeq le' rfl (wpAny_pure ⟨plainId_quiet PySem.F.plain_extend_loop _, ?_⟩) (by rw [List.size_toArray]; rw [← ll', hvl]; exact Nat.le_trans (by omega : i ≤ 100000) (by decide)) (by show (lits'.toArray.push (Value.ref s.heap.objs.size)).size ≤ sizeLine + 1; rw [Array.size_push, List.size_toArray, ← ll', hvl]; exact Nat.succ_le_succ (Nat.le_trans (by omega : i ≤ 100000) (by decide))))
      have I2 := I1.lset (f := fun x => x.push (Value.ref s.heap.objs.size)) (its' := lits' ++ [Value.ref s.heap.objs.size]) (ys := vs ++ [V.ref s.heap.objs.size]) (t' := tk) hL1 le' (by simp) (lr'.append (.cons rfl .nil)) (by rw [List.length_append, hvl]; exact Nat.le_trans (show i + [V.ref s.heap.objs.size].length ≤ 100001 by rw [List.length_singleton]; omega) (by decide))
      refine ih (i + 1) _ _ (vs ++ [V.ref s.heap.objs.size]) (by omega) (by omega) I2 (fun c o e => ?_) upd_same (by rw [List.length_append, hvl]; rfl) (fun j v ej => ?_) (st'.keep hn up') (fun c hc => ?_)
      · have h1 : c ≠ L := fun q => by rw [q, hL0] at e; cases e
        have h2 := up c o e
        have h3 : c ≠ s.heap.objs.size := fun q => by rw [q, hfr] at h2; cases h2
        rw [upd_ne h1, upd_ne h3]
        exact h2
      · by_cases hj : j < vs.length
        · rw [List.getElem?_append_left hj] at ej
          obtain ⟨T, x, y, e1, e2, e3, e4, e5⟩ := hvs j v ej
          have h3 : T ≠ s.heap.objs.size := fun q => by rw [q, hfr] at e4; cases e4
          exact ⟨T, x, y, e1, e2, e3, by rw [upd_ne e3, upd_ne h3]; exact e4, e5⟩
        · have hj2 : j = vs.length := by
            have := (List.getElem?_eq_some_iff.mp ej).1
            rw [List.length_append, List.length_singleton] at this
            omega
          subst hj2
          rw [List.getElem?_append_right (Nat.le_refl _), Nat.sub_self] at ej
          have ev : V.ref s.heap.objs.size = v := Option.some.inj ej
          subst ev
          refine ⟨_, xs[i], ys[i], rfl, ?_, Ne.symm hLne, ?_, by rw [hvl]; exact hx, by rw [hvl]; exact hy⟩
          · cases q : H0 s.heap.objs.size with
            | none => rfl
            | some o => have := up _ _ q; rw [hfr] at this; cases this
          · rw [upd_ne (Ne.symm hLne), upd_same]
      · have hc1 : c ≠ L := by
          obtain ⟨n1, n2, n3, n4, n5⟩ := hn
          have e' : c = z ∨ c = TI ∨ c = TO ∨ c = i1 ∨ c = i2 := by simpa using hc
          rcases e' with q | q | q | q | q <;> rw [q] <;> assumption
        have hc2 : c ≠ s.heap.objs.size := by
          have hlt : c < s.heap.objs.size := by
            have e' : c = z ∨ c = TI ∨ c = TO ∨ c = i1 ∨ c = i2 := by simpa using hc
            rcases e' with q | q | q | q | q
            · rw [q]
              rcases x1 with y1 | ⟨T, f, oT, y1, _⟩
              · exact Heap.lt_size y1
              · exact Heap.lt_size y1
            · rw [q]; exact Heap.lt_size x2
            · rw [q]; exact Heap.lt_size y0
            · rw [q]; obtain ⟨_, e1, _⟩ := itK_obj x3; exact Heap.lt_size e1
            · rw [q]; obtain ⟨_, e2, _⟩ := itK_obj x4; exact Heap.lt_size e2
          exact Nat.ne_of_lt hlt
        refine ⟨?_, (hf c hc).2⟩
        rw [upd_ne hc1, upd_ne hc2]
        exact (hf c hc).1
    rcases x1 with y1 | ⟨T, f, oT, y1, y2, y3, y4, y5, y6⟩
    · refine wpAny_bind (wpAny_pyNext_zipD2_item D d1 d2 y1 x2 y0 ⟨x3, p⟩ ⟨x4, p2⟩ (by rw [List.size_toArray]; omega) (by rw [List.size_toArray]; omega) fun v1 v2 h' tk e1 e2 z' TO' s1' s2' hT hs hk => ?_)
      exact fin v1 v2 h' tk e1 e2 ⟨.inr ⟨_, false, _, z', hT, Nat.ne_of_gt (Heap.lt_size y1), fun q => by
        obtain ⟨_, e, _⟩ := itK_obj x3
        exact absurd (Heap.lt_size e) (by rw [← q]; exact Nat.lt_irrefl _), fun q => by
        obtain ⟨_, e, _⟩ := itK_obj x4
        exact absurd (Heap.lt_size e) (by rw [← q]; exact Nat.lt_irrefl _), Nat.ne_of_gt hLlt⟩, ⟨_, _, TO'⟩, hk _ _ D.TIz D.TITO D.TIi1 D.TIi2 x2, s1'.1, s2'.1⟩ hT hk
    · refine wpAny_bind (zh_item D d1 d2 y1 y2 x2 ⟨x3, p⟩ ⟨x4, p2⟩ (by rw [List.size_toArray]; omega) (by rw [List.size_toArray]; omega) fun v1 v2 h' tk e1 e2 z' s1' s2' hT hs hk => ?_)
      exact fin v1 v2 h' tk e1 e2 ⟨.inr ⟨T, true, oT, z', hk _ _ y3 y4 y5 y2, y3, y4, y5, y6⟩, ⟨_, _, hk _ _ D.TOz D.Ti1 D.Ti2 y0⟩, hk _ _ D.TIz D.TIi1 D.TIi2 x2, s1'.1, s2'.1⟩ hT fun c o c1 _ c3 c4 e => hk c o c1 c3 c4 e
theorem zip_no_len : typeLookup (.type "zip") "__len__" = pure none := by rw [typeLookup_type, builtinLookup_eq_fast]; kernel_rfl
theorem zip_no_hint : typeLookup (.type "zip") "__length_hint__" = pure none := by rw [typeLookup_type, builtinLookup_eq_fast]; kernel_rfl
/-- list(z), z a zip that stands at its start -/
theorem lz_call {H : Hp} {s : Shared} {xs ys : List V} {Q : VK} (hh : X.A.handled = none) (I : Inv X pins σ H s) (D : ZipSep2 z TI TO i1 i2 [i1, a] [i2, b]) (hsz : min xs.length ys.length ≤ 100000) (hqx : SqK X.K k1 H a xs) (hqy : SqK X.K k2 H b ys)
    (hz : IsZip s.heap z TI TO .none) (hTI : IsTupOf2 s.heap TI (.ref i1) (.ref i2)) (hTO : ∃ x y, IsTupOf2 s.heap TO x y) (h1 : ItK k1 s.heap i1 a 0) (h2 : ItK k2 s.heap i2 b 0) (hf : ∀ c ∈ [z, TI, TO, i1, i2], FpOk X pins H c)
    (hQ : ∀ p vs H', H p = none → Same H H' → H' p = some (.lst vs) → vs.length = min xs.length ys.length → (∀ (j : Nat) (v : V), vs[j]? = some v → ∃ T x y, v = .ref T ∧ H T = none ∧ T ≠ p ∧ H' T = some (.tup [x, y]) ∧ xs[j]? = some x ∧ ys[j]? = some y) → Q (.ref p) H') :
    wpAny (model X.prog X.w) X.A (call (.type "list") [.ref z]) (EP X pins σ Q) X.xe s := by
  obtain ⟨tx, ty, hTO⟩ := hTO
  have n1 : z < s.heap.objs.size := Heap.lt_size hz
  have n2 : TI < s.heap.objs.size := Heap.lt_size hTI
  have n3 : TO < s.heap.objs.size := Heap.lt_size hTO
  have n4 : i1 < s.heap.objs.size := by obtain ⟨_, e, _⟩ := itK_obj h1; exact Heap.lt_size e
  have n5 : i2 < s.heap.objs.size := by obtain ⟨_, e, _⟩ := itK_obj h2; exact Heap.lt_size e
  have hne : z ≠ s.heap.objs.size ∧ TI ≠ s.heap.objs.size ∧ TO ≠ s.heap.objs.size ∧ i1 ≠ s.heap.objs.size ∧ i2 ≠ s.heap.objs.size := ⟨Nat.ne_of_lt n1, Nat.ne_of_lt n2, Nat.ne_of_lt n3, Nat.ne_of_lt n4, Nat.ne_of_lt n5⟩
  have hL0 : H s.heap.objs.size = none := I.fresh
  have I1 : Inv X pins σ (upd H s.heap.objs.size (.lst [])) { s with heap := s.heap.push { cls := .type "list", data := .seq #[] } } := I.lnew (its := []) (t' := s.toks) .nil (Nat.zero_le _)
  refine callType_codes (Q₁ := fun obj s₁ => obj = .ref s.heap.objs.size ∧ s₁ = { s with heap := s.heap.push { cls := .type "list", data := .seq #[] } }) PySem.F.called_list (PySem.F.typeCall_list_1 _) PySem.F.entry_list_init
    (code_list_new _ ⟨rfl, rfl⟩) fun obj s₁ h₁ => ?_
  obtain ⟨rfl, rfl⟩ := h₁
  generalize hLL : s.heap.objs.size = L at *
  have hS : (s.heap.push { cls := .type "list", data := .seq #[] }).get? L = some { cls := .type "list", data := .seq #[] } := by rw [← hLL]; exact Heap.get?_push_size _ rfl
  have keep0 : ∀ c o, c ≠ L → s.heap.get? c = some o → (s.heap.push { cls := .type "list", data := .seq #[] }).get? c = some o := fun c o _ e => Heap.get?_push_of_some _ e
  refine ⟨⟨_, hS, rfl⟩, PySem.F.args_list_init_2 _ _, ?_⟩
  generalize hs1 : ({ s with heap := s.heap.push { cls := .type "list", data := .seq #[] } } : Shared) = s1 at I1 ⊢
  have hS : s1.heap.get? L = some { cls := .type "list", data := .seq #[] } := by rw [← hs1]; exact hS
  have keep1 : ∀ c o, c ≠ L → s.heap.get? c = some o → s1.heap.get? c = some o := by rw [← hs1]; exact keep0
  show wpAny _ _ (do let old ← Builtin.List.listItems (.ref L); Builtin.List.listUpdate (.ref L) (fun _ => #[]); letGo old.toList.reverse; Builtin.List.listExtendWith (.ref L) (.ref z) .none) _ _ s1
  refine wpAny_bind ?_
  unfold Builtin.List.listItems
  refine wpAny_bind (wpAny_seqItems hS rfl (wpAny_pure ?_))
  show wpAny _ _ (updateSeq L (fun _ => #[]) >>= fun _ => letGo (#[] : Array Value).toList.reverse >>= fun _ => Builtin.List.listExtendWith (.ref L) (.ref z) .none) _ _ s1
  refine wpAny_bind (wpAny_updateSeq hS rfl ?_)
  have I2 := I1.lset (f := fun _ => #[]) (its := []) (its' := []) (ys := []) (t' := s1.toks) upd_same hS rfl .nil (Nat.zero_le _)
  have hS2 := Heap.get?_update_self (Obj.mapSeq (fun _ => (#[] : Array Value))) hS rfl
  have keep2 : ∀ c o, c ≠ L → s.heap.get? c = some o → (s1.heap.update L (Obj.mapSeq (fun _ => (#[] : Array Value)))).get? c = some o := fun c o hb e => (Heap.get?_update_other _ _ (Ne.symm hb)).trans (keep1 c o hb e)
  refine wpAny_bind (wpAny_letGo ?_)
  generalize hs2 : ({ s1 with heap := s1.heap.update L (Obj.mapSeq (fun _ => (#[] : Array Value))), toks := s1.toks } : Shared) = s2 at I2
  obtain ⟨ep, hS2⟩ : ∃ n, s2.heap.get? L = some { cls := .type "list", data := .seq #[] n } := ⟨_, by rw [← hs2]; exact hS2⟩
  have keep2 : ∀ c o, c ≠ L → s.heap.get? c = some o → s2.heap.get? c = some o := by rw [← hs2]; exact keep2
  have hz2 := keep2 _ _ hne.1 hz
  have hT2 : s2.TypeIs (.ref z) "zip" := ⟨_, hz2, rfl⟩
  unfold Builtin.List.listExtendWith
  refine wpAny_bind (wpAny_typeOf hT2 ?_)
  have q1 : Builtin.List.listSameRef (.ref L) (.ref z) = false := by simp [Builtin.List.listSameRef, Ne.symm hne.1]
  have q2 : (Value.type "zip" == Value.type "list") = false := by decide
  have q3 : (Value.type "zip" == Value.type "tuple") = false := by decide
  simp only [q1, q2, q3, Bool.or_false, Bool.false_eq_true, if_false]
  refine wpAny_bind (wpAny_pyIter_zip hz2 (wpAny_bind (wpAny_holding ?_)))
  unfold Builtin.List.listLengthHint
  refine wpAny_bind (wpAny_specialOf hT2 zip_no_len ?_)
  show wpAny _ _ (specialOf (Value.ref z) (Str.ofString "__length_hint__") >>= _) _ _ _
  refine wpAny_bind (wpAny_specialOf hT2 zip_no_hint (wpAny_pure ?_))
  show wpAny _ _ (rule "list.extend.makes-room" >>= fun _ => Builtin.List.listTouch (.ref L) >>= fun _ => again (.builtin "list.extend.loop" ⟨[.ref L, .ref z, .none], []⟩)) _ _ _
  refine wpAny_bind (wpAny_rule (wpAny_bind ?_))
  show wpAny _ _ (updateSeq L (·.push .none) >>= fun _ => updateSeq L (·.pop)) _ _ _
  refine wpAny_bind (wpAny_updateSeq hS2 rfl ?_)
  have I3 := I2.lset (f := fun x => x.push Value.none) (its := []) (its' := [Value.none]) (ys := [V.non]) (t' := s2.toks) upd_same hS2 (by simp) (.cons rfl .nil) (by decide)
  have hS3 := Heap.get?_update_self (Obj.mapSeq (·.push Value.none)) hS2 rfl
  refine wpAny_updateSeq (hz := by seq_fits) hS3 rfl ?_
  have I4 := I3.lset (f := fun x => x.pop) (its := [Value.none]) (its' := []) (ys := []) (t' := s2.toks) upd_same hS3 (by simp) .nil (Nat.zero_le _)
  have keep4 : ∀ c o, c ≠ L → s.heap.get? c = some o → ((s2.heap.update L (Obj.mapSeq (·.push Value.none))).update L (Obj.mapSeq (·.pop))).get? c = some o := fun c o hb e => (Heap.get?_update_other _ _ (Ne.symm hb)).trans ((Heap.get?_update_other _ _ (Ne.symm hb)).trans (keep2 c o hb e))
  have uu : ∀ o1 o2 o3 o4 : HO, upd (upd (upd (upd H L o1) L o2) L o3) L o4 = upd H L o4 := fun o1 o2 o3 o4 => by
    funext c
    by_cases hc : c = L
    · subst hc
      rw [upd_same, upd_same]
    · rw [upd_ne hc, upd_ne hc, upd_ne hc, upd_ne hc, upd_ne hc]
  rw [uu] at I4
  refine wpAny_pure ⟨plainId_quiet PySem.F.plain_extend_loop _, ?_⟩
  refine lz_loop (X := X) (pins := pins) (σ := σ) (H0 := H) (xs := xs) (ys := ys) (A := X.A.in1) hh D hne hsz .none hL0 hqx hqy (fun H' s' vs I' up hL hl hv => ?_) (min xs.length ys.length) 0 _ _ [] (Nat.sub_zero _) (Nat.zero_le _) I4 (fun c o e => ?_) upd_same rfl (fun j v e => by simp at e)
    (ZS.keep (h := s.heap) ⟨.inl hz, ⟨tx, ty, hTO⟩, hTI, h1, h2⟩ hne keep4) (fun c hc => ?_)
  · exact ⟨rfl, .ref L, H', I', rfl, hQ L vs H' hL0 up hL hl hv⟩
  · rw [upd_ne (fun q => by rw [q, hL0] at e; cases e)]
    exact e
  · have hcn : c ≠ L := by
      obtain ⟨m1, m2, m3, m4, m5⟩ := hne
      have e' : c = z ∨ c = TI ∨ c = TO ∨ c = i1 ∨ c = i2 := by simpa using hc
      rcases e' with q | q | q | q | q <;> rw [q] <;> assumption
    refine ⟨?_, (hf c hc).2⟩
    rw [upd_ne hcn]
    exact (hf c hc).1
end
theorem DpAll_of {K : PySem.W.Frag} {H : Hp} : ∀ {vs : List V} {ds : List PyData}, vs.length = ds.length → (∀ (j : Nat) (v : V) (d : PyData), vs[j]? = some v → ds[j]? = some d → Dp K H v d) → DpAll K H vs ds
  | [], [], _, _ => .nil
  | v :: vs, d :: ds, hl, h => .cons (h 0 v d rfl rfl) (DpAll_of (by simpa using hl) fun j v' d' e1 e2 => h (j + 1) v' d' (by simpa using e1) (by simpa using e2))
  | [], _ :: _, hl, _ => by simp at hl
  | _ :: _, [], hl, _ => by simp at hl
def lLZ (k1 k2 : Kd) (r : FL) : FL := fun env => (iZ k1 k2 r env).bind fun l => if l.length ≤ 1000 then some l else none
/-- list(zip(x, y)) -/
theorem l_listZip (k1 k2 : Kd) {X : Cx} {e e2 : Expr} {r : FL} {p p2 pos pos2 : Pos} (hc : X.calm = true) (hg : Gl X "list") (hm : X.mg "list" = none) (hgz : Gl X "zip") (hmz : X.mg "zip" = none) (ha : PA X [e, e2] (tA X.K r))
    (hs : starEach [e, e2] X.env = (false, eval e X.env) :: starEach [e2] X.env := by rfl) (hpl : (backTo pos2 (starEach [e2] X.env)).any (·.1) = false := by rfl)
    (na : starEach [.Call (.Name "zip" p2) [e, e2] [] pos2] X.env = (false, eval (.Call (.Name "zip" p2) [e, e2] [] pos2) X.env) :: starEach [] X.env := by rfl) :
    PE X (.Call (.Name "list" p) [.Call (.Name "zip" p2) [e, e2] [] pos2] [] pos) (tL X.K (lLZ k1 k2 r)) := by
  refine ⟨fun pins s σ H Q I h => ?_⟩
  obtain ⟨Z, Hf, env, out, R, hf, kq⟩ := h
  unfold lLZ at hf
  obtain ⟨l, hz, hf⟩ := Option_bind_some hf
  split at hf
  · rename_i hlen
    cases hf
    unfold iZ at hz
    split at hz
    · rename_i dx dy hr
      obtain ⟨xs, hx, hz⟩ := Option_bind_some hz
      obtain ⟨ys, hy, hz⟩ := Option_bind_some hz
      cases hz
      have hin : tA X.K r σ H (fun vs H1 => ∃ a b us ws Hf1, vs = [.ref a, .ref b] ∧ Stp Hf H Hf1 H1 ∧ SqK X.K k1 Hf1 a us ∧ SqK X.K k2 Hf1 b ws ∧ DpAll X.K Hf1 us xs ∧ DpAll X.K Hf1 ws ys) :=
        ⟨Z, Hf, env, _, R, hr, fun vs H1 Hf1 s1 d1 => by
          obtain ⟨v, w, rfl, hv, hw⟩ := d1.two
          obtain ⟨a, us, rfl, ha, hda⟩ := dp_itemsK hv hx
          obtain ⟨b, ws, rfl, hb, hdb⟩ := dp_itemsK hw hy
          exact ⟨a, b, us, ws, Hf1, rfl, s1, ha, hb, hda, hdb⟩⟩
      have inner : wpAny (model X.prog X.w) X.A (eval (.Call (.Name "zip" p2) [e, e2] [] pos2) X.env) (fun x s' => ∃ z TI TO i1 i2 a b us ws Hf1 H1, x = .ref z ∧ Inv X pins σ H1 s' ∧ ZipSep2 z TI TO i1 i2 [i1, a] [i2, b] ∧ IsZip s'.heap z TI TO .none ∧ IsTupOf2 s'.heap TI (.ref i1) (.ref i2) ∧ (∃ x y, IsTupOf2 s'.heap TO x y) ∧ ItK k1 s'.heap i1 a 0 ∧ ItK k2 s'.heap i2 b 0 ∧
          (∀ c ∈ [z, TI, TO, i1, i2], FpOk X pins H1 c) ∧ Stp Hf H Hf1 H1 ∧ SqK X.K k1 Hf1 a us ∧ SqK X.K k2 Hf1 b ws ∧ DpAll X.K Hf1 us xs ∧ DpAll X.K Hf1 ws ys) X.xe s := by
        refine Call_ (ld_blt I hgz hmz PyProof.Rows.boot_zip (PyProof.Rows.callWith_type1 (thn (ha.run pos2 pins s σ H _ I hin) fun us s1 ⟨vs, H1, I1, r1, q1⟩ => ?_) hs hpl))
        obtain ⟨a, b, us', ws', Hf1, ex, s1', hqx, hqy, hda, hdb⟩ := q1
        subst ex
        cases r1 with
        | cons ra rr =>
          cases rr with
          | cons rb rr =>
            cases rr
            cases ra
            cases rb
            obtain ⟨its, rv, p1⟩ := hasK_of I1 (sqK_up s1'.i hqx)
            obtain ⟨its2, rv2, p2'⟩ := hasK_of I1 (sqK_up s1'.i hqy)
            refine zip_begins2 (beginsK k1 a its.toArray) (beginsK k2 b its2.toArray) p1 p2' fun h' hz hTI hTO h1 h2 hsz hk => ?_
            have hsep := zip_sep2 (N := s1.heap.objs.size) (fp1 := [a]) (fp2 := [b]) (fun c hc => by rw [List.mem_singleton.mp hc]; exact hasK_lt p1) (fun c hc => by rw [List.mem_singleton.mp hc]; exact hasK_lt p2')
            refine ⟨s1.heap.objs.size + 4, s1.heap.objs.size + 2, s1.heap.objs.size + 3, s1.heap.objs.size, s1.heap.objs.size + 1, a, b, us', ws', Hf1, H1, rfl, I1.kept (t' := s1.toks) hk, hsep, hz, hTI, ⟨_, _, hTO⟩, itK_0 h1, itK_0 h2, fun c hcm => ?_, s1', hqx, hqy, hda, hdb⟩
            have e' : c = s1.heap.objs.size + 4 ∨ c = s1.heap.objs.size + 2 ∨ c = s1.heap.objs.size + 3 ∨ c = s1.heap.objs.size ∨ c = s1.heap.objs.size + 1 := by simpa using hcm
            have hle : s1.heap.objs.size ≤ c := by
              rcases e' with q | q | q | q | q <;> rw [q]
              · exact Nat.le_add_right _ _
              · exact Nat.le_add_right _ _
              · exact Nat.le_add_right _ _
              · exact Nat.le_refl _
              · exact Nat.le_add_right _ _
            exact I1.fpOk hle (I1.hok.fresh hle)
      refine Call_ (ld_blt I hg hm PyProof.Rows.boot_list (PyProof.Rows.callWith_type1 (args_cons (thn inner fun x s1 ⟨z, TI, TO, i1, i2, a, b, us, ws, Hf1, H1, ex, I1, D, hz, hTI, hTO, h1, h2, hfp, st, hqx, hqy, hda, hdb⟩ => args_nil ?_) na) na))
      subst ex
      have hpl : (pairs xs ys).length = min us.length ws.length := by
        unfold pairs
        rw [List.length_zipWith, hda.len, hdb.len]
      refine lz_call (xs := us) (ys := ws) (I1.ok.hd hc) I1 D (by omega) (sqK_up st.i hqx) (sqK_up st.i hqy) hz hTI hTO h1 h2 hfp fun p vs H' hp hup hL hvl hvs => ?_
      have hpf : Hf1 p = none := st.i.free hp
      let Hf' : Hp := fun c => match Hf1 c with
        | some o => some o
        | none => if H1 c = none ∧ c ≠ p then H' c else none
      have a1 : Same Hf1 Hf' := fun c o e => by
        show (match Hf1 c with | some o => some o | none => _) = some o
        rw [e]
      have a2 : Same Hf' H' := fun c o e => by
        have e : (match Hf1 c with | some o => some o | none => if H1 c = none ∧ c ≠ p then H' c else none) = some o := e
        cases q : Hf1 c with
        | some o' =>
          rw [q] at e
          cases e
          exact hup c _ (st.i c _ q)
        | none =>
          rw [q] at e
          simp only at e
          split at e
          · exact e
          · cases e
      have a3 : ∀ c, H1 c = none → c ≠ p → Hf' c = H' c := fun c e1 e2 => by
        show (match Hf1 c with | some o => some o | none => if H1 c = none ∧ c ≠ p then H' c else none) = _
        rw [st.i.free e1]
        simp only
        rw [if_pos ⟨e1, e2⟩]
      have a4 : ∀ c o, H1 c = some o → Hf1 c = none → Hf' c = none := fun c o e1 e2 => by
        show (match Hf1 c with | some o => some o | none => if H1 c = none ∧ c ≠ p then H' c else none) = _
        rw [e2]
        simp only
        rw [if_neg (fun q => by rw [q.1] at e1; cases e1)]
      have a5 : Hf' p = none := by
        show (match Hf1 p with | some o => some o | none => if H1 p = none ∧ p ≠ p then H' p else none) = _
        rw [hpf]
        simp only
        rw [if_neg (fun q => q.2 rfl)]
      have st2 : Stp Hf1 H1 Hf' H' := ⟨a1, a2, hup, a4⟩
      refine kq p vs H' Hf' (st.trans st2) (st.h.free hp) a5 hL (DpAll_of (by rw [hvl, hpl]) fun j v d e1 e2 => ?_)
      obtain ⟨T, x, y, rfl, g1, g2, g3, g4, g5⟩ := hvs j v e1
      obtain ⟨dx', m1, m2⟩ := hda.get g4
      obtain ⟨dy', m3, m4⟩ := hdb.get g5
      unfold pairs at e2
      rw [List.getElem?_zipWith, m1, m3] at e2
      cases e2
      exact .tup (SqT.of (by rw [a3 T g1 g2]; exact g3)) (.cons (Dp_up a1 m2) (.cons (Dp_up a1 m4) .nil))
    · cases hz
  · cases hf
end Fi

namespace Lw
open PySem L2 Fi
/-! ### what each def computes -/
def lp_poured_0 : FS := (sSeq (sSet 6 (eCall fMin (aCons (eVar 2) (aCons (e2 fSub (eVar 4) (eVar 5)) aNil))))
    (sSeq (sApp 3 (e2 fAdd (eVar 5) (eVar 6)))
    (sAug 2 (fun i j => i - j) (eVar 6))))
def b_poured : FS := (sSeq (sOwn 3 (lLst aNil))
    (sSeq (sFor (iZ .t .t (aCons (eVar 0) (aCons (eVar 1) aNil))) (gTupF 2 (gsCons (gSet 4) (gsCons (gSet 5) gsNil))) lp_poured_0)
    (sFrz 3 (sRet (eTup (aCons (eCall fTuple (aCons (eVar 3) aNil)) (aCons (eVar 2) aNil)))))))
def F_poured : List PyData → Option Sl := fnD 7 b_poured
def b_with_amount : FS := (sRet (e2 fAdd (e2 fAdd (eSlT (eVar 0) oNone (oSome (eVar 1))) (eTup (aCons (e2 fAdd (eSlT (e2 fIx (eVar 0) (eVar 1)) oNone (oSome (e1 fNeg (eC (.int 1))))) (eTup (aCons (eVar 2) aNil))) aNil))) (eSlT (eVar 0) (oSome (e2 fAdd (eVar 1) (eC (.int 1)))) oNone)))
def F_with_amount : List PyData → Option Sl := fnD 3 b_with_amount
def b_largest_amount : FS := (sRet (eIf (asB (e2 fEq (e2 fIx (e2 fIx (eVar 1) (eVar 2)) (eC (.int 0))) (eC (.str "pour")))) (eC (.int 1000000000)) (e2 fIx (eVar 0) (e2 fIx (e2 fIx (eVar 1) (eVar 2)) (eC (.int 1))))))
def F_largest_amount : List PyData → Option Sl := fnD 3 b_largest_amount
def b__law_cell : FS := (sSeq (sIf (asB (e2 fLt (eVar 1) (eCall fLen (aCons (eVar 0) aNil)))) (sRet (e2 fIx (eVar 0) (eVar 1))) sNext)
    (sSeq (sIf (asB (e2 fEq (eCall fLen (aCons (eVar 0) aNil)) (eC (.int 0)))) (sRet (e2 fAdd (e2 fMul (eC (.int 7919)) (eVar 1)) (eC (.int 101)))) sNext)
    (sRet (e2 fAdd (e2 fMod (e2 fIx (eVar 0) (e2 fMod (eVar 1) (eCall fLen (aCons (eVar 0) aNil)))) (eC (.int 1000003))) (e2 fMul (eC (.int 7919)) (eVar 1))))))
def F__law_cell : List PyData → Option Sl := fnD 2 b__law_cell
def b__law_caps : FS := (sRet (eCall fTuple (aCons (eL (lLc (iL (eL (lSl (eVar 0) (oSome (eC (.int 1))) (oSome (e2 fAdd (eC (.int 2)) (e2 fMod (e2 fIx (eVar 0) (eC (.int 0))) (eVar 1))))))) (gSet 3) pYes (e2 fAdd (eC (.int 1)) (e2 fMod (eVar 3) (eVar 2))) [3])) aNil)))
def F__law_caps : List PyData → Option Sl := fnD 4 b__law_caps
def lp__law_levels_0 : FS := (sSeq (sSet 5 (e2 fMod (e2 fDiv (eVar 4) (eC (.int 1000))) (eC (.int 4))))
    (sIf (asB (e2 fEq (eVar 5) (eC (.int 0)))) (sSet 2 (e2 fAdd (eVar 2) (eTup (aCons (eVar 3) aNil)))) (sIf (asB (e2 fEq (eVar 5) (eC (.int 1)))) (sSet 2 (e2 fAdd (eVar 2) (eTup (aCons (eC (.int 0)) aNil)))) (sSet 2 (e2 fAdd (eVar 2) (eTup (aCons (e2 fMod (eVar 4) (e2 fAdd (eVar 3) (eC (.int 1)))) aNil)))))))
def b__law_levels : FS := (sSeq (sSet 2 (eTup aNil))
    (sSeq (sFor (iZ .t .l (aCons (eVar 1) (aCons (eVar 0) aNil))) (gTupF 2 (gsCons (gSet 3) (gsCons (gSet 4) gsNil))) lp__law_levels_0)
    (sRet (eVar 2))))
def F__law_levels : List PyData → Option Sl := fnD 6 b__law_levels
def lp__law_script_0 : FS := (sSeq (sPar 6 7 (aCons (e2 fIx (eVar 0) (e2 fAdd (eC (.int 1)) (e2 fMul (eC (.int 3)) (eVar 4)))) (aCons (e2 fIx (eVar 0) (e2 fAdd (eC (.int 3)) (e2 fMul (eC (.int 3)) (eVar 4)))) aNil)))
    (sSeq (sSet 5 (e2 fMod (e2 fIx (eVar 0) (e2 fAdd (eC (.int 2)) (e2 fMul (eC (.int 3)) (eVar 4)))) (eCall fLen (aCons (eVar 1) aNil))))
    (sIf (asB (e2 fEq (e2 fMod (eVar 6) (eC (.int 2))) (eC (.int 0)))) (sApp 3 (eTup (aCons (eC (.str "pour")) (aCons (e2 fMod (eVar 7) (e2 fAdd (eC (.int 1)) (eCall fSum (aCons (eSlT (eVar 1) oNone (oSome (e2 fAdd (eVar 5) (eC (.int 1))))) aNil)))) aNil)))) (sApp 3 (eTup (aCons (eC (.str "spend")) (aCons (eVar 5) (aCons (e2 fMod (eVar 7) (e2 fAdd (eC (.int 1)) (e2 fIx (eL (lLst (aCons (e2 fIx (eVar 1) (eVar 5)) (aCons (e2 fAdd (eC (.int 2)) (e2 fDiv (e2 fIx (eVar 1) (eVar 5)) (eC (.int 4)))) aNil)))) (e2 fMod (e2 fDiv (eVar 6) (eC (.int 2))) (eC (.int 2)))))) aNil))))))))
def b__law_script : FS := (sSeq (sOwn 3 (lLst aNil))
    (sSeq (sFor (iR1 (aCons (e2 fMod (e2 fIx (eVar 0) (eC (.int 0))) (e2 fAdd (eVar 2) (eC (.int 1)))) aNil)) (gSet 4) lp__law_script_0)
    (sFrz 3 (sRet (eCall fTuple (aCons (eVar 3) aNil))))))
def F__law_script : List PyData → Option Sl := fnD 8 b__law_script
def lp__law_run_0 : FS := (sSeq (sSet 9 (eIf (asB (e2 fGt (eVar 6) (e2 fSub (eVar 8) (ownIx 4 (eVar 7))))) (e2 fSub (eVar 8) (ownIx 4 (eVar 7))) (eVar 6)))
    (sAsg (eTup (aCons (e2 fAdd (ownIx 4 (eVar 7)) (eVar 9)) (aCons (e2 fSub (eVar 6) (eVar 9)) aNil))) (gTupF 2 (gsCons (gSub 4 (eVar 7)) (gsCons (gSet 6) gsNil)))))
def lp__law_run_1 : FS := (sIf (asB (e2 fEq (e2 fIx (eVar 3) (eC (.int 0))) (eC (.str "spend")))) (sSeq (sIf (asB (e2 fGt (e2 fIx (eVar 3) (eC (.int 2))) (ownIx 4 (e2 fIx (eVar 3) (eC (.int 1)))))) (sRet (eC .none)) sNext)
    (sAsg (e2 fSub (ownIx 4 (e2 fIx (eVar 3) (eC (.int 1)))) (e2 fIx (eVar 3) (eC (.int 2)))) (gSub 4 (e2 fIx (eVar 3) (eC (.int 1)))))) (sSeq (sSet 6 (e2 fIx (eVar 3) (eC (.int 1))))
    (sSeq (sFor (iEn .t (aCons (eVar 0) aNil)) (gTupF 2 (gsCons (gSet 7) (gsCons (gSet 8) gsNil))) lp__law_run_0)
    (sSet 5 (e2 fAdd (eVar 5) (eVar 6))))))
def b__law_run : FS := (sSeq (sParL 4 5 (lCall fList (aCons (eVar 1) aNil)) (eC (.int 0)))
    (sSeq (sFor (iT (eVar 2)) (gSet 3) lp__law_run_1)
    (sFrz 4 (sRet (eTup (aCons (eCall fTuple (aCons (eVar 4) aNil)) (aCons (eVar 5) aNil)))))))
def F__law_run : List PyData → Option Sl := fnD 10 b__law_run
def b__law_with : FS := (sRet (e2 fAdd (e2 fAdd (eSlT (eVar 0) oNone (oSome (eVar 1))) (eTup (aCons (e2 fAdd (eSlT (e2 fIx (eVar 0) (eVar 1)) oNone (oSome (e1 fNeg (eC (.int 1))))) (eTup (aCons (eVar 2) aNil))) aNil))) (eSlT (eVar 0) (oSome (e2 fAdd (eVar 1) (eC (.int 1)))) oNone)))
def F__law_with : List PyData → Option Sl := fnD 3 b__law_with
def lp_run_0 : FS := (sIf (asB (e2 fEq (e2 fIx (eVar 4) (eC (.int 0))) (eC (.str "pour")))) (sSeq (sAsg (eCallF F_poured (aCons (eVar 0) (aCons (eVar 1) (aCons (e2 fIx (eVar 4) (eC (.int 1))) aNil)))) (gTupF 2 (gsCons (gSet 1) (gsCons (gSet 5) gsNil))))
    (sAug 3 (fun i j => i + j) (eVar 5))) (sSeq (sPar 6 7 (aCons (e2 fIx (eVar 4) (eC (.int 1))) (aCons (e2 fIx (eVar 4) (eC (.int 2))) aNil)))
    (sSeq (sIf (asB (e2 fLt (e2 fIx (eVar 1) (eVar 6)) (eVar 7))) (sRet (eC .none)) sNext)
    (sSet 1 (e2 fAdd (e2 fAdd (eSlT (eVar 1) oNone (oSome (eVar 6))) (eTup (aCons (e2 fSub (e2 fIx (eVar 1) (eVar 6)) (eVar 7)) aNil))) (eSlT (eVar 1) (oSome (e2 fAdd (eVar 6) (eC (.int 1)))) oNone))))))
def b_run : FS := (sSeq (sSet 3 (eC (.int 0)))
    (sSeq (sFor (iT (eVar 2)) (gSet 4) lp_run_0)
    (sRet (eTup (aCons (eVar 1) (aCons (eVar 3) aNil))))))
def F_run : List PyData → Option Sl := fnD 8 b_run
def lp__law_digits_0 : FS := (sSeq (sSet 9 (e2 fMul (e2 fMod (eVar 5) (e2 fIx (eVar 4) (e2 fMod (eVar 8) (eC (.int 8))))) (e2 fAdd (eC (.int 48271)) (e2 fMul (e2 fMul (eC (.int 2)) (eVar 8)) (eVar 8)))))
    (sSeq (sSet 9 (e2 fAdd (e2 fAdd (eVar 9) (e2 fMul (e2 fMul (eC (.int 7919)) (e2 fAdd (eVar 8) (eC (.int 1)))) (e2 fAdd (eVar 8) (eC (.int 1))))) (e2 fMul (eC (.int 104729)) (eVar 1))))
    (sSeq (sSet 9 (e2 fMod (eVar 9) (e2 fIx (eVar 4) (e2 fMod (e2 fAdd (e2 fMul (eC (.int 3)) (eVar 8)) (eVar 1)) (eC (.int 8))))))
    (sSeq (sSet 9 (e2 fMod (e2 fMul (e2 fMul (eVar 9) (eVar 9)) (eVar 9)) (e2 fIx (eVar 4) (e2 fMod (e2 fAdd (eVar 8) (eC (.int 5))) (eC (.int 8))))))
    (sSeq (sIf (asB (e2 fGt (eVar 6) (eC (.int 0)))) (sSet 9 (eVar 6)) sNext)
    (sSeq (sApp 7 (e2 fMod (eVar 9) (eVar 3)))
    (sSet 6 (e2 fDiv (eVar 6) (eVar 3)))))))))
def b__law_digits : FS := (sSeq (sSet 4 (eTup (aCons (eC (.int 2147483647)) (aCons (eC (.int 2147483629)) (aCons (eC (.int 2147483587)) (aCons (eC (.int 2147483579)) (aCons (eC (.int 2147483563)) (aCons (eC (.int 2147483549)) (aCons (eC (.int 2147483543)) (aCons (eC (.int 2147483497)) aNil))))))))))
    (sSeq (sSet 5 (eCallF F__law_cell (aCons (eVar 0) (aCons (eVar 1) aNil))))
    (sSeq (sSet 6 (eIf (asB (e2 fGe (eVar 5) (e2 fPow (eC (.int 10)) (eC (.int 18))))) (eVar 5) (eC (.int 0))))
    (sSeq (sOwn 7 (lLst aNil))
    (sSeq (sFor (iR1 (aCons (eVar 2) aNil)) (gSet 8) lp__law_digits_0)
    (sRetO 7))))))
def F__law_digits : List PyData → Option Sl := fnD 10 b__law_digits
def lp__law_possible_0 : FS := (sSeq (sIf (asB (e2 fIs (eCallF F__law_run (aCons (eVar 0) (aCons (eVar 1) (aCons (e2 fAdd (eVar 3) (eTup (aCons (eVar 4) aNil))) aNil)))) (eC .none))) (sRet (eVar 3)) sNext)
    (sSet 3 (e2 fAdd (eVar 3) (eTup (aCons (eVar 4) aNil)))))
def b__law_possible : FS := (sSeq (sSet 3 (eTup aNil))
    (sSeq (sFor (iT (eVar 2)) (gSet 4) lp__law_possible_0)
    (sRet (eVar 3))))
def F__law_possible : List PyData → Option Sl := fnD 5 b__law_possible
def b__law_fits : FS := (sSeq (sSet 4 (eCallF F__law_run (aCons (eVar 0) (aCons (eVar 1) (aCons (eVar 2) aNil)))))
    (sRet (eAnd (e2 fIsNot (eVar 4) (eC .none)) (e2 fEq (e2 fIx (eVar 4) (eC (.int 0))) (eVar 3)))))
def F__law_fits : List PyData → Option Sl := fnD 5 b__law_fits
def b_judged : FS := (sSeq (sSet 6 (eCallF F_run (aCons (eVar 0) (aCons (eVar 1) (aCons (eCallF F_with_amount (aCons (eVar 2) (aCons (eVar 3) (aCons (eVar 5) aNil)))) aNil)))))
    (sSeq (sIf (asB (e2 fIs (eVar 6) (eC .none))) (sRet (eTup (aCons (eC (.bool false)) (aCons (eC (.bool true)) aNil)))) sNext)
    (sSeq (sSet 7 (eL (lLZ .t .t (aCons (e2 fIx (eVar 6) (eC (.int 0))) (aCons (eVar 4) aNil)))))
    (sRet (eTup (aCons (eCall fAll (aCons (eL (lLc (iL (eVar 7)) (gTupF 2 (gsCons (gSet 8) (gsCons (gSet 9) gsNil))) pYes (e2 fGe (eVar 8) (eVar 9)) [8, 9])) aNil)) (aCons (eCall fAll (aCons (eL (lLc (iL (eVar 7)) (gTupF 2 (gsCons (gSet 8) (gsCons (gSet 9) gsNil))) pYes (e2 fLe (eVar 8) (eVar 9)) [8, 9])) aNil)) aNil)))))))
def F_judged : List PyData → Option Sl := fnD 10 b_judged
def lp_first_amount_0 : FS := (sSeq (sSet 9 (e2 fDiv (e2 fAdd (eVar 7) (eVar 8)) (eC (.int 2))))
    (sIf (asB (e2 fEq (e2 fIx (eCallF F_judged (aCons (eVar 0) (aCons (eVar 1) (aCons (eVar 2) (aCons (eVar 3) (aCons (eVar 4) (aCons (eVar 9) aNil))))))) (eVar 5)) (eVar 6))) (sSet 8 (eVar 9)) (sSet 7 (e2 fAdd (eVar 9) (eC (.int 1))))))
def b_first_amount : FS := (sSeq (sPar 7 8 (aCons (eC (.int 0)) (aCons (e2 fAdd (eCallF F_largest_amount (aCons (eVar 0) (aCons (eVar 2) (aCons (eVar 3) aNil)))) (eC (.int 1))) aNil)))
    (sSeq (whileD (asB (e2 fLt (eVar 7) (eVar 8))) lp_first_amount_0 64)
    (sRet (eVar 7))))
def F_first_amount : List PyData → Option Sl := fnD 10 b_first_amount
def b_fitting_amounts : FS := (sSeq (sSet 5 (eCall fIntB (aCons (e2 fEq (e2 fIx (e2 fIx (eVar 2) (eVar 3)) (eC (.int 0))) (eC (.str "pour"))) aNil)))
    (sSeq (sSet 6 (eCallF F_first_amount (aCons (eVar 0) (aCons (eVar 1) (aCons (eVar 2) (aCons (eVar 3) (aCons (eVar 4) (aCons (e2 fSub (eC (.int 1)) (eVar 5)) (aCons (eC (.bool true)) aNil)))))))))
    (sSeq (sSet 7 (e2 fSub (eCallF F_first_amount (aCons (eVar 0) (aCons (eVar 1) (aCons (eVar 2) (aCons (eVar 3) (aCons (eVar 4) (aCons (eVar 5) (aCons (eC (.bool false)) aNil)))))))) (eC (.int 1))))
    (sRet (eIf (asB (e2 fLe (eVar 6) (eVar 7))) (eTup (aCons (eVar 6) (aCons (eVar 7) aNil))) (eC .none))))))
def F_fitting_amounts : List PyData → Option Sl := fnD 8 b_fitting_amounts
def lp__law_right_0 : FS := (sIf (tNotF (asB (eCallF F__law_fits (aCons (eVar 0) (aCons (eVar 1) (aCons (eCallF F__law_with (aCons (eVar 2) (aCons (eVar 3) (aCons (eVar 7) aNil)))) (aCons (eVar 4) aNil))))))) (sRet (eC (.bool false))) sNext)
def lp__law_right_1 : FS := (sIf (asB (eCallF F__law_fits (aCons (eVar 0) (aCons (eVar 1) (aCons (eCallF F__law_with (aCons (eVar 2) (aCons (eVar 3) (aCons (eVar 7) aNil)))) (aCons (eVar 4) aNil)))))) (sApp 9 (eVar 7)) sNext)
def b__law_right : FS := (sSeq (sSet 6 (eCallF F_fitting_amounts (aCons (eVar 0) (aCons (eVar 1) (aCons (eCallF F__law_with (aCons (eVar 2) (aCons (eVar 3) (aCons (eC (.int 7)) aNil)))) (aCons (eVar 3) (aCons (eVar 4) aNil)))))))
    (sSeq (sIf (asB (e2 fIsNot (eVar 6) (eC .none))) (sSeq (sAsg (eVar 6) (gTupF 2 (gsCons (gSet 10) (gsCons (gSet 11) gsNil))))
    (sSeq (sFor (iT (eTup (aCons (eVar 10) (aCons (eVar 11) (aCons (e2 fDiv (e2 fAdd (eVar 10) (eVar 11)) (eC (.int 2))) aNil))))) (gSet 7) lp__law_right_0)
    (sSeq (sSet 8 (eL (lCat (eL (lRep (lLst (aCons (e2 fSub (eVar 10) (eC (.int 1))) aNil)) (eCall fIntB (aCons (e2 fGt (eVar 10) (eC (.int 0))) aNil)))) (eL (lRep (lLst (aCons (e2 fAdd (eVar 11) (eC (.int 1))) aNil)) (eCall fIntB (aCons (e2 fLt (eVar 11) (e2 fPow (eC (.int 10)) (eC (.int 9)))) aNil)))))))
    (sIf (asB (e2 fNe (eL (lLc (iL (eVar 8)) (gSet 7) (asB (eCallF F__law_fits (aCons (eVar 0) (aCons (eVar 1) (aCons (eCallF F__law_with (aCons (eVar 2) (aCons (eVar 3) (aCons (eVar 7) aNil)))) (aCons (eVar 4) aNil)))))) (eC (.int 1)) [7])) (eL (lLst aNil)))) (sRet (eC (.bool false))) sNext)))) sNext)
    (sSeq (sIf (asB (eVar 5)) (sSeq (sOwn 9 (lLst aNil))
    (sSeq (sFor (iR1 (aCons (e2 fAdd (e2 fAdd (eCall fSum (aCons (eVar 0) aNil)) (eCall fSum (aCons (eL (lLc (iT (eVar 2)) (gSet 12) pYes (e2 fIx (eVar 12) (e1 fNeg (eC (.int 1)))) [12])) aNil))) (eC (.int 2))) aNil)) (gSet 7) lp__law_right_1)
    (sFrz 9 (sIf (tOrF (asB (e2 fNe (e2 fIs (eVar 6) (eC .none)) (e2 fEq (eVar 9) (eL (lLst aNil))))) (tAndF (asB (e2 fNe (eVar 9) (eL (lLst aNil)))) (asB (e2 fNe (e2 fIx (eVar 6) (eC (.int 0))) (e2 fIx (eVar 9) (eC (.int 0))))))) (sRet (eC (.bool false))) sNext)))) sNext)
    (sSeq (sIf (asB (eCallF F__law_fits (aCons (eVar 0) (aCons (eVar 1) (aCons (eVar 2) (aCons (eVar 4) aNil)))))) (sRet (eAnd (e2 fIsNot (eVar 6) (eC .none)) (eChain fLe fLe (e2 fIx (eVar 6) (eC (.int 0))) (e2 fIx (e2 fIx (eVar 2) (eVar 3)) (e1 fNeg (eC (.int 1)))) (e2 fIx (eVar 6) (eC (.int 1)))))) sNext)
    (sRet (eC (.bool true)))))))
def F__law_right : List PyData → Option Sl := fnD 13 b__law_right
def lp_law_0 : FS := (sIf (tNotF (asB (eCallF F__law_right (aCons (eVar 4) (aCons (eVar 5) (aCons (eVar 6) (aCons (e2 fMod (e2 fIx (eVar 2) (e2 fAdd (eC (.int 140)) (eVar 10))) (eCall fLen (aCons (eVar 6) aNil))) (aCons (eVar 9) (aCons (e2 fEq (eVar 3) (eC (.int 6))) aNil))))))))) (sRet (eC (.bool false))) sNext)
def lp_law_1 : FS := (sFor (iR1 (aCons (eCall fMin (aCons (eC (.int 2)) (aCons (eCall fLen (aCons (eVar 6) aNil)) aNil))) aNil)) (gSet 10) lp_law_0)
def lp_law_2 : FS := (sSeq (sSet 4 (eCallF F__law_caps (aCons (eVar 2) (aCons (eC (.int 4)) (aCons (eVar 3) aNil)))))
    (sSeq (sSet 5 (eCallF F__law_levels (aCons (eL (lSl (eVar 2) (oSome (eC (.int 9))) oNone)) (aCons (eVar 4) aNil))))
    (sSeq (sSet 6 (eCallF F__law_possible (aCons (eVar 4) (aCons (eVar 5) (aCons (eCallF F__law_script (aCons (eL (lSl (eVar 2) (oSome (eC (.int 16))) oNone)) (aCons (eVar 4) (aCons (e2 fIx (eL (lLst (aCons (eC (.int 5)) (aCons (eC (.int 30)) aNil)))) (e2 fMod (e2 fIx (eVar 2) (eC (.int 15))) (eC (.int 2)))) aNil)))) aNil)))))
    (sSeq (sSet 7 (e2 fIx (eCallF F__law_run (aCons (eVar 4) (aCons (eVar 5) (aCons (eVar 6) aNil)))) (eC (.int 0))))
    (sSeq (sSet 8 (eCall fTuple (aCons (eL (lLc (iT (eVar 7)) (gSet 11) pYes (eCall fMax (aCons (eC (.int 0)) (aCons (e2 fSub (eVar 11) (e2 fMod (e2 fIx (eVar 2) (eC (.int 142))) (eC (.int 3)))) aNil))) [11])) aNil)))
    (sFor (iT (eTup (aCons (eVar 7) (aCons (eVar 8) (aCons (eVar 4) (aCons (eVar 5) aNil)))))) (gSet 9) lp_law_1))))))
def lp_law_3 : FS := (sSeq (sSet 2 (eL (lCallF F__law_digits (aCons (eVar 0) (aCons (eVar 1) (aCons (eC (.int 160)) (aCons (eC (.int 27720)) aNil)))))))
    (sFor (iT (eTup (aCons (eC (.int 6)) (aCons (eC (.int 20000)) aNil)))) (gSet 3) lp_law_2))
def b_law : FS := (sSeq (sFor (iR1 (aCons (eC (.int 8)) aNil)) (gSet 1) lp_law_3)
    (sSeq (sIf (asB (e2 fNe (eCallF F_fitting_amounts (aCons (eTup (aCons (eC (.int 5)) (aCons (eC (.int 9)) aNil))) (aCons (eTup (aCons (eC (.int 1)) (aCons (eC (.int 0)) aNil))) (aCons (eTup (aCons (eTup (aCons (eC (.str "pour")) (aCons (eC (.int 0)) aNil))) aNil)) (aCons (eC (.int 0)) (aCons (eTup (aCons (eC (.int 5)) (aCons (eC (.int 9)) aNil))) aNil)))))) (eTup (aCons (eC (.int 13)) (aCons (e2 fPow (eC (.int 10)) (eC (.int 9))) aNil))))) (sRet (eC (.bool false))) sNext)
    (sRet (e2 fEq (eCallF F_fitting_amounts (aCons (eTup (aCons (eC (.int 5)) (aCons (eC (.int 9)) aNil))) (aCons (eTup (aCons (eC (.int 1)) (aCons (eC (.int 0)) aNil))) (aCons (eTup (aCons (eTup (aCons (eC (.str "pour")) (aCons (eC (.int 0)) aNil))) aNil)) (aCons (eC (.int 0)) (aCons (eTup (aCons (eC (.int 5)) (aCons (eC (.int 2)) aNil))) aNil)))))) (eTup (aCons (eC (.int 6)) (aCons (eC (.int 6)) aNil)))))))
def F_law : List PyData → Option Sl := fnD 12 b_law
end Lw
namespace Lw
open PySem L2 Fi
/-! ### evaluation -/
theorem forD_step {g : PyData → En → Option En} {fb : FS} {d : PyData} {ds : List PyData} {env e1 e2 : En} {o : Option Out} (hg : g d env = some e1) (hb : fb e1 = some (.next e2)) (h : forD g fb ds e2 = o) : forD g fb (d :: ds) env = o := by
  simp only [forD, hg, hb, Option.bind_some, h]
theorem forD_ret {g : PyData → En → Option En} {fb : FS} {d v : PyData} {ds : List PyData} {env e1 : En} (hg : g d env = some e1) (hb : fb e1 = some (.ret v)) : forD g fb (d :: ds) env = some (.ret v) := by
  simp only [forD, hg, hb, Option.bind_some]
theorem forD_nil {g : PyData → En → Option En} {fb : FS} {env : En} : forD g fb [] env = some (.next env) := rfl
/-- a loop by an invariant -/
theorem forD_inv {g : PyData → En → Option En} {fb : FS} (P : Nat → En → Prop) : ∀ (ds : List PyData) (k : Nat) (env : En), P k env →
    (∀ (i : Nat) (d : PyData) (e : En), ds[i]? = some d → P (k + i) e → ∃ e1 e2, g d e = some e1 ∧ fb e1 = some (.next e2) ∧ P (k + i + 1) e2) → ∃ e, forD g fb ds env = some (.next e) ∧ P (k + ds.length) e
  | [], k, env, h, _ => ⟨env, rfl, h⟩
  | d :: ds, k, env, h, hs => by
    obtain ⟨e1, e2, h1, h2, h3⟩ := hs 0 d env rfl h
    obtain ⟨e, q1, q2⟩ := forD_inv P ds (k + 1) e2 h3 fun i d' e hd hp => by
      have e0 : k + 1 + i = k + (i + 1) := by omega
      rw [e0] at hp ⊢
      exact hs (i + 1) d' e (by simpa using hd) hp
    refine ⟨e, forD_step h1 h2 q1, ?_⟩
    have e0 : k + (d :: ds).length = k + 1 + ds.length := by rw [List.length_cons]; omega
    rw [e0]
    exact q2
theorem sSeq_next {f g : FS} {env e : En} {o : Option Out} (h : f env = some (.next e)) (h2 : g e = o) : sSeq f g env = o := by
  simp only [sSeq, h, h2]
theorem sSeq_ret {f g : FS} {env : En} {d : PyData} (h : f env = some (.ret d)) : sSeq f g env = some (.ret d) := by
  simp only [sSeq, h]
theorem set_next {i : Nat} {f : FE} {env : En} {d : PyData} (h : f env = some d) : sSet i f env = some (.next (env.set i (some (.val d)))) := by
  simp only [sSet, h, Option.map_some]
theorem for_next {fi : FL} {g : PyData → En → Option En} {fb : FS} {env : En} {ds : List PyData} {o : Option Out} (h : fi env = some ds) (h2 : forD g fb ds env = o) : sFor fi g fb env = o := by
  simp only [sFor, h, Option.bind_some, h2]
theorem fn_ret {n : Nat} {b : FS} {ds : List PyData} {d : PyData} (h : b (entry n ds) = some (.ret d)) : fnD n b ds = some (.val d) := by
  simp only [fnD, h]
theorem fn_retL {n : Nat} {b : FS} {ds l : List PyData} (h : b (entry n ds) = some (.retL l)) : fnD n b ds = some (.own l) := by
  simp only [fnD, h]
theorem fAdd_int (a b : Int) : fAdd (.int a) (.int b) = some (.int (a + b)) := rfl
theorem fAdd_tup {a b : List PyData} (h : a.length + b.length ≤ 100000) : fAdd (.tuple a) (.tuple b) = some (.tuple (a ++ b)) := by
  simp only [fAdd, if_pos h]
theorem fMul_l {a b : Int} (h1 : -18446744073709551616 < a) (h2 : a < 18446744073709551616) : fMul (.int a) (.int b) = some (.int (a * b)) := by
  show (if _ then _ else _) = _
  exact if_pos (.inl ⟨h1, h2⟩)
theorem fMul_r {a b : Int} (h1 : -18446744073709551616 < b) (h2 : b < 18446744073709551616) : fMul (.int a) (.int b) = some (.int (a * b)) := by
  show (if _ then _ else _) = _
  exact if_pos (.inr ⟨h1, h2⟩)
theorem fDiv_ok {a b : Int} (h1 : 0 < b) (h2 : b < 1073741824) : fDiv (.int a) (.int b) = some (.int (a / b)) := by
  show (if _ then _ else _) = _
  exact if_pos ⟨h1, h2⟩
theorem fMod_ok {a b : Int} (h1 : 0 < b) : fMod (.int a) (.int b) = some (.int (a % b)) := by
  show (if _ then _ else _) = _
  exact if_pos h1
theorem fPow_ok {a b : Int} (h1 : 0 ≤ b) (h2 : b ≤ 1000000) (h3 : a.natAbs < 18446744073709551616) : fPow (.int a) (.int b) = some (.int (a ^ b.toNat)) := by
  show (if _ then _ else _) = _
  exact if_pos ⟨h1, h2, h3⟩
theorem fEq_int (a b : Int) : fEq (.int a) (.int b) = some (.bool (decide (a = b))) := rfl
theorem fEq_str (a b : Str) : fEq (.str a) (.str b) = some (.bool (decide (a = b))) := rfl
theorem fEq_bool (a b : Bool) : fEq (.bool a) (.bool b) = some (.bool (decide (a = b))) := rfl
theorem fNe_int (a b : Int) : fNe (.int a) (.int b) = some (.bool (!decide (a = b))) := rfl
theorem fNe_str (a b : Str) : fNe (.str a) (.str b) = some (.bool (!decide (a = b))) := rfl
theorem fNe_bool (a b : Bool) : fNe (.bool a) (.bool b) = some (.bool (!decide (a = b))) := rfl
theorem eqv_self {d : PyData} (h : SeqAt.shaped d = true) : PyData.eqv d d = true := SeqAt.eqv_refl d (SeqAt.canLay_of_shaped h)
theorem fNe_self {d : PyData} (h : SeqAt.shaped d = true) : fNe d d = some (.bool false) := by
  have e := eqv_self h
  cases d <;> simp_all [fNe]
theorem fEq_self {d : PyData} (h : SeqAt.shaped d = true) : fEq d d = some (.bool true) := by
  have e := eqv_self h
  cases d <;> simp_all [fEq]
theorem at_0 {x : PyData} {l : List PyData} : atI (x :: l) 0 = some x := atI_nat (j := 0) rfl
theorem at_1 {x y : PyData} {l : List PyData} : atI (x :: y :: l) 1 = some y := atI_nat (j := 1) rfl
theorem at_2 {x y z : PyData} {l : List PyData} : atI (x :: y :: z :: l) 2 = some z := atI_nat (j := 2) rfl
theorem at_get {l : List Int} {k : Nat} (h : k < l.length) : atI (l.map PyData.int) (k : Int) = some (.int (l.getD k 0)) := by
  refine atI_nat ?_
  rw [List.getElem?_map, List.getElem?_eq_getElem h, List.getD_eq_getElem?_getD, List.getElem?_eq_getElem h]
  rfl
theorem at_getZ {l : List Int} {z : Int} (h0 : 0 ≤ z) (h : z < l.length) : atI (l.map PyData.int) z = some (.int (l.getD z.toNat 0)) := by
  obtain ⟨k, rfl⟩ : ∃ k : Nat, z = k := ⟨z.toNat, by omega⟩
  rw [at_get (by omega), Int.toNat_natCast]
theorem ixN_nat {n k : Nat} (h : k < n) : ixN n (k : Int) = some k := by
  unfold ixN
  rw [if_pos (by omega), if_pos (by omega), Int.toNat_natCast]
theorem cut_to {l : List PyData} {b : Nat} : cutD l none (some (b : Int)) = l.take b := by
  unfold cutD
  rw [HT.sIx_none, HT.sIx_nat, List.drop_zero, Nat.sub_zero]
  by_cases h : b ≤ l.length
  · rw [Nat.min_eq_left h]
  · rw [Nat.min_eq_right (by omega), List.take_length, List.take_of_length_le (by omega)]
theorem cut_from {l : List PyData} {a : Nat} : cutD l (some (a : Int)) none = l.drop a := by
  unfold cutD
  rw [HT.sIx_none, HT.sIx_nat]
  by_cases h : a ≤ l.length
  · rw [Nat.min_eq_left h, List.take_of_length_le (by rw [List.length_drop]; exact Nat.le_refl _)]
  · rw [Nat.min_eq_right (by omega), List.drop_of_length_le (Nat.le_refl _), List.drop_of_length_le (by omega), List.take_nil]
theorem cut_mid {l : List PyData} {a b : Nat} : cutD l (some (a : Int)) (some (b : Int)) = (l.drop a).take (b - a) := by
  unfold cutD
  rw [HT.sIx_nat, HT.sIx_nat]
  by_cases h : a ≤ l.length
  · rw [Nat.min_eq_left h]
    by_cases hb : b ≤ l.length
    · rw [Nat.min_eq_left hb]
    · rw [Nat.min_eq_right (by omega), List.take_of_length_le (by rw [List.length_drop]; exact Nat.le_refl _), List.take_of_length_le (by rw [List.length_drop]; omega)]
  · rw [Nat.min_eq_right (show l.length ≤ a by omega), List.drop_of_length_le (Nat.le_refl _), List.drop_of_length_le (show l.length ≤ a by omega), List.take_nil, List.take_nil]
theorem cut_fromZ {l : List PyData} {z : Int} (h : 0 ≤ z) : cutD l (some z) none = l.drop z.toNat := by
  obtain ⟨k, rfl⟩ : ∃ k : Nat, z = k := ⟨z.toNat, by omega⟩
  rw [cut_from, Int.toNat_natCast]
theorem cut_toZ {l : List PyData} {z : Int} (h : 0 ≤ z) : cutD l none (some z) = l.take z.toNat := by
  obtain ⟨k, rfl⟩ : ∃ k : Nat, z = k := ⟨z.toNat, by omega⟩
  rw [cut_to, Int.toNat_natCast]
/-! ### rows -/
inductive Step where
  | pour (a : Int)
  | spend (i : Nat) (a : Int)
abbrev eT (l : List Int) : PyData := .tuple (l.map .int)
abbrev eStep (s : Step) : PyData := match s with
  | .pour a => .tuple [.str "pour", .int a]
  | .spend i a => .tuple [.str "spend", .int (i : Int), .int a]
abbrev eS (s : List Step) : PyData := .tuple (s.map eStep)
def eR : Option (List Int × Int) → PyData
  | none => .none
  | some r => .tuple [eT r.1, .int r.2]
theorem pour_spend : (("pour" : Str) = "spend") = False := by
  have : ¬ (("pour" : Str) = "spend") := by decide +kernel
  simp [this]
theorem spend_pour : (("spend" : Str) = "pour") = False := by
  have : ¬ (("spend" : Str) = "pour") := by decide +kernel
  simp [this]
def pourM : List Int → List Int → Int → List Int × Int
  | c :: cs, l :: ls, a => ((l + min a (c - l)) :: (pourM cs ls (a - min a (c - l))).1, (pourM cs ls (a - min a (c - l))).2)
  | _, _, a => ([], a)
def stepM (caps lv : List Int) : Step → Option (List Int × Int)
  | .pour a => some (pourM caps lv a)
  | .spend i a => if lv.getD i 0 < a then none else some (lv.set i (lv.getD i 0 - a), 0)
def runA (caps : List Int) : List Int → Int → List Step → Option (List Int × Int)
  | lv, x, [] => some (lv, x)
  | lv, x, s :: r => match stepM caps lv s with
    | none => none
    | some p => runA caps p.1 (x + p.2) r
abbrev runM (caps lv : List Int) (s : List Step) : Option (List Int × Int) := runA caps lv 0 s
/-- the levels fit the caps -/
def Lv : List Int → List Int → Prop
  | [], [] => True
  | c :: cs, l :: ls => 0 ≤ l ∧ l ≤ c ∧ Lv cs ls
  | _, _ => False
def StOk (n : Nat) : Step → Prop
  | .pour a => 0 ≤ a
  | .spend i a => i < n ∧ 0 ≤ a
theorem pourM_len : ∀ {cs ls : List Int} {a : Int}, cs.length = ls.length → (pourM cs ls a).1.length = ls.length
  | [], [], _, _ => rfl
  | c :: cs, l :: ls, a, h => by
    simp only [pourM, List.length_cons]
    rw [pourM_len (by simpa using h)]
theorem stepM_len {caps lv : List Int} {s : Step} {p : List Int × Int} (hl : caps.length = lv.length) (h : stepM caps lv s = some p) : p.1.length = lv.length := by
  cases s with
  | pour a =>
    cases h
    exact pourM_len hl
  | spend i a =>
    simp only [stepM] at h
    split at h
    · cases h
    · cases h
      rw [List.length_set]
theorem Lv.len : ∀ {cs ls : List Int}, Lv cs ls → cs.length = ls.length
  | [], [], _ => rfl
  | _ :: _, _ :: _, h => by rw [List.length_cons, List.length_cons, h.2.2.len]
  | [], _ :: _, h => h.elim
  | _ :: _, [], h => h.elim
theorem Lv.get : ∀ {cs ls : List Int} {i : Nat}, Lv cs ls → i < ls.length → 0 ≤ ls.getD i 0 ∧ ls.getD i 0 ≤ cs.getD i 0
  | c :: cs, l :: ls, 0, h, _ => ⟨h.1, h.2.1⟩
  | c :: cs, l :: ls, i + 1, h, hi => by
    have := h.2.2.get (i := i) (by simpa using hi)
    simpa using this
  | [], [], i, _, h => by simp at h
  | [], _ :: _, _, h, _ => h.elim
  | _ :: _, [], _, h, _ => h.elim
theorem Lv.set : ∀ {cs ls : List Int} {i : Nat} {v : Int}, Lv cs ls → 0 ≤ v → v ≤ cs.getD i 0 → Lv cs (ls.set i v)
  | c :: cs, l :: ls, 0, v, h, h0, h1 => ⟨h0, by simpa using h1, h.2.2⟩
  | c :: cs, l :: ls, i + 1, v, h, h0, h1 => ⟨h.1, h.2.1, h.2.2.set h0 (by simpa using h1)⟩
  | [], [], i, v, h, _, _ => h
  | [], _ :: _, _, _, h, _, _ => h.elim
  | _ :: _, [], _, _, h, _, _ => h.elim
theorem Lv.pour : ∀ {cs ls : List Int} {a : Int}, Lv cs ls → 0 ≤ a → Lv cs (pourM cs ls a).1 ∧ 0 ≤ (pourM cs ls a).2
  | [], [], a, h, h0 => ⟨trivial, h0⟩
  | c :: cs, l :: ls, a, h, h0 => by
    obtain ⟨h1, h2, h3⟩ := h
    have ih := h3.pour (a := a - min a (c - l)) (by omega)
    exact ⟨⟨by omega, by omega, ih.1⟩, ih.2⟩
  | [], _ :: _, _, h, _ => h.elim
  | _ :: _, [], _, h, _ => h.elim
theorem Lv.step {caps lv : List Int} {s : Step} {p : List Int × Int} (h : Lv caps lv) (hs : StOk caps.length s) (e : stepM caps lv s = some p) : Lv caps p.1 ∧ 0 ≤ p.2 := by
  cases s with
  | pour a =>
    cases e
    exact h.pour hs
  | spend i a =>
    simp only [stepM] at e
    split at e
    · cases e
    · cases e
      obtain ⟨h1, h2⟩ := h.get (i := i) (by rw [← h.len]; exact hs.1)
      have h3 : 0 ≤ a := hs.2
      exact ⟨h.set (by omega) (by omega), Int.le_refl _⟩
theorem Lv.run : ∀ {s : List Step} {caps lv : List Int} {x : Int} {p : List Int × Int}, Lv caps lv → (∀ t ∈ s, StOk caps.length t) → runA caps lv x s = some p → Lv caps p.1 ∧ x ≤ p.2
  | [], _, _, _, _, h, _, e => by
    cases e
    exact ⟨h, Int.le_refl _⟩
  | t :: s, caps, lv, x, p, h, hs, e => by
    unfold runA at e
    split at e
    · cases e
    · rename_i q hq
      obtain ⟨h1, h2⟩ := h.step (hs t (by simp)) hq
      obtain ⟨h3, h4⟩ := Lv.run h1 (fun u hu => hs u (by simp [hu])) e
      exact ⟨h3, by omega⟩
theorem Lv.snoc : ∀ {cs ls : List Int} {c l : Int}, Lv cs ls → 0 ≤ l → l ≤ c → Lv (cs ++ [c]) (ls ++ [l])
  | [], [], c, l, _, h0, h1 => ⟨h0, h1, trivial⟩
  | _ :: _, _ :: _, c, l, h, h0, h1 => ⟨h.1, h.2.1, h.2.2.snoc h0 h1⟩
  | [], _ :: _, _, _, h, _, _ => h.elim
  | _ :: _, [], _, _, h, _, _ => h.elim
/-! ### data that are compared -/
theorem canLay_ints : ∀ l : List Int, PyData.canLayAll0 (l.map .int) = true
  | [] => rfl
  | _ :: l => by
    show (PyData.canLay0 (.int _) && PyData.canLayAll0 (l.map .int)) = true
    rw [canLay_ints l]
    rfl
theorem depth_ints : ∀ l : List Int, PyData.depthAll (l.map .int) ≤ 1
  | [] => by simp [PyData.depthAll]
  | _ :: l => by
    have := depth_ints l
    simp only [List.map_cons, PyData.depthAll, PyData.depth]
    omega
theorem shaped_eR (r : Option (List Int × Int)) : SeqAt.shaped (eR r) = true := by
  cases r with
  | none => rfl
  | some p =>
    have h := depth_ints p.1
    have h2 := canLay_ints p.1
    simp only [SeqAt.shaped, eR, PyData.canLay0, PyData.canLayAll0, h2, PyData.depth, PyData.depthAll, Bool.and_true, Bool.true_and, decide_eq_true_eq]
    omega
end Lw

namespace Lw
open PySem L2 Fi
theorem poured_loop : ∀ (cs ls : List Int) (a : Int) (acc : List PyData) (C L x4 x5 x6 : Option Sl), acc.length + cs.length ≤ 1000 → ∃ y4 y5 y6,
    forD (gTupF 2 (gsCons (gSet 4) (gsCons (gSet 5) gsNil))) lp_poured_0 (pairs (cs.map .int) (ls.map .int)) [C, L, some (.val (.int a)), some (.own acc), x4, x5, x6]
      = some (.next [C, L, some (.val (.int (pourM cs ls a).2)), some (.own (acc ++ ((pourM cs ls a).1).map .int)), y4, y5, y6])
  | [], ls, a, acc, C, L, x4, x5, x6, h => ⟨x4, x5, x6, by simp [pairs, forD, pourM]⟩
  | c :: cs, [], a, acc, C, L, x4, x5, x6, h => ⟨x4, x5, x6, by simp [pairs, forD, pourM]⟩
  | c :: cs, l :: ls, a, acc, C, L, x4, x5, x6, h => by
    have hl : acc.length < 100000 := by simp at h; omega
    obtain ⟨y4, y5, y6, ih⟩ := poured_loop cs ls (a - min a (c - l)) (acc ++ [.int (l + min a (c - l))]) C L (some (.val (.int c))) (some (.val (.int l))) (some (.val (.int (min a (c - l))))) (by simp at h ⊢; omega)
    refine ⟨y4, y5, y6, forD_step (e1 := [C, L, some (.val (.int a)), some (.own acc), some (.val (.int c)), some (.val (.int l)), x6]) rfl ?_ (ih.trans ?_)⟩
    · simp only [sSeq, sSet, sOwn, sPar, sParL,  sIf, sRet, sRetL, sRetO, sDrop, sAug, sApp, sFrz, frz, sAsg, gSet, gsNil, gsCons, gTupF, Fi.gSub, sFor, iL, iT, iR1, iR2, iZ, iEn, itemsK, eVar, eC, Fi.e2, Fi.e1, asB, eChain, tAndF, tOrF, tNotF, eAnd, eOr, eNot, eIf, aNil, aCons, eTup, lLst, eL, eCall, lCall, eCallF, lCallF, eSlT, lSl, oNone, oSome, ownIx, ownLen, lLc, wipeE, pYes, sNext, fnD, entry, fAdd_int, fSub, fMul_l, fMul_r, fDiv_ok, fMod_ok, fPow_ok, fLt, fLe, fGt, fGe, fEq_int, fEq_str, fEq_bool, fNe_int, fNe_str, fNe_bool, isN, fIs, fIsNot, fIx, fNeg, fLen, fMin, fMax, fTuple, fList, fIntB, fSum, fAll, fAny, at_0, at_1, at_2, eT, eS, eStep, eR, getInts_map, Option.bind_some, Option.map_some, List.getElem?_cons_succ, List.getElem?_cons_zero, List.set_cons_succ, List.set_cons_zero, List.length_cons, List.length_nil, List.length_map, List.map_cons, List.map_nil, List.nil_append, List.cons_append, List.replicate, Nat.zero_add, Nat.reduceAdd, Nat.reduceSub, decide_true, decide_false, reduceIte, Nat.reduceLeDiff, Nat.reduceLT, Int.reduceLT, Int.reduceLE, Int.reduceNeg, Int.reducePow, and_self, or_self, and_true, true_and, or_true, true_or, Bool.not_true, Bool.not_false, pour_spend, spend_pour, lp_poured_0, hl]
    · simp only [pourM, List.append_assoc, List.singleton_append, List.map_cons]
theorem poured_ok {caps lv : List Int} {a : Int} (hc : caps.length ≤ 100) : F_poured [eT caps, eT lv, .int a] = some (.val (.tuple [eT (pourM caps lv a).1, .int (pourM caps lv a).2])) := by
  obtain ⟨y4, y5, y6, h⟩ := poured_loop caps lv a [] (some (.val (eT caps))) (some (.val (eT lv))) none none none (by simp; omega)
  refine fn_ret ?_
  unfold b_poured
  simp only [eT] at h ⊢
  simp only [sSeq, sSet, sOwn, sPar, sParL,  sIf, sRet, sRetL, sRetO, sDrop, sAug, sApp, sFrz, frz, sAsg, gSet, gsNil, gsCons, gTupF, Fi.gSub, sFor, iL, iT, iR1, iR2, iZ, iEn, itemsK, eVar, eC, Fi.e2, Fi.e1, asB, eChain, tAndF, tOrF, tNotF, eAnd, eOr, eNot, eIf, aNil, aCons, eTup, lLst, eL, eCall, lCall, eCallF, lCallF, eSlT, lSl, oNone, oSome, ownIx, ownLen, lLc, wipeE, pYes, sNext, fnD, entry, fAdd_int, fSub, fMul_l, fMul_r, fDiv_ok, fMod_ok, fPow_ok, fLt, fLe, fGt, fGe, fEq_int, fEq_str, fEq_bool, fNe_int, fNe_str, fNe_bool, isN, fIs, fIsNot, fIx, fNeg, fLen, fMin, fMax, fTuple, fList, fIntB, fSum, fAll, fAny, at_0, at_1, at_2, eT, eS, eStep, eR, getInts_map, Option.bind_some, Option.map_some, List.getElem?_cons_succ, List.getElem?_cons_zero, List.set_cons_succ, List.set_cons_zero, List.length_cons, List.length_nil, List.length_map, List.map_cons, List.map_nil, List.nil_append, List.cons_append, List.replicate, Nat.zero_add, Nat.reduceAdd, Nat.reduceSub, decide_true, decide_false, reduceIte, Nat.reduceLeDiff, Nat.reduceLT, Int.reduceLT, Int.reduceLE, Int.reduceNeg, Int.reducePow, and_self, or_self, and_true, true_and, or_true, true_or, Bool.not_true, Bool.not_false, pour_spend, spend_pour, h, List.length_nil, Nat.zero_le]
theorem set_cut {lv : List Int} {i : Nat} {v : Int} (h : i < lv.length) : (lv.map PyData.int).take i ++ [.int v] ++ (lv.map PyData.int).drop (i + 1) = (lv.set i v).map .int := by
  rw [List.set_eq_take_append_cons_drop, if_pos h, List.map_append, List.map_cons, List.map_take, List.map_drop, List.append_assoc]
  rfl
theorem run_loop {caps : List Int} (hc : caps.length ≤ 100) (S : Option Sl) : ∀ (s : List Step) (lv : List Int) (x : Int) (y4 y5 y6 y7 : Option Sl), caps.length = lv.length → (∀ t ∈ s, StOk caps.length t) →
    match runA caps lv x s with
    | none => forD (gSet 4) lp_run_0 (s.map eStep) [some (.val (eT caps)), some (.val (eT lv)), S, some (.val (.int x)), y4, y5, y6, y7] = some (.ret .none)
    | some p => ∃ z4 z5 z6 z7, forD (gSet 4) lp_run_0 (s.map eStep) [some (.val (eT caps)), some (.val (eT lv)), S, some (.val (.int x)), y4, y5, y6, y7]
        = some (.next [some (.val (eT caps)), some (.val (eT p.1)), S, some (.val (.int p.2)), z4, z5, z6, z7])
  | [], lv, x, y4, y5, y6, y7, hl, hs => ⟨y4, y5, y6, y7, rfl⟩
  | .pour a :: s, lv, x, y4, y5, y6, y7, hl, hs => by
    have ih := run_loop hc S s (pourM caps lv a).1 (x + (pourM caps lv a).2) (some (.val (eStep (.pour a)))) (some (.val (.int (pourM caps lv a).2))) y6 y7 (by rw [pourM_len hl, hl]) (fun t ht => hs t (by simp [ht]))
    have hp := poured_ok (caps := caps) (lv := lv) (a := a) hc
    have hb : lp_run_0 [some (.val (eT caps)), some (.val (eT lv)), S, some (.val (.int x)), some (.val (eStep (.pour a))), y5, y6, y7] = some (.next [some (.val (eT caps)), some (.val (eT (pourM caps lv a).1)), S, some (.val (.int (x + (pourM caps lv a).2))), some (.val (eStep (.pour a))), some (.val (.int (pourM caps lv a).2)), y6, y7]) := by
      simp only [eT] at hp
      simp only [sSeq, sSet, sOwn, sPar, sParL,  sIf, sRet, sRetL, sRetO, sDrop, sAug, sApp, sFrz, frz, sAsg, gSet, gsNil, gsCons, gTupF, Fi.gSub, sFor, iL, iT, iR1, iR2, iZ, iEn, itemsK, eVar, eC, Fi.e2, Fi.e1, asB, eChain, tAndF, tOrF, tNotF, eAnd, eOr, eNot, eIf, aNil, aCons, eTup, lLst, eL, eCall, lCall, eCallF, lCallF, eSlT, lSl, oNone, oSome, ownIx, ownLen, lLc, wipeE, pYes, sNext, fnD, entry, fAdd_int, fSub, fMul_l, fMul_r, fDiv_ok, fMod_ok, fPow_ok, fLt, fLe, fGt, fGe, fEq_int, fEq_str, fEq_bool, fNe_int, fNe_str, fNe_bool, isN, fIs, fIsNot, fIx, fNeg, fLen, fMin, fMax, fTuple, fList, fIntB, fSum, fAll, fAny, at_0, at_1, at_2, eT, eS, eStep, eR, getInts_map, Option.bind_some, Option.map_some, List.getElem?_cons_succ, List.getElem?_cons_zero, List.set_cons_succ, List.set_cons_zero, List.length_cons, List.length_nil, List.length_map, List.map_cons, List.map_nil, List.nil_append, List.cons_append, List.replicate, Nat.zero_add, Nat.reduceAdd, Nat.reduceSub, decide_true, decide_false, reduceIte, Nat.reduceLeDiff, Nat.reduceLT, Int.reduceLT, Int.reduceLE, Int.reduceNeg, Int.reducePow, and_self, or_self, and_true, true_and, or_true, true_or, Bool.not_true, Bool.not_false, pour_spend, spend_pour, lp_run_0, hp]
    simp only [runA, stepM]
    cases hr : runA caps (pourM caps lv a).1 (x + (pourM caps lv a).2) s with
    | none =>
      rw [hr] at ih
      exact forD_step rfl hb ih
    | some p =>
      rw [hr] at ih
      obtain ⟨z4, z5, z6, z7, ih⟩ := ih
      exact ⟨z4, z5, z6, z7, forD_step rfl hb ih⟩
  | .spend i a :: s, lv, x, y4, y5, y6, y7, hl, hs => by
    have hi : i < caps.length := (hs (.spend i a) (by simp)).1
    have hil : i < lv.length := by omega
    have hg := at_get hil
    simp only [runA, stepM]
    by_cases hlt : lv.getD i 0 < a
    · simp only [if_pos hlt]
      refine forD_ret rfl ?_
      show lp_run_0 [some (.val (eT caps)), some (.val (eT lv)), S, some (.val (.int x)), some (.val (eStep (.spend i a))), y5, y6, y7] = _
      simp only [sSeq, sSet, sOwn, sPar, sParL,  sIf, sRet, sRetL, sRetO, sDrop, sAug, sApp, sFrz, frz, sAsg, gSet, gsNil, gsCons, gTupF, Fi.gSub, sFor, iL, iT, iR1, iR2, iZ, iEn, itemsK, eVar, eC, Fi.e2, Fi.e1, asB, eChain, tAndF, tOrF, tNotF, eAnd, eOr, eNot, eIf, aNil, aCons, eTup, lLst, eL, eCall, lCall, eCallF, lCallF, eSlT, lSl, oNone, oSome, ownIx, ownLen, lLc, wipeE, pYes, sNext, fnD, entry, fAdd_int, fSub, fMul_l, fMul_r, fDiv_ok, fMod_ok, fPow_ok, fLt, fLe, fGt, fGe, fEq_int, fEq_str, fEq_bool, fNe_int, fNe_str, fNe_bool, isN, fIs, fIsNot, fIx, fNeg, fLen, fMin, fMax, fTuple, fList, fIntB, fSum, fAll, fAny, at_0, at_1, at_2, eT, eS, eStep, eR, getInts_map, Option.bind_some, Option.map_some, List.getElem?_cons_succ, List.getElem?_cons_zero, List.set_cons_succ, List.set_cons_zero, List.length_cons, List.length_nil, List.length_map, List.map_cons, List.map_nil, List.nil_append, List.cons_append, List.replicate, Nat.zero_add, Nat.reduceAdd, Nat.reduceSub, decide_true, decide_false, reduceIte, Nat.reduceLeDiff, Nat.reduceLT, Int.reduceLT, Int.reduceLE, Int.reduceNeg, Int.reducePow, and_self, or_self, and_true, true_and, or_true, true_or, Bool.not_true, Bool.not_false, pour_spend, spend_pour, lp_run_0, hg, hlt]
    · simp only [if_neg hlt, Int.add_zero]
      have ih := run_loop hc S s (lv.set i (lv.getD i 0 - a)) x (some (.val (eStep (.spend i a)))) y5 (some (.val (.int i))) (some (.val (.int a))) (by rw [List.length_set, hl]) (fun t ht => hs t (by simp [ht]))
      have q1 : cutD (lv.map PyData.int) none (some (i : Int)) = (lv.map PyData.int).take i := cut_to
      have q2 : cutD (lv.map PyData.int) (some ((i : Int) + 1)) none = (lv.map PyData.int).drop (i + 1) := cut_from (a := i + 1)
      have a1 : fAdd (.tuple ((lv.map PyData.int).take i)) (.tuple [.int (lv.getD i 0 - a)]) = some (.tuple ((lv.map PyData.int).take i ++ [.int (lv.getD i 0 - a)])) := fAdd_tup (by simp; omega)
      have a2 : fAdd (.tuple ((lv.map PyData.int).take i ++ [.int (lv.getD i 0 - a)])) (.tuple ((lv.map PyData.int).drop (i + 1))) = some (.tuple ((lv.set i (lv.getD i 0 - a)).map .int)) := by
        rw [fAdd_tup (by simp; omega), set_cut hil]
      have hb : lp_run_0 [some (.val (eT caps)), some (.val (eT lv)), S, some (.val (.int x)), some (.val (eStep (.spend i a))), y5, y6, y7] = some (.next [some (.val (eT caps)), some (.val (eT (lv.set i (lv.getD i 0 - a)))), S, some (.val (.int x)), some (.val (eStep (.spend i a))), y5, some (.val (.int i)), some (.val (.int a))]) := by
        simp only [sSeq, sSet, sOwn, sPar, sParL,  sIf, sRet, sRetL, sRetO, sDrop, sAug, sApp, sFrz, frz, sAsg, gSet, gsNil, gsCons, gTupF, Fi.gSub, sFor, iL, iT, iR1, iR2, iZ, iEn, itemsK, eVar, eC, Fi.e2, Fi.e1, asB, eChain, tAndF, tOrF, tNotF, eAnd, eOr, eNot, eIf, aNil, aCons, eTup, lLst, eL, eCall, lCall, eCallF, lCallF, eSlT, lSl, oNone, oSome, ownIx, ownLen, lLc, wipeE, pYes, sNext, fnD, entry, fAdd_int, fSub, fMul_l, fMul_r, fDiv_ok, fMod_ok, fPow_ok, fLt, fLe, fGt, fGe, fEq_int, fEq_str, fEq_bool, fNe_int, fNe_str, fNe_bool, isN, fIs, fIsNot, fIx, fNeg, fLen, fMin, fMax, fTuple, fList, fIntB, fSum, fAll, fAny, at_0, at_1, at_2, eT, eS, eStep, eR, getInts_map, Option.bind_some, Option.map_some, List.getElem?_cons_succ, List.getElem?_cons_zero, List.set_cons_succ, List.set_cons_zero, List.length_cons, List.length_nil, List.length_map, List.map_cons, List.map_nil, List.nil_append, List.cons_append, List.replicate, Nat.zero_add, Nat.reduceAdd, Nat.reduceSub, decide_true, decide_false, reduceIte, Nat.reduceLeDiff, Nat.reduceLT, Int.reduceLT, Int.reduceLE, Int.reduceNeg, Int.reducePow, and_self, or_self, and_true, true_and, or_true, true_or, Bool.not_true, Bool.not_false, pour_spend, spend_pour, lp_run_0, hg, hlt, q1, q2, a1, a2]
      cases hr : runA caps (lv.set i (lv.getD i 0 - a)) x s with
      | none =>
        rw [hr] at ih
        exact forD_step rfl hb ih
      | some p =>
        rw [hr] at ih
        obtain ⟨z4, z5, z6, z7, ih⟩ := ih
        exact ⟨z4, z5, z6, z7, forD_step rfl hb ih⟩
theorem run_ok {caps lv : List Int} {s : List Step} (hc : caps.length ≤ 100) (hl : caps.length = lv.length) (hs : ∀ t ∈ s, StOk caps.length t) : F_run [eT caps, eT lv, eS s] = some (.val (eR (runM caps lv s))) := by
  have h := run_loop hc (some (.val (eS s))) s lv 0 none none none none hl hs
  cases hr : runM caps lv s with
  | none =>
    have hr' : runA caps lv 0 s = none := hr
    rw [hr'] at h
    refine fn_ret ?_
    unfold b_run
    simp only [eT, eS] at h ⊢
    simp only [sSeq, sSet, sOwn, sPar, sParL,  sIf, sRet, sRetL, sRetO, sDrop, sAug, sApp, sFrz, frz, sAsg, gSet, gsNil, gsCons, gTupF, Fi.gSub, sFor, iL, iT, iR1, iR2, iZ, iEn, itemsK, eVar, eC, Fi.e2, Fi.e1, asB, eChain, tAndF, tOrF, tNotF, eAnd, eOr, eNot, eIf, aNil, aCons, eTup, lLst, eL, eCall, lCall, eCallF, lCallF, eSlT, lSl, oNone, oSome, ownIx, ownLen, lLc, wipeE, pYes, sNext, fnD, entry, fAdd_int, fSub, fMul_l, fMul_r, fDiv_ok, fMod_ok, fPow_ok, fLt, fLe, fGt, fGe, fEq_int, fEq_str, fEq_bool, fNe_int, fNe_str, fNe_bool, isN, fIs, fIsNot, fIx, fNeg, fLen, fMin, fMax, fTuple, fList, fIntB, fSum, fAll, fAny, at_0, at_1, at_2, eT, eS, eStep, eR, getInts_map, Option.bind_some, Option.map_some, List.getElem?_cons_succ, List.getElem?_cons_zero, List.set_cons_succ, List.set_cons_zero, List.length_cons, List.length_nil, List.length_map, List.map_cons, List.map_nil, List.nil_append, List.cons_append, List.replicate, Nat.zero_add, Nat.reduceAdd, Nat.reduceSub, decide_true, decide_false, reduceIte, Nat.reduceLeDiff, Nat.reduceLT, Int.reduceLT, Int.reduceLE, Int.reduceNeg, Int.reducePow, and_self, or_self, and_true, true_and, or_true, true_or, Bool.not_true, Bool.not_false, pour_spend, spend_pour, h]
  | some p =>
    have hr' : runA caps lv 0 s = some p := hr
    rw [hr'] at h
    obtain ⟨z4, z5, z6, z7, h⟩ := h
    refine fn_ret ?_
    unfold b_run
    simp only [eT, eS] at h ⊢
    simp only [sSeq, sSet, sOwn, sPar, sParL,  sIf, sRet, sRetL, sRetO, sDrop, sAug, sApp, sFrz, frz, sAsg, gSet, gsNil, gsCons, gTupF, Fi.gSub, sFor, iL, iT, iR1, iR2, iZ, iEn, itemsK, eVar, eC, Fi.e2, Fi.e1, asB, eChain, tAndF, tOrF, tNotF, eAnd, eOr, eNot, eIf, aNil, aCons, eTup, lLst, eL, eCall, lCall, eCallF, lCallF, eSlT, lSl, oNone, oSome, ownIx, ownLen, lLc, wipeE, pYes, sNext, fnD, entry, fAdd_int, fSub, fMul_l, fMul_r, fDiv_ok, fMod_ok, fPow_ok, fLt, fLe, fGt, fGe, fEq_int, fEq_str, fEq_bool, fNe_int, fNe_str, fNe_bool, isN, fIs, fIsNot, fIx, fNeg, fLen, fMin, fMax, fTuple, fList, fIntB, fSum, fAll, fAny, at_0, at_1, at_2, eT, eS, eStep, eR, getInts_map, Option.bind_some, Option.map_some, List.getElem?_cons_succ, List.getElem?_cons_zero, List.set_cons_succ, List.set_cons_zero, List.length_cons, List.length_nil, List.length_map, List.map_cons, List.map_nil, List.nil_append, List.cons_append, List.replicate, Nat.zero_add, Nat.reduceAdd, Nat.reduceSub, decide_true, decide_false, reduceIte, Nat.reduceLeDiff, Nat.reduceLT, Int.reduceLT, Int.reduceLE, Int.reduceNeg, Int.reducePow, and_self, or_self, and_true, true_and, or_true, true_or, Bool.not_true, Bool.not_false, pour_spend, spend_pour, h]
end Lw

namespace Lw
open PySem L2 Fi
/-- the law's own pour, place by place -/
theorem lpour_loop (L S x3 x5 : Option Sl) (caps : List Int) (C : Option Sl) : ∀ (cs ls : List Int) (pl : List Int) (i : Nat) (a : Int) (x7 x8 x9 : Option Sl), cs.length = ls.length → pl.length = i → ∃ y7 y8 y9,
    forD (gTupF 2 (gsCons (gSet 7) (gsCons (gSet 8) gsNil))) lp__law_run_0 (List.zipWith (fun (i : Nat) y => .tuple [.int (i : Int), y]) (List.range' i cs.length) (cs.map .int)) [C, L, S, x3, some (.own ((pl ++ ls).map .int)), x5, some (.val (.int a)), x7, x8, x9]
      = some (.next [C, L, S, x3, some (.own ((pl ++ (pourM cs ls a).1).map .int)), x5, some (.val (.int (pourM cs ls a).2)), y7, y8, y9])
  | [], [], pl, i, a, x7, x8, x9, _, _ => ⟨x7, x8, x9, by simp [forD, pourM]⟩
  | [], _ :: _, _, _, _, _, _, _, h, _ => by simp at h
  | _ :: _, [], _, _, _, _, _, _, h, _ => by simp at h
  | c :: cs, l :: ls, pl, i, a, x7, x8, x9, h, hi => by
    have hlt : i < (pl ++ l :: ls).length := by simp; omega
    have gv : (pl ++ l :: ls).getD i 0 = l := by
      rw [List.getD_eq_getElem?_getD, List.getElem?_append_right (by omega), hi, Nat.sub_self]
      rfl
    have g1 : atI ((pl ++ l :: ls).map PyData.int) (i : Int) = some (.int l) := by
      have := at_get hlt
      rw [gv] at this
      exact this
    have hx : ixN ((pl ++ l :: ls).map PyData.int).length (i : Int) = some i := ixN_nat (by rw [List.length_map]; exact hlt)
    have hset : ∀ v : Int, ((pl ++ l :: ls).map PyData.int).set i (.int v) = ((pl ++ [v]) ++ ls).map .int := fun v => by
      rw [← List.map_set]
      congr 1
      subst hi
      simp [List.set_append]
    obtain ⟨y7, y8, y9, ih⟩ := lpour_loop L S x3 x5 caps C cs ls (pl ++ [l + min a (c - l)]) (i + 1) (a - min a (c - l)) (some (.val (.int i))) (some (.val (.int c))) (some (.val (.int (min a (c - l))))) (by simpa using h) (by simp [hi])
    have hb : lp__law_run_0 [C, L, S, x3, some (.own ((pl ++ l :: ls).map .int)), x5, some (.val (.int a)), some (.val (.int i)), some (.val (.int c)), x9]
        = some (.next [C, L, S, x3, some (.own (((pl ++ [l + min a (c - l)]) ++ ls).map .int)), x5, some (.val (.int (a - min a (c - l)))), some (.val (.int i)), some (.val (.int c)), some (.val (.int (min a (c - l))))]) := by
      simp only [List.length_map] at hx
      by_cases hlt2 : c - l < a
      · have em : min a (c - l) = c - l := by omega
        simp only [sSeq, sSet, sOwn, sPar, sParL,  sIf, sRet, sRetL, sRetO, sDrop, sAug, sApp, sFrz, frz, sAsg, gSet, gsNil, gsCons, gTupF, Fi.gSub, sFor, iL, iT, iR1, iR2, iZ, iEn, itemsK, eVar, eC, Fi.e2, Fi.e1, asB, eChain, tAndF, tOrF, tNotF, eAnd, eOr, eNot, eIf, aNil, aCons, eTup, lLst, eL, eCall, lCall, eCallF, lCallF, eSlT, lSl, oNone, oSome, ownIx, ownLen, lLc, wipeE, pYes, sNext, fnD, entry, fAdd_int, fSub, fMul_l, fMul_r, fDiv_ok, fMod_ok, fPow_ok, fLt, fLe, fGt, fGe, fEq_int, fEq_str, fEq_bool, fNe_int, fNe_str, fNe_bool, isN, fIs, fIsNot, fIx, fNeg, fLen, fMin, fMax, fTuple, fList, fIntB, fSum, fAll, fAny, at_0, at_1, at_2, eT, eS, eStep, eR, getInts_map, Option.bind_some, Option.map_some, List.getElem?_cons_succ, List.getElem?_cons_zero, List.set_cons_succ, List.set_cons_zero, List.length_cons, List.length_nil, List.length_map, List.map_cons, List.map_nil, List.nil_append, List.cons_append, List.replicate, Nat.zero_add, Nat.reduceAdd, Nat.reduceSub, decide_true, decide_false, reduceIte, Nat.reduceLeDiff, Nat.reduceLT, Int.reduceLT, Int.reduceLE, Int.reduceNeg, Int.reducePow, and_self, or_self, and_true, true_and, or_true, true_or, Bool.not_true, Bool.not_false, pour_spend, spend_pour, lp__law_run_0, g1, hlt2, em, hx, hset]
      · have em : min a (c - l) = a := by omega
        simp only [sSeq, sSet, sOwn, sPar, sParL,  sIf, sRet, sRetL, sRetO, sDrop, sAug, sApp, sFrz, frz, sAsg, gSet, gsNil, gsCons, gTupF, Fi.gSub, sFor, iL, iT, iR1, iR2, iZ, iEn, itemsK, eVar, eC, Fi.e2, Fi.e1, asB, eChain, tAndF, tOrF, tNotF, eAnd, eOr, eNot, eIf, aNil, aCons, eTup, lLst, eL, eCall, lCall, eCallF, lCallF, eSlT, lSl, oNone, oSome, ownIx, ownLen, lLc, wipeE, pYes, sNext, fnD, entry, fAdd_int, fSub, fMul_l, fMul_r, fDiv_ok, fMod_ok, fPow_ok, fLt, fLe, fGt, fGe, fEq_int, fEq_str, fEq_bool, fNe_int, fNe_str, fNe_bool, isN, fIs, fIsNot, fIx, fNeg, fLen, fMin, fMax, fTuple, fList, fIntB, fSum, fAll, fAny, at_0, at_1, at_2, eT, eS, eStep, eR, getInts_map, Option.bind_some, Option.map_some, List.getElem?_cons_succ, List.getElem?_cons_zero, List.set_cons_succ, List.set_cons_zero, List.length_cons, List.length_nil, List.length_map, List.map_cons, List.map_nil, List.nil_append, List.cons_append, List.replicate, Nat.zero_add, Nat.reduceAdd, Nat.reduceSub, decide_true, decide_false, reduceIte, Nat.reduceLeDiff, Nat.reduceLT, Int.reduceLT, Int.reduceLE, Int.reduceNeg, Int.reducePow, and_self, or_self, and_true, true_and, or_true, true_or, Bool.not_true, Bool.not_false, pour_spend, spend_pour, lp__law_run_0, g1, hlt2, em, hx, hset]
    refine ⟨y7, y8, y9, ?_⟩
    rw [List.length_cons, List.range'_succ, List.map_cons, List.zipWith_cons_cons]
    refine forD_step (e1 := [C, L, S, x3, some (.own ((pl ++ l :: ls).map .int)), x5, some (.val (.int a)), some (.val (.int i)), some (.val (.int c)), x9]) rfl hb (ih.trans ?_)
    simp only [pourM, List.append_assoc, List.singleton_append]
theorem lrun_loop {caps : List Int} (hc : caps.length ≤ 100) (L S : Option Sl) : ∀ (s : List Step) (lv : List Int) (x : Int) (y3 y6 y7 y8 y9 : Option Sl), caps.length = lv.length → (∀ t ∈ s, StOk caps.length t) →
    match runA caps lv x s with
    | none => forD (gSet 3) lp__law_run_1 (s.map eStep) [some (.val (eT caps)), L, S, y3, some (.own (lv.map .int)), some (.val (.int x)), y6, y7, y8, y9] = some (.ret .none)
    | some p => ∃ z3 z6 z7 z8 z9, forD (gSet 3) lp__law_run_1 (s.map eStep) [some (.val (eT caps)), L, S, y3, some (.own (lv.map .int)), some (.val (.int x)), y6, y7, y8, y9]
        = some (.next [some (.val (eT caps)), L, S, z3, some (.own (p.1.map .int)), some (.val (.int p.2)), z6, z7, z8, z9])
  | [], lv, x, y3, y6, y7, y8, y9, hl, hs => ⟨y3, y6, y7, y8, y9, rfl⟩
  | .pour a :: s, lv, x, y3, y6, y7, y8, y9, hl, hs => by
    obtain ⟨w7, w8, w9, hp⟩ := lpour_loop L S (some (.val (eStep (.pour a)))) (some (.val (.int x))) caps (some (.val (eT caps))) caps lv [] 0 a y7 y8 y9 hl rfl
    have ih := lrun_loop hc L S s (pourM caps lv a).1 (x + (pourM caps lv a).2) (some (.val (eStep (.pour a)))) (some (.val (.int (pourM caps lv a).2))) w7 w8 w9 (by rw [pourM_len hl, hl]) (fun t ht => hs t (by simp [ht]))
    have hb : lp__law_run_1 [some (.val (eT caps)), L, S, some (.val (eStep (.pour a))), some (.own (lv.map .int)), some (.val (.int x)), y6, y7, y8, y9]
        = some (.next [some (.val (eT caps)), L, S, some (.val (eStep (.pour a))), some (.own ((pourM caps lv a).1.map .int)), some (.val (.int (x + (pourM caps lv a).2))), some (.val (.int (pourM caps lv a).2)), w7, w8, w9]) := by
      simp only [List.nil_append, eT, eStep] at hp
      rw [← List.range_eq_range'] at hp
      simp only [sSeq, sSet, sOwn, sPar, sParL,  sIf, sRet, sRetL, sRetO, sDrop, sAug, sApp, sFrz, frz, sAsg, gSet, gsNil, gsCons, gTupF, Fi.gSub, sFor, iL, iT, iR1, iR2, iZ, iEn, itemsK, eVar, eC, Fi.e2, Fi.e1, asB, eChain, tAndF, tOrF, tNotF, eAnd, eOr, eNot, eIf, aNil, aCons, eTup, lLst, eL, eCall, lCall, eCallF, lCallF, eSlT, lSl, oNone, oSome, ownIx, ownLen, lLc, wipeE, pYes, sNext, fnD, entry, fAdd_int, fSub, fMul_l, fMul_r, fDiv_ok, fMod_ok, fPow_ok, fLt, fLe, fGt, fGe, fEq_int, fEq_str, fEq_bool, fNe_int, fNe_str, fNe_bool, isN, fIs, fIsNot, fIx, fNeg, fLen, fMin, fMax, fTuple, fList, fIntB, fSum, fAll, fAny, at_0, at_1, at_2, eT, eS, eStep, eR, getInts_map, Option.bind_some, Option.map_some, List.getElem?_cons_succ, List.getElem?_cons_zero, List.set_cons_succ, List.set_cons_zero, List.length_cons, List.length_nil, List.length_map, List.map_cons, List.map_nil, List.nil_append, List.cons_append, List.replicate, Nat.zero_add, Nat.reduceAdd, Nat.reduceSub, decide_true, decide_false, reduceIte, Nat.reduceLeDiff, Nat.reduceLT, Int.reduceLT, Int.reduceLE, Int.reduceNeg, Int.reducePow, and_self, or_self, and_true, true_and, or_true, true_or, Bool.not_true, Bool.not_false, pour_spend, spend_pour, lp__law_run_1, enumD, hp]
    simp only [runA, stepM]
    cases hr : runA caps (pourM caps lv a).1 (x + (pourM caps lv a).2) s with
    | none =>
      rw [hr] at ih
      exact forD_step rfl hb ih
    | some p =>
      rw [hr] at ih
      obtain ⟨z3, z6, z7, z8, z9, ih⟩ := ih
      exact ⟨z3, z6, z7, z8, z9, forD_step rfl hb ih⟩
  | .spend i a :: s, lv, x, y3, y6, y7, y8, y9, hl, hs => by
    have hi : i < caps.length := (hs (.spend i a) (by simp)).1
    have hil : i < lv.length := by omega
    have hg := at_get hil
    simp only [runA, stepM]
    by_cases hlt : lv.getD i 0 < a
    · simp only [if_pos hlt]
      refine forD_ret rfl ?_
      show lp__law_run_1 [some (.val (eT caps)), L, S, some (.val (eStep (.spend i a))), some (.own (lv.map .int)), some (.val (.int x)), y6, y7, y8, y9] = _
      simp only [sSeq, sSet, sOwn, sPar, sParL,  sIf, sRet, sRetL, sRetO, sDrop, sAug, sApp, sFrz, frz, sAsg, gSet, gsNil, gsCons, gTupF, Fi.gSub, sFor, iL, iT, iR1, iR2, iZ, iEn, itemsK, eVar, eC, Fi.e2, Fi.e1, asB, eChain, tAndF, tOrF, tNotF, eAnd, eOr, eNot, eIf, aNil, aCons, eTup, lLst, eL, eCall, lCall, eCallF, lCallF, eSlT, lSl, oNone, oSome, ownIx, ownLen, lLc, wipeE, pYes, sNext, fnD, entry, fAdd_int, fSub, fMul_l, fMul_r, fDiv_ok, fMod_ok, fPow_ok, fLt, fLe, fGt, fGe, fEq_int, fEq_str, fEq_bool, fNe_int, fNe_str, fNe_bool, isN, fIs, fIsNot, fIx, fNeg, fLen, fMin, fMax, fTuple, fList, fIntB, fSum, fAll, fAny, at_0, at_1, at_2, eT, eS, eStep, eR, getInts_map, Option.bind_some, Option.map_some, List.getElem?_cons_succ, List.getElem?_cons_zero, List.set_cons_succ, List.set_cons_zero, List.length_cons, List.length_nil, List.length_map, List.map_cons, List.map_nil, List.nil_append, List.cons_append, List.replicate, Nat.zero_add, Nat.reduceAdd, Nat.reduceSub, decide_true, decide_false, reduceIte, Nat.reduceLeDiff, Nat.reduceLT, Int.reduceLT, Int.reduceLE, Int.reduceNeg, Int.reducePow, and_self, or_self, and_true, true_and, or_true, true_or, Bool.not_true, Bool.not_false, pour_spend, spend_pour, lp__law_run_1, hg, hlt]
    · simp only [if_neg hlt, Int.add_zero]
      have ih := lrun_loop hc L S s (lv.set i (lv.getD i 0 - a)) x (some (.val (eStep (.spend i a)))) y6 y7 y8 y9 (by rw [List.length_set, hl]) (fun t ht => hs t (by simp [ht]))
      have hx : ixN (lv.map PyData.int).length (i : Int) = some i := ixN_nat (by rw [List.length_map]; exact hil)
      simp only [List.length_map] at hx
      have hset : (lv.map PyData.int).set i (.int (lv.getD i 0 - a)) = (lv.set i (lv.getD i 0 - a)).map .int := by rw [← List.map_set]
      have hb : lp__law_run_1 [some (.val (eT caps)), L, S, some (.val (eStep (.spend i a))), some (.own (lv.map .int)), some (.val (.int x)), y6, y7, y8, y9]
          = some (.next [some (.val (eT caps)), L, S, some (.val (eStep (.spend i a))), some (.own ((lv.set i (lv.getD i 0 - a)).map .int)), some (.val (.int x)), y6, y7, y8, y9]) := by
        simp only [sSeq, sSet, sOwn, sPar, sParL,  sIf, sRet, sRetL, sRetO, sDrop, sAug, sApp, sFrz, frz, sAsg, gSet, gsNil, gsCons, gTupF, Fi.gSub, sFor, iL, iT, iR1, iR2, iZ, iEn, itemsK, eVar, eC, Fi.e2, Fi.e1, asB, eChain, tAndF, tOrF, tNotF, eAnd, eOr, eNot, eIf, aNil, aCons, eTup, lLst, eL, eCall, lCall, eCallF, lCallF, eSlT, lSl, oNone, oSome, ownIx, ownLen, lLc, wipeE, pYes, sNext, fnD, entry, fAdd_int, fSub, fMul_l, fMul_r, fDiv_ok, fMod_ok, fPow_ok, fLt, fLe, fGt, fGe, fEq_int, fEq_str, fEq_bool, fNe_int, fNe_str, fNe_bool, isN, fIs, fIsNot, fIx, fNeg, fLen, fMin, fMax, fTuple, fList, fIntB, fSum, fAll, fAny, at_0, at_1, at_2, eT, eS, eStep, eR, getInts_map, Option.bind_some, Option.map_some, List.getElem?_cons_succ, List.getElem?_cons_zero, List.set_cons_succ, List.set_cons_zero, List.length_cons, List.length_nil, List.length_map, List.map_cons, List.map_nil, List.nil_append, List.cons_append, List.replicate, Nat.zero_add, Nat.reduceAdd, Nat.reduceSub, decide_true, decide_false, reduceIte, Nat.reduceLeDiff, Nat.reduceLT, Int.reduceLT, Int.reduceLE, Int.reduceNeg, Int.reducePow, and_self, or_self, and_true, true_and, or_true, true_or, Bool.not_true, Bool.not_false, pour_spend, spend_pour, lp__law_run_1, hg, hlt, hx, hset]
      cases hr : runA caps (lv.set i (lv.getD i 0 - a)) x s with
      | none =>
        rw [hr] at ih
        exact forD_step rfl hb ih
      | some p =>
        rw [hr] at ih
        obtain ⟨z3, z6, z7, z8, z9, ih⟩ := ih
        exact ⟨z3, z6, z7, z8, z9, forD_step rfl hb ih⟩
theorem lrun_ok {caps lv : List Int} {s : List Step} (hc : caps.length ≤ 100) (hl : caps.length = lv.length) (hs : ∀ t ∈ s, StOk caps.length t) : F__law_run [eT caps, eT lv, eS s] = some (.val (eR (runM caps lv s))) := by
  have h := lrun_loop hc (some (.val (eT lv))) (some (.val (eS s))) s lv 0 none none none none none hl hs
  cases hr : runM caps lv s with
  | none =>
    have hr' : runA caps lv 0 s = none := hr
    rw [hr'] at h
    refine fn_ret ?_
    unfold b__law_run
    simp only [eT, eS] at h ⊢
    simp only [sSeq, sSet, sOwn, sPar, sParL,  sIf, sRet, sRetL, sRetO, sDrop, sAug, sApp, sFrz, frz, sAsg, gSet, gsNil, gsCons, gTupF, Fi.gSub, sFor, iL, iT, iR1, iR2, iZ, iEn, itemsK, eVar, eC, Fi.e2, Fi.e1, asB, eChain, tAndF, tOrF, tNotF, eAnd, eOr, eNot, eIf, aNil, aCons, eTup, lLst, eL, eCall, lCall, eCallF, lCallF, eSlT, lSl, oNone, oSome, ownIx, ownLen, lLc, wipeE, pYes, sNext, fnD, entry, fAdd_int, fSub, fMul_l, fMul_r, fDiv_ok, fMod_ok, fPow_ok, fLt, fLe, fGt, fGe, fEq_int, fEq_str, fEq_bool, fNe_int, fNe_str, fNe_bool, isN, fIs, fIsNot, fIx, fNeg, fLen, fMin, fMax, fTuple, fList, fIntB, fSum, fAll, fAny, at_0, at_1, at_2, eT, eS, eStep, eR, getInts_map, Option.bind_some, Option.map_some, List.getElem?_cons_succ, List.getElem?_cons_zero, List.set_cons_succ, List.set_cons_zero, List.length_cons, List.length_nil, List.length_map, List.map_cons, List.map_nil, List.nil_append, List.cons_append, List.replicate, Nat.zero_add, Nat.reduceAdd, Nat.reduceSub, decide_true, decide_false, reduceIte, Nat.reduceLeDiff, Nat.reduceLT, Int.reduceLT, Int.reduceLE, Int.reduceNeg, Int.reducePow, and_self, or_self, and_true, true_and, or_true, true_or, Bool.not_true, Bool.not_false, pour_spend, spend_pour, h]
  | some p =>
    have hr' : runA caps lv 0 s = some p := hr
    rw [hr'] at h
    obtain ⟨z3, z6, z7, z8, z9, h⟩ := h
    refine fn_ret ?_
    unfold b__law_run
    simp only [eT, eS] at h ⊢
    simp only [sSeq, sSet, sOwn, sPar, sParL,  sIf, sRet, sRetL, sRetO, sDrop, sAug, sApp, sFrz, frz, sAsg, gSet, gsNil, gsCons, gTupF, Fi.gSub, sFor, iL, iT, iR1, iR2, iZ, iEn, itemsK, eVar, eC, Fi.e2, Fi.e1, asB, eChain, tAndF, tOrF, tNotF, eAnd, eOr, eNot, eIf, aNil, aCons, eTup, lLst, eL, eCall, lCall, eCallF, lCallF, eSlT, lSl, oNone, oSome, ownIx, ownLen, lLc, wipeE, pYes, sNext, fnD, entry, fAdd_int, fSub, fMul_l, fMul_r, fDiv_ok, fMod_ok, fPow_ok, fLt, fLe, fGt, fGe, fEq_int, fEq_str, fEq_bool, fNe_int, fNe_str, fNe_bool, isN, fIs, fIsNot, fIx, fNeg, fLen, fMin, fMax, fTuple, fList, fIntB, fSum, fAll, fAny, at_0, at_1, at_2, eT, eS, eStep, eR, getInts_map, Option.bind_some, Option.map_some, List.getElem?_cons_succ, List.getElem?_cons_zero, List.set_cons_succ, List.set_cons_zero, List.length_cons, List.length_nil, List.length_map, List.map_cons, List.map_nil, List.nil_append, List.cons_append, List.replicate, Nat.zero_add, Nat.reduceAdd, Nat.reduceSub, decide_true, decide_false, reduceIte, Nat.reduceLeDiff, Nat.reduceLT, Int.reduceLT, Int.reduceLE, Int.reduceNeg, Int.reducePow, and_self, or_self, and_true, true_and, or_true, true_or, Bool.not_true, Bool.not_false, pour_spend, spend_pour, h]
end Lw

namespace Lw
open PySem L2 Fi
theorem cell_ok (ns : List Int) (k : Nat) (hk : k ≤ 1000) (hl : ns.length ≤ 63) : ∃ c : Int, F__law_cell [.list (ns.map .int), .int k] = some (.val (.int c)) := by
  by_cases h1 : (k : Int) < (ns.length : Int)
  · have hg := at_get (l := ns) (k := k) (by omega)
    refine ⟨ns.getD k 0, fn_ret ?_⟩
    unfold b__law_cell
    simp only [sSeq, sSet, sOwn, sPar, sParL,  sIf, sRet, sRetL, sRetO, sDrop, sAug, sApp, sFrz, frz, sAsg, gSet, gsNil, gsCons, gTupF, Fi.gSub, sFor, iL, iT, iR1, iR2, iZ, iEn, itemsK, eVar, eC, Fi.e2, Fi.e1, asB, eChain, tAndF, tOrF, tNotF, eAnd, eOr, eNot, eIf, aNil, aCons, eTup, lLst, eL, eCall, lCall, eCallF, lCallF, eSlT, lSl, oNone, oSome, ownIx, ownLen, lLc, wipeE, pYes, sNext, fnD, entry, fAdd_int, fSub, fMul_l, fMul_r, fDiv_ok, fMod_ok, fPow_ok, fLt, fLe, fGt, fGe, fEq_int, fEq_str, fEq_bool, fNe_int, fNe_str, fNe_bool, isN, fIs, fIsNot, fIx, fNeg, fLen, fMin, fMax, fTuple, fList, fIntB, fSum, fAll, fAny, at_0, at_1, at_2, eT, eS, eStep, eR, getInts_map, Option.bind_some, Option.map_some, List.getElem?_cons_succ, List.getElem?_cons_zero, List.set_cons_succ, List.set_cons_zero, List.length_cons, List.length_nil, List.length_map, List.map_cons, List.map_nil, List.nil_append, List.cons_append, List.replicate, Nat.zero_add, Nat.reduceAdd, Nat.reduceSub, decide_true, decide_false, reduceIte, Nat.reduceLeDiff, Nat.reduceLT, Int.reduceLT, Int.reduceLE, Int.reduceNeg, Int.reducePow, and_self, or_self, and_true, true_and, or_true, true_or, Bool.not_true, Bool.not_false, pour_spend, spend_pour, h1, hg]
  · by_cases h2 : (ns.length : Int) = 0
    · have e : ns = [] := List.eq_nil_of_length_eq_zero (by omega)
      subst e
      have h3 : ¬ ((k : Int) < ((0 : Nat) : Int)) := by omega
      have h4 : (((0 : Nat) : Int) = 0) = True := by simp
      refine ⟨7919 * k + 101, fn_ret ?_⟩
      unfold b__law_cell
      simp only [sSeq, sSet, sOwn, sPar, sParL,  sIf, sRet, sRetL, sRetO, sDrop, sAug, sApp, sFrz, frz, sAsg, gSet, gsNil, gsCons, gTupF, Fi.gSub, sFor, iL, iT, iR1, iR2, iZ, iEn, itemsK, eVar, eC, Fi.e2, Fi.e1, asB, eChain, tAndF, tOrF, tNotF, eAnd, eOr, eNot, eIf, aNil, aCons, eTup, lLst, eL, eCall, lCall, eCallF, lCallF, eSlT, lSl, oNone, oSome, ownIx, ownLen, lLc, wipeE, pYes, sNext, fnD, entry, fAdd_int, fSub, fMul_l, fMul_r, fDiv_ok, fMod_ok, fPow_ok, fLt, fLe, fGt, fGe, fEq_int, fEq_str, fEq_bool, fNe_int, fNe_str, fNe_bool, isN, fIs, fIsNot, fIx, fNeg, fLen, fMin, fMax, fTuple, fList, fIntB, fSum, fAll, fAny, at_0, at_1, at_2, eT, eS, eStep, eR, getInts_map, Option.bind_some, Option.map_some, List.getElem?_cons_succ, List.getElem?_cons_zero, List.set_cons_succ, List.set_cons_zero, List.length_cons, List.length_nil, List.length_map, List.map_cons, List.map_nil, List.nil_append, List.cons_append, List.replicate, Nat.zero_add, Nat.reduceAdd, Nat.reduceSub, decide_true, decide_false, reduceIte, Nat.reduceLeDiff, Nat.reduceLT, Int.reduceLT, Int.reduceLE, Int.reduceNeg, Int.reducePow, and_self, or_self, and_true, true_and, or_true, true_or, Bool.not_true, Bool.not_false, pour_spend, spend_pour, h3, h4]
    · have hpos : 0 < (ns.length : Int) := by omega
      have hm0 := Int.emod_nonneg (k : Int) h2
      have hm1 := Int.emod_lt_of_pos (k : Int) hpos
      have hg := at_getZ (l := ns) hm0 hm1
      refine ⟨ns.getD ((k : Int) % (ns.length : Int)).toNat 0 % 1000003 + 7919 * k, fn_ret ?_⟩
      unfold b__law_cell
      simp only [sSeq, sSet, sOwn, sPar, sParL,  sIf, sRet, sRetL, sRetO, sDrop, sAug, sApp, sFrz, frz, sAsg, gSet, gsNil, gsCons, gTupF, Fi.gSub, sFor, iL, iT, iR1, iR2, iZ, iEn, itemsK, eVar, eC, Fi.e2, Fi.e1, asB, eChain, tAndF, tOrF, tNotF, eAnd, eOr, eNot, eIf, aNil, aCons, eTup, lLst, eL, eCall, lCall, eCallF, lCallF, eSlT, lSl, oNone, oSome, ownIx, ownLen, lLc, wipeE, pYes, sNext, fnD, entry, fAdd_int, fSub, fMul_l, fMul_r, fDiv_ok, fMod_ok, fPow_ok, fLt, fLe, fGt, fGe, fEq_int, fEq_str, fEq_bool, fNe_int, fNe_str, fNe_bool, isN, fIs, fIsNot, fIx, fNeg, fLen, fMin, fMax, fTuple, fList, fIntB, fSum, fAll, fAny, at_0, at_1, at_2, eT, eS, eStep, eR, getInts_map, Option.bind_some, Option.map_some, List.getElem?_cons_succ, List.getElem?_cons_zero, List.set_cons_succ, List.set_cons_zero, List.length_cons, List.length_nil, List.length_map, List.map_cons, List.map_nil, List.nil_append, List.cons_append, List.replicate, Nat.zero_add, Nat.reduceAdd, Nat.reduceSub, decide_true, decide_false, reduceIte, Nat.reduceLeDiff, Nat.reduceLT, Int.reduceLT, Int.reduceLE, Int.reduceNeg, Int.reducePow, and_self, or_self, and_true, true_and, or_true, true_or, Bool.not_true, Bool.not_false, pour_spend, spend_pour, h1, h2, hpos, hg]
def primesL : List PyData := [.int 2147483647, .int 2147483629, .int 2147483587, .int 2147483579, .int 2147483563, .int 2147483549, .int 2147483543, .int 2147483497]
theorem prime_at (m : Int) : ∃ p : Int, atI primesL (m % 8) = some (.int p) ∧ 0 < p ∧ p < 2147483648 := by
  have h0 := Int.emod_nonneg m (show (8 : Int) ≠ 0 by decide)
  have h1 := Int.emod_lt_of_pos m (show (0 : Int) < 8 by decide)
  generalize m % 8 = r at h0 h1
  have : r = 0 ∨ r = 1 ∨ r = 2 ∨ r = 3 ∨ r = 4 ∨ r = 5 ∨ r = 6 ∨ r = 7 := by omega
  rcases this with rfl | rfl | rfl | rfl | rfl | rfl | rfl | rfl
  · exact ⟨_, atI_nat (j := 0) rfl, by decide, by decide⟩
  · exact ⟨_, atI_nat (j := 1) rfl, by decide, by decide⟩
  · exact ⟨_, atI_nat (j := 2) rfl, by decide, by decide⟩
  · exact ⟨_, atI_nat (j := 3) rfl, by decide, by decide⟩
  · exact ⟨_, atI_nat (j := 4) rfl, by decide, by decide⟩
  · exact ⟨_, atI_nat (j := 5) rfl, by decide, by decide⟩
  · exact ⟨_, atI_nat (j := 6) rfl, by decide, by decide⟩
  · exact ⟨_, atI_nat (j := 7) rfl, by decide, by decide⟩
theorem digits_eval1 (S C x9 : Option Sl) (idx base cell rest p1 p2 p3 M k : Int) (acc prs : List PyData)
    (g1 : atI prs (k % 8) = some (.int p1)) (g2 : atI prs ((3 * k + idx) % 8) = some (.int p2)) (g3 : atI prs ((k + 5) % 8) = some (.int p3)) (a1 : 0 < p1) (a2 : 0 < p2) (a3 : 0 < p3)
    (m1 : -18446744073709551616 < cell % p1) (n1 : cell % p1 < 18446744073709551616) (m2 : -18446744073709551616 < k) (n2 : k < 18446744073709551616) (m3 : -18446744073709551616 < k + 1) (n3 : k + 1 < 18446744073709551616)
    (hM : (cell % p1 * (48271 + 2 * k * k) + 7919 * (k + 1) * (k + 1) + 104729 * idx) % p2 = M) (m4 : -18446744073709551616 < M) (m5 : M < 18446744073709551616) (ha : acc.length < 100000) (hb : 0 < base ∧ base < 1073741824) (hr : 0 < rest) :
    lp__law_digits_0 [S, some (.val (.int idx)), C, some (.val (.int base)), some (.val (.tuple prs)), some (.val (.int cell)), some (.val (.int rest)), some (.own acc), some (.val (.int k)), x9] = some (.next [S, some (.val (.int idx)), C, some (.val (.int base)), some (.val (.tuple prs)), some (.val (.int cell)), some (.val (.int (rest / base))), some (.own (acc ++ [.int (rest % base)])), some (.val (.int k)), some (.val (.int (rest)))]) := by
  simp only [sSeq, sSet, sOwn, sPar, sParL,  sIf, sRet, sRetL, sRetO, sDrop, sAug, sApp, sFrz, frz, sAsg, gSet, gsNil, gsCons, gTupF, Fi.gSub, sFor, iL, iT, iR1, iR2, iZ, iEn, itemsK, eVar, eC, Fi.e2, Fi.e1, asB, eChain, tAndF, tOrF, tNotF, eAnd, eOr, eNot, eIf, aNil, aCons, eTup, lLst, eL, eCall, lCall, eCallF, lCallF, eSlT, lSl, oNone, oSome, ownIx, ownLen, lLc, wipeE, pYes, sNext, fnD, entry, fAdd_int, fSub, fMul_l, fMul_r, fDiv_ok, fMod_ok, fPow_ok, fLt, fLe, fGt, fGe, fEq_int, fEq_str, fEq_bool, fNe_int, fNe_str, fNe_bool, isN, fIs, fIsNot, fIx, fNeg, fLen, fMin, fMax, fTuple, fList, fIntB, fSum, fAll, fAny, at_0, at_1, at_2, eT, eS, eStep, eR, getInts_map, Option.bind_some, Option.map_some, List.getElem?_cons_succ, List.getElem?_cons_zero, List.set_cons_succ, List.set_cons_zero, List.length_cons, List.length_nil, List.length_map, List.map_cons, List.map_nil, List.nil_append, List.cons_append, List.replicate, Nat.zero_add, Nat.reduceAdd, Nat.reduceSub, decide_true, decide_false, reduceIte, Nat.reduceLeDiff, Nat.reduceLT, Int.reduceLT, Int.reduceLE, Int.reduceNeg, Int.reducePow, and_self, or_self, and_true, true_and, or_true, true_or, Bool.not_true, Bool.not_false, pour_spend, spend_pour, lp__law_digits_0, g1, g2, g3, a1, a2, a3, m1, n1, m2, n2, m3, n3, hM, m4, m5, hr, ha, hb]
theorem digits_eval2 (S C x9 : Option Sl) (idx base cell rest p1 p2 p3 M k : Int) (acc prs : List PyData)
    (g1 : atI prs (k % 8) = some (.int p1)) (g2 : atI prs ((3 * k + idx) % 8) = some (.int p2)) (g3 : atI prs ((k + 5) % 8) = some (.int p3)) (a1 : 0 < p1) (a2 : 0 < p2) (a3 : 0 < p3)
    (m1 : -18446744073709551616 < cell % p1) (n1 : cell % p1 < 18446744073709551616) (m2 : -18446744073709551616 < k) (n2 : k < 18446744073709551616) (m3 : -18446744073709551616 < k + 1) (n3 : k + 1 < 18446744073709551616)
    (hM : (cell % p1 * (48271 + 2 * k * k) + 7919 * (k + 1) * (k + 1) + 104729 * idx) % p2 = M) (m4 : -18446744073709551616 < M) (m5 : M < 18446744073709551616) (ha : acc.length < 100000) (hb : 0 < base ∧ base < 1073741824) (hr : ¬ 0 < rest) :
    lp__law_digits_0 [S, some (.val (.int idx)), C, some (.val (.int base)), some (.val (.tuple prs)), some (.val (.int cell)), some (.val (.int rest)), some (.own acc), some (.val (.int k)), x9] = some (.next [S, some (.val (.int idx)), C, some (.val (.int base)), some (.val (.tuple prs)), some (.val (.int cell)), some (.val (.int (rest / base))), some (.own (acc ++ [.int (M * M * M % p3 % base)])), some (.val (.int k)), some (.val (.int (M * M * M % p3)))]) := by
  simp only [sSeq, sSet, sOwn, sPar, sParL,  sIf, sRet, sRetL, sRetO, sDrop, sAug, sApp, sFrz, frz, sAsg, gSet, gsNil, gsCons, gTupF, Fi.gSub, sFor, iL, iT, iR1, iR2, iZ, iEn, itemsK, eVar, eC, Fi.e2, Fi.e1, asB, eChain, tAndF, tOrF, tNotF, eAnd, eOr, eNot, eIf, aNil, aCons, eTup, lLst, eL, eCall, lCall, eCallF, lCallF, eSlT, lSl, oNone, oSome, ownIx, ownLen, lLc, wipeE, pYes, sNext, fnD, entry, fAdd_int, fSub, fMul_l, fMul_r, fDiv_ok, fMod_ok, fPow_ok, fLt, fLe, fGt, fGe, fEq_int, fEq_str, fEq_bool, fNe_int, fNe_str, fNe_bool, isN, fIs, fIsNot, fIx, fNeg, fLen, fMin, fMax, fTuple, fList, fIntB, fSum, fAll, fAny, at_0, at_1, at_2, eT, eS, eStep, eR, getInts_map, Option.bind_some, Option.map_some, List.getElem?_cons_succ, List.getElem?_cons_zero, List.set_cons_succ, List.set_cons_zero, List.length_cons, List.length_nil, List.length_map, List.map_cons, List.map_nil, List.nil_append, List.cons_append, List.replicate, Nat.zero_add, Nat.reduceAdd, Nat.reduceSub, decide_true, decide_false, reduceIte, Nat.reduceLeDiff, Nat.reduceLT, Int.reduceLT, Int.reduceLE, Int.reduceNeg, Int.reducePow, and_self, or_self, and_true, true_and, or_true, true_or, Bool.not_true, Bool.not_false, pour_spend, spend_pour, lp__law_digits_0, g1, g2, g3, a1, a2, a3, m1, n1, m2, n2, m3, n3, hM, m4, m5, hr, ha, hb]
theorem digits_body (S C x9 : Option Sl) (idx base cell rest : Int) (k : Nat) (acc : List PyData) (hk : k ≤ 1000) (hi : 0 ≤ idx ∧ idx ≤ 1000) (hb : 0 < base ∧ base < 1073741824) (ha : acc.length < 100000) : ∃ (d r : Int) (y9 : Option Sl), 0 ≤ d ∧ d < base ∧
    lp__law_digits_0 [S, some (.val (.int idx)), C, some (.val (.int base)), some (.val (.tuple primesL)), some (.val (.int cell)), some (.val (.int rest)), some (.own acc), some (.val (.int k)), x9]
      = some (.next [S, some (.val (.int idx)), C, some (.val (.int base)), some (.val (.tuple primesL)), some (.val (.int cell)), some (.val (.int r)), some (.own (acc ++ [.int d])), some (.val (.int k)), y9]) := by
  obtain ⟨p1, g1, a1, b1⟩ := prime_at k
  obtain ⟨p2, g2, a2, b2⟩ := prime_at (3 * k + idx)
  obtain ⟨p3, g3, a3, b3⟩ := prime_at ((k : Int) + 5)
  have c1 := Int.emod_nonneg cell (show p1 ≠ 0 by omega)
  have c2 := Int.emod_lt_of_pos cell a1
  have m1 : -18446744073709551616 < cell % p1 := by omega
  have n1 : cell % p1 < 18446744073709551616 := by omega
  have m2 : -18446744073709551616 < (k : Int) := by omega
  have n2 : (k : Int) < 18446744073709551616 := by omega
  have m3 : -18446744073709551616 < (k : Int) + 1 := by omega
  have n3 : (k : Int) + 1 < 18446744073709551616 := by omega
  generalize hM : (cell % p1 * (48271 + 2 * (k : Int) * k) + 7919 * ((k : Int) + 1) * ((k : Int) + 1) + 104729 * idx) % p2 = M
  have d1 : 0 ≤ M := by rw [← hM]; exact Int.emod_nonneg _ (by omega)
  have d2 : M < p2 := by rw [← hM]; exact Int.emod_lt_of_pos _ a2
  have m4 : -18446744073709551616 < M := by omega
  have m5 : M < 18446744073709551616 := by omega
  by_cases hr : 0 < rest
  · exact ⟨rest % base, rest / base, some (.val (.int rest)), Int.emod_nonneg _ (by omega), Int.emod_lt_of_pos _ hb.1, digits_eval1 S C x9 idx base cell rest p1 p2 p3 M k acc primesL g1 g2 g3 a1 a2 a3 m1 n1 m2 n2 m3 n3 hM m4 m5 ha hb hr⟩
  · exact ⟨M * M * M % p3 % base, rest / base, some (.val (.int (M * M * M % p3))), Int.emod_nonneg _ (by omega), Int.emod_lt_of_pos _ hb.1, digits_eval2 S C x9 idx base cell rest p1 p2 p3 M k acc primesL g1 g2 g3 a1 a2 a3 m1 n1 m2 n2 m3 n3 hM m4 m5 ha hb hr⟩
theorem range_get {n i : Nat} {d : PyData} (h : ((List.range n).map fun (i : Nat) => PyData.int (i : Int))[i]? = some d) : i < n ∧ d = .int (i : Int) := by
  rw [List.getElem?_map] at h
  by_cases hi : i < n
  · rw [List.getElem?_range hi] at h
    exact ⟨hi, (Option.some.inj h).symm⟩
  · rw [List.getElem?_eq_none (by rw [List.length_range]; omega)] at h
    cases h
theorem digits_ok (ns : List Int) (hl : ns.length ≤ 63) (k : Nat) (hk : k ≤ 1000) (n : Nat) (hn : n ≤ 1000) (base : Int) (hb : 0 < base ∧ base < 1073741824) : ∃ ds : List Int, ds.length = n ∧ (∀ d ∈ ds, 0 ≤ d ∧ d < base) ∧ F__law_digits [.list (ns.map .int), .int k, .int n, .int base] = some (.own (ds.map .int)) := by
  obtain ⟨cell, hcell⟩ := cell_ok ns k hk hl
  let S : Option Sl := some (.val (.list (ns.map .int)))
  let P : Nat → En → Prop := fun i e => ∃ (ds : List Int) (r : Int) (y8 y9 : Option Sl), ds.length = i ∧ (∀ d ∈ ds, 0 ≤ d ∧ d < base) ∧
    e = [S, some (.val (.int k)), some (.val (.int n)), some (.val (.int base)), some (.val (.tuple primesL)), some (.val (.int cell)), some (.val (.int r)), some (.own (ds.map .int)), y8, y9]
  have key : ∀ rest : Int, ∃ e, forD (gSet 8) lp__law_digits_0 ((List.range n).map fun (i : Nat) => PyData.int (i : Int)) [S, some (.val (.int k)), some (.val (.int n)), some (.val (.int base)), some (.val (.tuple primesL)), some (.val (.int cell)), some (.val (.int rest)), some (.own []), none, none] = some (.next e) ∧ P (0 + ((List.range n).map fun (i : Nat) => PyData.int (i : Int)).length) e := fun rest => by
    refine forD_inv P _ 0 _ ⟨[], rest, none, none, rfl, by simp, rfl⟩ fun i d e hd hp => ?_
    obtain ⟨hi, rfl⟩ := range_get hd
    obtain ⟨ds, r, y8, y9, h1, h2, rfl⟩ := hp
    obtain ⟨d, r', z9, q1, q2, q3⟩ := digits_body S (some (.val (.int n))) y9 k base cell r i (ds.map .int) (by omega) ⟨by omega, by omega⟩ hb (by rw [List.length_map]; omega)
    refine ⟨_, _, rfl, q3, ds ++ [d], r', _, z9, by rw [List.length_append, h1]; simp, fun x hx => ?_, by rw [List.map_append]; rfl⟩
    rcases List.mem_append.mp hx with h | h
    · exact h2 x h
    · rw [List.mem_singleton.mp h]
      exact ⟨q1, q2⟩
  have hn2 : -100000 < (n : Int) ∧ (n : Int) < 100000 := ⟨by omega, by omega⟩
  obtain ⟨e, f1, ds, r, y8, y9, h1, h2, rfl⟩ := key (if 1000000000000000000 ≤ cell then cell else 0)
  refine ⟨ds, by simpa using h1, h2, fn_retL ?_⟩
  unfold b__law_digits
  by_cases hc : 1000000000000000000 ≤ cell
  · rw [if_pos hc] at f1
    simp only [sSeq, sSet, sOwn, sPar, sParL,  sIf, sRet, sRetL, sRetO, sDrop, sAug, sApp, sFrz, frz, sAsg, gSet, gsNil, gsCons, gTupF, Fi.gSub, sFor, iL, iT, iR1, iR2, iZ, iEn, itemsK, eVar, eC, Fi.e2, Fi.e1, asB, eChain, tAndF, tOrF, tNotF, eAnd, eOr, eNot, eIf, aNil, aCons, eTup, lLst, eL, eCall, lCall, eCallF, lCallF, eSlT, lSl, oNone, oSome, ownIx, ownLen, lLc, wipeE, pYes, sNext, fnD, entry, fAdd_int, fSub, fMul_l, fMul_r, fDiv_ok, fMod_ok, fPow_ok, fLt, fLe, fGt, fGe, fEq_int, fEq_str, fEq_bool, fNe_int, fNe_str, fNe_bool, isN, fIs, fIsNot, fIx, fNeg, fLen, fMin, fMax, fTuple, fList, fIntB, fSum, fAll, fAny, at_0, at_1, at_2, eT, eS, eStep, eR, getInts_map, Option.bind_some, Option.map_some, List.getElem?_cons_succ, List.getElem?_cons_zero, List.set_cons_succ, List.set_cons_zero, List.length_cons, List.length_nil, List.length_map, List.map_cons, List.map_nil, List.nil_append, List.cons_append, List.replicate, Nat.zero_add, Nat.reduceAdd, Nat.reduceSub, decide_true, decide_false, reduceIte, Nat.reduceLeDiff, Nat.reduceLT, Int.reduceLT, Int.reduceLE, Int.reduceNeg, Int.reducePow, and_self, or_self, and_true, true_and, or_true, true_or, Bool.not_true, Bool.not_false, pour_spend, spend_pour, hcell, hc, hn2, Int.toNat_natCast, show ((10 : Int) ^ (18 : Int).toNat) = 1000000000000000000 from rfl, show (10 : Int).natAbs < 18446744073709551616 from by decide]
    simp only [primesL, S] at f1
    rw [f1]
    rfl
  · rw [if_neg hc] at f1
    simp only [sSeq, sSet, sOwn, sPar, sParL,  sIf, sRet, sRetL, sRetO, sDrop, sAug, sApp, sFrz, frz, sAsg, gSet, gsNil, gsCons, gTupF, Fi.gSub, sFor, iL, iT, iR1, iR2, iZ, iEn, itemsK, eVar, eC, Fi.e2, Fi.e1, asB, eChain, tAndF, tOrF, tNotF, eAnd, eOr, eNot, eIf, aNil, aCons, eTup, lLst, eL, eCall, lCall, eCallF, lCallF, eSlT, lSl, oNone, oSome, ownIx, ownLen, lLc, wipeE, pYes, sNext, fnD, entry, fAdd_int, fSub, fMul_l, fMul_r, fDiv_ok, fMod_ok, fPow_ok, fLt, fLe, fGt, fGe, fEq_int, fEq_str, fEq_bool, fNe_int, fNe_str, fNe_bool, isN, fIs, fIsNot, fIx, fNeg, fLen, fMin, fMax, fTuple, fList, fIntB, fSum, fAll, fAny, at_0, at_1, at_2, eT, eS, eStep, eR, getInts_map, Option.bind_some, Option.map_some, List.getElem?_cons_succ, List.getElem?_cons_zero, List.set_cons_succ, List.set_cons_zero, List.length_cons, List.length_nil, List.length_map, List.map_cons, List.map_nil, List.nil_append, List.cons_append, List.replicate, Nat.zero_add, Nat.reduceAdd, Nat.reduceSub, decide_true, decide_false, reduceIte, Nat.reduceLeDiff, Nat.reduceLT, Int.reduceLT, Int.reduceLE, Int.reduceNeg, Int.reducePow, and_self, or_self, and_true, true_and, or_true, true_or, Bool.not_true, Bool.not_false, pour_spend, spend_pour, hcell, hc, hn2, Int.toNat_natCast, show ((10 : Int) ^ (18 : Int).toNat) = 1000000000000000000 from rfl, show (10 : Int).natAbs < 18446744073709551616 from by decide]
    simp only [primesL, S] at f1
    rw [f1]
    rfl
end Lw

namespace Lw
open PySem L2 Fi
/-- a comprehension over ints, without a test -/
theorem lcD_map {g : PyData → En → Option En} {f : FE} {env : En} (h : PyData → PyData) : ∀ (ds : List PyData), (∀ d ∈ ds, ∃ e1, g d env = some e1 ∧ f e1 = some (h d)) → lcD g pYes f env ds = some (ds.map h)
  | [], _ => rfl
  | d :: ds, hh => by
    obtain ⟨e1, h1, h2⟩ := hh d (by simp)
    have ih := lcD_map h ds fun d' hd => hh d' (by simp [hd])
    simp only [lcD, h1, h2, ih, pYes, Option.bind_some, List.map_cons]
theorem caps_ok (ds : List Int) (hpos : ∀ d ∈ ds, 0 ≤ d) (most : Nat) (top : Int) (hm : 0 < most) (hm2 : most ≤ 1000) (hl : most + 1 ≤ ds.length) (hl2 : ds.length ≤ 1000) (ht : 0 < top) : ∃ caps : List Int, 1 ≤ caps.length ∧ caps.length ≤ most ∧ (∀ c ∈ caps, 1 ≤ c ∧ c ≤ top) ∧
    F__law_caps [.list (ds.map .int), .int most, .int top] = some (.val (eT caps)) := by
  have hg := at_get (l := ds) (k := 0) (by omega)
  have hm3 : 0 < (most : Int) := by omega
  have r0 := Int.emod_nonneg (ds.getD 0 0) (show (most : Int) ≠ 0 by omega)
  have r1 := Int.emod_lt_of_pos (ds.getD 0 0) hm3
  obtain ⟨m, hm⟩ : ∃ m : Nat, ds.getD 0 0 % (most : Int) = m := ⟨(ds.getD 0 0 % (most : Int)).toNat, by omega⟩
  have hcut : cutD (ds.map PyData.int) (some 1) (some (2 + ds.getD 0 0 % (most : Int))) = ((ds.drop 1).take (m + 1)).map .int := by
    have e : (2 + ds.getD 0 0 % (most : Int)) = ((m + 2 : Nat) : Int) := by omega
    have e1 : (1 : Int) = ((1 : Nat) : Int) := rfl
    rw [e, e1, cut_mid, ← List.map_drop, ← List.map_take]
    rfl
  have hlc : lcD (gSet 3) pYes (Fi.e2 fAdd (eC (.int 1)) (Fi.e2 fMod (eVar 3) (eVar 2))) [some (.val (.list (ds.map .int))), some (.val (.int most)), some (.val (.int top)), none] (((ds.drop 1).take (m + 1)).map .int) = some ((((ds.drop 1).take (m + 1)).map fun d => 1 + d % top).map .int) := by
    rw [lcD_map (fun d => match d with | .int i => .int (1 + i % top) | d => d)]
    · rw [List.map_map, List.map_map]
      rfl
    · intro d hd
      obtain ⟨z, _, rfl⟩ := List.mem_map.mp hd
      refine ⟨_, rfl, ?_⟩
      simp only [sSeq, sSet, sOwn, sPar, sParL,  sIf, sRet, sRetL, sRetO, sDrop, sAug, sApp, sFrz, frz, sAsg, gSet, gsNil, gsCons, gTupF, Fi.gSub, sFor, iL, iT, iR1, iR2, iZ, iEn, itemsK, eVar, eC, Fi.e2, Fi.e1, asB, eChain, tAndF, tOrF, tNotF, eAnd, eOr, eNot, eIf, aNil, aCons, eTup, lLst, eL, eCall, lCall, eCallF, lCallF, eSlT, lSl, oNone, oSome, ownIx, ownLen, lLc, wipeE, pYes, sNext, fnD, entry, fAdd_int, fSub, fMul_l, fMul_r, fDiv_ok, fMod_ok, fPow_ok, fLt, fLe, fGt, fGe, fEq_int, fEq_str, fEq_bool, fNe_int, fNe_str, fNe_bool, isN, fIs, fIsNot, fIx, fNeg, fLen, fMin, fMax, fTuple, fList, fIntB, fSum, fAll, fAny, at_0, at_1, at_2, eT, eS, eStep, eR, getInts_map, Option.bind_some, Option.map_some, List.getElem?_cons_succ, List.getElem?_cons_zero, List.set_cons_succ, List.set_cons_zero, List.length_cons, List.length_nil, List.length_map, List.map_cons, List.map_nil, List.nil_append, List.cons_append, List.replicate, Nat.zero_add, Nat.reduceAdd, Nat.reduceSub, decide_true, decide_false, reduceIte, Nat.reduceLeDiff, Nat.reduceLT, Int.reduceLT, Int.reduceLE, Int.reduceNeg, Int.reducePow, and_self, or_self, and_true, true_and, or_true, true_or, Bool.not_true, Bool.not_false, pour_spend, spend_pour, ht]
  refine ⟨((ds.drop 1).take (m + 1)).map fun d => 1 + d % top, ?_, ?_, ?_, fn_ret ?_⟩
  · simp; omega
  · simp; omega
  · intro c hc
    obtain ⟨z, _, rfl⟩ := List.mem_map.mp hc
    have h0 := Int.emod_nonneg z (show top ≠ 0 by omega)
    have h1 := Int.emod_lt_of_pos z ht
    exact ⟨by omega, by omega⟩
  · unfold b__law_caps
    have hlen : (((ds.drop 1).take (m + 1)).map PyData.int).length < 100000 := by simp; omega
    have hg0 : atI (ds.map PyData.int) 0 = some (.int (ds.getD 0 0)) := hg
    simp only [List.length_map] at hlen
    simp only [sSeq, sSet, sOwn, sPar, sParL,  sIf, sRet, sRetL, sRetO, sDrop, sAug, sApp, sFrz, frz, sAsg, gSet, gsNil, gsCons, gTupF, Fi.gSub, sFor, iL, iT, iR1, iR2, iZ, iEn, itemsK, eVar, eC, Fi.e2, Fi.e1, asB, eChain, tAndF, tOrF, tNotF, eAnd, eOr, eNot, eIf, aNil, aCons, eTup, lLst, eL, eCall, lCall, eCallF, lCallF, eSlT, lSl, oNone, oSome, ownIx, ownLen, lLc, wipeE, pYes, sNext, fnD, entry, fAdd_int, fSub, fMul_l, fMul_r, fDiv_ok, fMod_ok, fPow_ok, fLt, fLe, fGt, fGe, fEq_int, fEq_str, fEq_bool, fNe_int, fNe_str, fNe_bool, isN, fIs, fIsNot, fIx, fNeg, fLen, fMin, fMax, fTuple, fList, fIntB, fSum, fAll, fAny, at_0, at_1, at_2, eT, eS, eStep, eR, getInts_map, Option.bind_some, Option.map_some, List.getElem?_cons_succ, List.getElem?_cons_zero, List.set_cons_succ, List.set_cons_zero, List.length_cons, List.length_nil, List.length_map, List.map_cons, List.map_nil, List.nil_append, List.cons_append, List.replicate, Nat.zero_add, Nat.reduceAdd, Nat.reduceSub, decide_true, decide_false, reduceIte, Nat.reduceLeDiff, Nat.reduceLT, Int.reduceLT, Int.reduceLE, Int.reduceNeg, Int.reducePow, and_self, or_self, and_true, true_and, or_true, true_or, Bool.not_true, Bool.not_false, pour_spend, spend_pour, hg0, hm3, hcut, hlen, hlc]
end Lw

namespace Lw
open PySem L2 Fi
theorem levels_loop (D C : Option Sl) : ∀ (cs ds : List Int) (pc lv : List Int) (x3 x4 x5 : Option Sl), cs.length ≤ ds.length → (∀ c ∈ cs, 0 ≤ c) → pc.length + cs.length ≤ 1000 → Lv pc lv → ∃ lv' y3 y4 y5, Lv (pc ++ cs) lv' ∧
    forD (gTupF 2 (gsCons (gSet 3) (gsCons (gSet 4) gsNil))) lp__law_levels_0 (pairs (cs.map .int) (ds.map .int)) [D, C, some (.val (eT lv)), x3, x4, x5] = some (.next [D, C, some (.val (eT lv')), y3, y4, y5])
  | [], ds, pc, lv, x3, x4, x5, _, _, _, h => ⟨lv, x3, x4, x5, by rw [List.append_nil]; exact h, by simp [pairs, forD]⟩
  | c :: cs, [], _, _, _, _, _, hl, _, _, _ => by simp at hl
  | c :: cs, d :: ds, pc, lv, x3, x4, x5, hl, hp, hn, h => by
    have hc : 0 ≤ c := hp c (by simp)
    have hlv := h.len
    have key : ∀ v : Int, 0 ≤ v → v ≤ c → ∀ w : Int, lp__law_levels_0 [D, C, some (.val (eT lv)), some (.val (.int c)), some (.val (.int d)), x5] = some (.next [D, C, some (.val (eT (lv ++ [v]))), some (.val (.int c)), some (.val (.int d)), some (.val (.int w))]) →
        ∃ lv' y3 y4 y5, Lv (pc ++ c :: cs) lv' ∧ forD (gTupF 2 (gsCons (gSet 3) (gsCons (gSet 4) gsNil))) lp__law_levels_0 (pairs ((c :: cs).map .int) ((d :: ds).map .int)) [D, C, some (.val (eT lv)), x3, x4, x5] = some (.next [D, C, some (.val (eT lv')), y3, y4, y5]) := fun v h0 h1 w hb => by
      obtain ⟨lv', y3, y4, y5, q1, q2⟩ := levels_loop D C cs ds (pc ++ [c]) (lv ++ [v]) (some (.val (.int c))) (some (.val (.int d))) (some (.val (.int w))) (by simpa using hl) (fun x hx => hp x (by simp [hx])) (by simp at hn ⊢; omega) (h.snoc h0 h1)
      refine ⟨lv', y3, y4, y5, by simpa using q1, forD_step (e1 := [D, C, some (.val (eT lv)), some (.val (.int c)), some (.val (.int d)), x5]) rfl hb q2⟩
    have ha : ∀ v : Int, fAdd (.tuple (lv.map .int)) (.tuple [.int v]) = some (.tuple ((lv ++ [v]).map .int)) := fun v => by
      rw [fAdd_tup (by simp; simp at hn; omega), List.map_append]
      rfl
    by_cases w0 : d / 1000 % 4 = 0
    · refine key c hc (Int.le_refl _) (d / 1000 % 4) ?_
      simp only [sSeq, sSet, sOwn, sPar, sParL,  sIf, sRet, sRetL, sRetO, sDrop, sAug, sApp, sFrz, frz, sAsg, gSet, gsNil, gsCons, gTupF, Fi.gSub, sFor, iL, iT, iR1, iR2, iZ, iEn, itemsK, eVar, eC, Fi.e2, Fi.e1, asB, eChain, tAndF, tOrF, tNotF, eAnd, eOr, eNot, eIf, aNil, aCons, eTup, lLst, eL, eCall, lCall, eCallF, lCallF, eSlT, lSl, oNone, oSome, ownIx, ownLen, lLc, wipeE, pYes, sNext, fnD, entry, fAdd_int, fSub, fMul_l, fMul_r, fDiv_ok, fMod_ok, fPow_ok, fLt, fLe, fGt, fGe, fEq_int, fEq_str, fEq_bool, fNe_int, fNe_str, fNe_bool, isN, fIs, fIsNot, fIx, fNeg, fLen, fMin, fMax, fTuple, fList, fIntB, fSum, fAll, fAny, at_0, at_1, at_2, eT, eS, eStep, eR, getInts_map, Option.bind_some, Option.map_some, List.getElem?_cons_succ, List.getElem?_cons_zero, List.set_cons_succ, List.set_cons_zero, List.length_cons, List.length_nil, List.length_map, List.map_cons, List.map_nil, List.nil_append, List.cons_append, List.replicate, Nat.zero_add, Nat.reduceAdd, Nat.reduceSub, decide_true, decide_false, reduceIte, Nat.reduceLeDiff, Nat.reduceLT, Int.reduceLT, Int.reduceLE, Int.reduceNeg, Int.reducePow, and_self, or_self, and_true, true_and, or_true, true_or, Bool.not_true, Bool.not_false, pour_spend, spend_pour, lp__law_levels_0, w0, ha]
    · by_cases w1 : d / 1000 % 4 = 1
      · refine key 0 (Int.le_refl _) hc (d / 1000 % 4) ?_
        simp only [sSeq, sSet, sOwn, sPar, sParL,  sIf, sRet, sRetL, sRetO, sDrop, sAug, sApp, sFrz, frz, sAsg, gSet, gsNil, gsCons, gTupF, Fi.gSub, sFor, iL, iT, iR1, iR2, iZ, iEn, itemsK, eVar, eC, Fi.e2, Fi.e1, asB, eChain, tAndF, tOrF, tNotF, eAnd, eOr, eNot, eIf, aNil, aCons, eTup, lLst, eL, eCall, lCall, eCallF, lCallF, eSlT, lSl, oNone, oSome, ownIx, ownLen, lLc, wipeE, pYes, sNext, fnD, entry, fAdd_int, fSub, fMul_l, fMul_r, fDiv_ok, fMod_ok, fPow_ok, fLt, fLe, fGt, fGe, fEq_int, fEq_str, fEq_bool, fNe_int, fNe_str, fNe_bool, isN, fIs, fIsNot, fIx, fNeg, fLen, fMin, fMax, fTuple, fList, fIntB, fSum, fAll, fAny, at_0, at_1, at_2, eT, eS, eStep, eR, getInts_map, Option.bind_some, Option.map_some, List.getElem?_cons_succ, List.getElem?_cons_zero, List.set_cons_succ, List.set_cons_zero, List.length_cons, List.length_nil, List.length_map, List.map_cons, List.map_nil, List.nil_append, List.cons_append, List.replicate, Nat.zero_add, Nat.reduceAdd, Nat.reduceSub, decide_true, decide_false, reduceIte, Nat.reduceLeDiff, Nat.reduceLT, Int.reduceLT, Int.reduceLE, Int.reduceNeg, Int.reducePow, and_self, or_self, and_true, true_and, or_true, true_or, Bool.not_true, Bool.not_false, pour_spend, spend_pour, lp__law_levels_0, w0, w1, ha, show ((1 : Int) = 0) = False from by simp]
      · have h0 := Int.emod_nonneg d (show c + 1 ≠ 0 by omega)
        have h1 := Int.emod_lt_of_pos d (show 0 < c + 1 by omega)
        have hc1 : 0 < c + 1 := by omega
        refine key (d % (c + 1)) h0 (by omega) (d / 1000 % 4) ?_
        simp only [sSeq, sSet, sOwn, sPar, sParL,  sIf, sRet, sRetL, sRetO, sDrop, sAug, sApp, sFrz, frz, sAsg, gSet, gsNil, gsCons, gTupF, Fi.gSub, sFor, iL, iT, iR1, iR2, iZ, iEn, itemsK, eVar, eC, Fi.e2, Fi.e1, asB, eChain, tAndF, tOrF, tNotF, eAnd, eOr, eNot, eIf, aNil, aCons, eTup, lLst, eL, eCall, lCall, eCallF, lCallF, eSlT, lSl, oNone, oSome, ownIx, ownLen, lLc, wipeE, pYes, sNext, fnD, entry, fAdd_int, fSub, fMul_l, fMul_r, fDiv_ok, fMod_ok, fPow_ok, fLt, fLe, fGt, fGe, fEq_int, fEq_str, fEq_bool, fNe_int, fNe_str, fNe_bool, isN, fIs, fIsNot, fIx, fNeg, fLen, fMin, fMax, fTuple, fList, fIntB, fSum, fAll, fAny, at_0, at_1, at_2, eT, eS, eStep, eR, getInts_map, Option.bind_some, Option.map_some, List.getElem?_cons_succ, List.getElem?_cons_zero, List.set_cons_succ, List.set_cons_zero, List.length_cons, List.length_nil, List.length_map, List.map_cons, List.map_nil, List.nil_append, List.cons_append, List.replicate, Nat.zero_add, Nat.reduceAdd, Nat.reduceSub, decide_true, decide_false, reduceIte, Nat.reduceLeDiff, Nat.reduceLT, Int.reduceLT, Int.reduceLE, Int.reduceNeg, Int.reducePow, and_self, or_self, and_true, true_and, or_true, true_or, Bool.not_true, Bool.not_false, pour_spend, spend_pour, lp__law_levels_0, w0, w1, ha, hc1]
theorem levels_ok (ds caps : List Int) (hl : caps.length ≤ ds.length) (hc : ∀ c ∈ caps, 0 ≤ c) (hn : caps.length ≤ 100) : ∃ lv : List Int, Lv caps lv ∧ F__law_levels [.list (ds.map .int), eT caps] = some (.val (eT lv)) := by
  obtain ⟨lv, y3, y4, y5, h1, h2⟩ := levels_loop (some (.val (.list (ds.map .int)))) (some (.val (eT caps))) caps ds [] [] none none none hl hc (by simp; omega) trivial
  refine ⟨lv, by simpa using h1, fn_ret ?_⟩
  unfold b__law_levels
  simp only [eT, List.map_nil] at h2 ⊢
  simp only [sSeq, sSet, sOwn, sPar, sParL,  sIf, sRet, sRetL, sRetO, sDrop, sAug, sApp, sFrz, frz, sAsg, gSet, gsNil, gsCons, gTupF, Fi.gSub, sFor, iL, iT, iR1, iR2, iZ, iEn, itemsK, eVar, eC, Fi.e2, Fi.e1, asB, eChain, tAndF, tOrF, tNotF, eAnd, eOr, eNot, eIf, aNil, aCons, eTup, lLst, eL, eCall, lCall, eCallF, lCallF, eSlT, lSl, oNone, oSome, ownIx, ownLen, lLc, wipeE, pYes, sNext, fnD, entry, fAdd_int, fSub, fMul_l, fMul_r, fDiv_ok, fMod_ok, fPow_ok, fLt, fLe, fGt, fGe, fEq_int, fEq_str, fEq_bool, fNe_int, fNe_str, fNe_bool, isN, fIs, fIsNot, fIx, fNeg, fLen, fMin, fMax, fTuple, fList, fIntB, fSum, fAll, fAny, at_0, at_1, at_2, eT, eS, eStep, eR, getInts_map, Option.bind_some, Option.map_some, List.getElem?_cons_succ, List.getElem?_cons_zero, List.set_cons_succ, List.set_cons_zero, List.length_cons, List.length_nil, List.length_map, List.map_cons, List.map_nil, List.nil_append, List.cons_append, List.replicate, Nat.zero_add, Nat.reduceAdd, Nat.reduceSub, decide_true, decide_false, reduceIte, Nat.reduceLeDiff, Nat.reduceLT, Int.reduceLT, Int.reduceLE, Int.reduceNeg, Int.reducePow, and_self, or_self, and_true, true_and, or_true, true_or, Bool.not_true, Bool.not_false, pour_spend, spend_pour, h2, Nat.zero_le]
end Lw

namespace Lw
open PySem L2 Fi
def StB (caps : List Int) : Step → Prop
  | .pour a => 0 ≤ a ∧ a ≤ caps.sum
  | .spend i a => i < caps.length ∧ 0 ≤ a ∧ a ≤ caps.getD i 0 + 2
theorem StB.ok {caps : List Int} {t : Step} (h : StB caps t) : StOk caps.length t := by
  cases t with
  | pour a => exact h.1
  | spend i a => exact ⟨h.1, h.2.1⟩
theorem sum_nonneg : ∀ {l : List Int}, (∀ c ∈ l, 0 ≤ c) → 0 ≤ l.sum
  | [], _ => Int.le_refl _
  | c :: l, h => by
    have h1 := h c (by simp)
    have h2 := sum_nonneg (l := l) fun x hx => h x (by simp [hx])
    rw [List.sum_cons]
    omega
theorem sum_take_le : ∀ {l : List Int} (n : Nat), (∀ c ∈ l, 0 ≤ c) → (l.take n).sum ≤ l.sum
  | [], n, _ => by simp
  | c :: l, 0, h => by
    have := sum_nonneg h
    simpa using this
  | c :: l, n + 1, h => by
    have h2 := sum_take_le (l := l) n fun x hx => h x (by simp [hx])
    rw [List.take_succ_cons, List.sum_cons, List.sum_cons]
    omega
theorem getD_mem {l : List Int} {i : Nat} (h : i < l.length) : l.getD i 0 ∈ l := by
  rw [List.getD_eq_getElem?_getD, List.getElem?_eq_getElem h]
  exact List.getElem_mem h
theorem script_body (D Z x5 x6 x7 : Option Sl) (ds caps : List Int) (k : Nat) (acc : List PyData) (hD : D = some (.val (.list (ds.map .int)))) (hp : ∀ d ∈ ds, 0 ≤ d) (hk : 3 + 3 * k < ds.length) (hc : ∀ c ∈ caps, 1 ≤ c) (hc1 : 1 ≤ caps.length) (hc2 : caps.length ≤ 100) (ha : acc.length < 100000) (hk2 : k ≤ 1000) : ∃ (t : Step) (y5 y6 y7 : Option Sl), StB caps t ∧
    lp__law_script_0 [D, some (.val (eT caps)), Z, some (.own acc), some (.val (.int k)), x5, x6, x7] = some (.next [D, some (.val (eT caps)), Z, some (.own (acc ++ [eStep t])), some (.val (.int k)), y5, y6, y7]) := by
  subst hD
  have g1 : atI (ds.map PyData.int) (1 + 3 * (k : Int)) = some (.int (ds.getD (1 + 3 * k) 0)) := at_get (k := 1 + 3 * k) (by omega)
  have g2 : atI (ds.map PyData.int) (2 + 3 * (k : Int)) = some (.int (ds.getD (2 + 3 * k) 0)) := at_get (k := 2 + 3 * k) (by omega)
  have g3 : atI (ds.map PyData.int) (3 + 3 * (k : Int)) = some (.int (ds.getD (3 + 3 * k) 0)) := at_get (k := 3 + 3 * k) (by omega)
  generalize ds.getD (1 + 3 * k) 0 = kind at g1
  generalize ds.getD (2 + 3 * k) 0 = d2 at g2
  generalize ds.getD (3 + 3 * k) 0 = digit at g3
  have hl : 0 < (caps.length : Int) := by omega
  have p0 := Int.emod_nonneg d2 (show (caps.length : Int) ≠ 0 by omega)
  have p1 := Int.emod_lt_of_pos d2 hl
  obtain ⟨p, hpl⟩ : ∃ p : Nat, d2 % (caps.length : Int) = p := ⟨(d2 % (caps.length : Int)).toNat, by omega⟩
  have hpl2 : p < caps.length := by omega
  have hcp := hc _ (getD_mem hpl2)
  have gc : atI (caps.map PyData.int) (p : Int) = some (.int (caps.getD p 0)) := at_get hpl2
  have hcut : cutD (caps.map PyData.int) none (some ((p : Int) + 1)) = (caps.take (p + 1)).map .int := by
    have := cut_to (l := caps.map PyData.int) (b := p + 1)
    rw [← List.map_take] at this
    exact this
  have hs0 : 0 ≤ (caps.take (p + 1)).sum := sum_nonneg fun c h => by have := hc c (List.mem_of_mem_take h); omega
  have hs1 : (caps.take (p + 1)).sum ≤ caps.sum := sum_take_le _ fun c h => by have := hc c h; omega
  by_cases hkind : kind % 2 = 0
  · have hpos : 0 < 1 + (caps.take (p + 1)).sum := by omega
    have e0 := Int.emod_nonneg digit (show 1 + (caps.take (p + 1)).sum ≠ 0 by omega)
    have e1 := Int.emod_lt_of_pos digit hpos
    refine ⟨.pour (digit % (1 + (caps.take (p + 1)).sum)), some (.val (.int p)), some (.val (.int kind)), some (.val (.int digit)), ⟨e0, by omega⟩, ?_⟩
    simp only [sSeq, sSet, sOwn, sPar, sParL,  sIf, sRet, sRetL, sRetO, sDrop, sAug, sApp, sFrz, frz, sAsg, gSet, gsNil, gsCons, gTupF, Fi.gSub, sFor, iL, iT, iR1, iR2, iZ, iEn, itemsK, eVar, eC, Fi.e2, Fi.e1, asB, eChain, tAndF, tOrF, tNotF, eAnd, eOr, eNot, eIf, aNil, aCons, eTup, lLst, eL, eCall, lCall, eCallF, lCallF, eSlT, lSl, oNone, oSome, ownIx, ownLen, lLc, wipeE, pYes, sNext, fnD, entry, fAdd_int, fSub, fMul_l, fMul_r, fDiv_ok, fMod_ok, fPow_ok, fLt, fLe, fGt, fGe, fEq_int, fEq_str, fEq_bool, fNe_int, fNe_str, fNe_bool, isN, fIs, fIsNot, fIx, fNeg, fLen, fMin, fMax, fTuple, fList, fIntB, fSum, fAll, fAny, at_0, at_1, at_2, eT, eS, eStep, eR, getInts_map, Option.bind_some, Option.map_some, List.getElem?_cons_succ, List.getElem?_cons_zero, List.set_cons_succ, List.set_cons_zero, List.length_cons, List.length_nil, List.length_map, List.map_cons, List.map_nil, List.nil_append, List.cons_append, List.replicate, Nat.zero_add, Nat.reduceAdd, Nat.reduceSub, decide_true, decide_false, reduceIte, Nat.reduceLeDiff, Nat.reduceLT, Int.reduceLT, Int.reduceLE, Int.reduceNeg, Int.reducePow, and_self, or_self, and_true, true_and, or_true, true_or, Bool.not_true, Bool.not_false, pour_spend, spend_pour, lp__law_script_0, g1, g2, g3, hl, hpl, hcut, hpos, hkind, ha]
  · have r0 := Int.emod_nonneg (kind / 2) (show (2 : Int) ≠ 0 by decide)
    have r1 := Int.emod_lt_of_pos (kind / 2) (show (0 : Int) < 2 by decide)
    have hr : kind / 2 % 2 = 0 ∨ kind / 2 % 2 = 1 := by omega
    have hq : 0 ≤ caps.getD p 0 / 4 := Int.ediv_nonneg (by omega) (by decide)
    have hq2 : caps.getD p 0 / 4 ≤ caps.getD p 0 := Int.ediv_le_self 4 (by omega)
    rcases hr with hr | hr
    · have hpos : 0 < 1 + caps.getD p 0 := by omega
      have e0 := Int.emod_nonneg digit (show 1 + caps.getD p 0 ≠ 0 by omega)
      have e1 := Int.emod_lt_of_pos digit hpos
      refine ⟨.spend p (digit % (1 + caps.getD p 0)), some (.val (.int p)), some (.val (.int kind)), some (.val (.int digit)), ⟨hpl2, e0, by omega⟩, ?_⟩
      simp only [sSeq, sSet, sOwn, sPar, sParL,  sIf, sRet, sRetL, sRetO, sDrop, sAug, sApp, sFrz, frz, sAsg, gSet, gsNil, gsCons, gTupF, Fi.gSub, sFor, iL, iT, iR1, iR2, iZ, iEn, itemsK, eVar, eC, Fi.e2, Fi.e1, asB, eChain, tAndF, tOrF, tNotF, eAnd, eOr, eNot, eIf, aNil, aCons, eTup, lLst, eL, eCall, lCall, eCallF, lCallF, eSlT, lSl, oNone, oSome, ownIx, ownLen, lLc, wipeE, pYes, sNext, fnD, entry, fAdd_int, fSub, fMul_l, fMul_r, fDiv_ok, fMod_ok, fPow_ok, fLt, fLe, fGt, fGe, fEq_int, fEq_str, fEq_bool, fNe_int, fNe_str, fNe_bool, isN, fIs, fIsNot, fIx, fNeg, fLen, fMin, fMax, fTuple, fList, fIntB, fSum, fAll, fAny, at_0, at_1, at_2, eT, eS, eStep, eR, getInts_map, Option.bind_some, Option.map_some, List.getElem?_cons_succ, List.getElem?_cons_zero, List.set_cons_succ, List.set_cons_zero, List.length_cons, List.length_nil, List.length_map, List.map_cons, List.map_nil, List.nil_append, List.cons_append, List.replicate, Nat.zero_add, Nat.reduceAdd, Nat.reduceSub, decide_true, decide_false, reduceIte, Nat.reduceLeDiff, Nat.reduceLT, Int.reduceLT, Int.reduceLE, Int.reduceNeg, Int.reducePow, and_self, or_self, and_true, true_and, or_true, true_or, Bool.not_true, Bool.not_false, pour_spend, spend_pour, lp__law_script_0, g1, g2, g3, hl, hpl, hcut, hpos, hkind, ha, gc, hr]
    · have hpos : 0 < 1 + (2 + caps.getD p 0 / 4) := by omega
      have e0 := Int.emod_nonneg digit (show 1 + (2 + caps.getD p 0 / 4) ≠ 0 by omega)
      have e1 := Int.emod_lt_of_pos digit hpos
      refine ⟨.spend p (digit % (1 + (2 + caps.getD p 0 / 4))), some (.val (.int p)), some (.val (.int kind)), some (.val (.int digit)), ⟨hpl2, e0, by omega⟩, ?_⟩
      simp only [sSeq, sSet, sOwn, sPar, sParL,  sIf, sRet, sRetL, sRetO, sDrop, sAug, sApp, sFrz, frz, sAsg, gSet, gsNil, gsCons, gTupF, Fi.gSub, sFor, iL, iT, iR1, iR2, iZ, iEn, itemsK, eVar, eC, Fi.e2, Fi.e1, asB, eChain, tAndF, tOrF, tNotF, eAnd, eOr, eNot, eIf, aNil, aCons, eTup, lLst, eL, eCall, lCall, eCallF, lCallF, eSlT, lSl, oNone, oSome, ownIx, ownLen, lLc, wipeE, pYes, sNext, fnD, entry, fAdd_int, fSub, fMul_l, fMul_r, fDiv_ok, fMod_ok, fPow_ok, fLt, fLe, fGt, fGe, fEq_int, fEq_str, fEq_bool, fNe_int, fNe_str, fNe_bool, isN, fIs, fIsNot, fIx, fNeg, fLen, fMin, fMax, fTuple, fList, fIntB, fSum, fAll, fAny, at_0, at_1, at_2, eT, eS, eStep, eR, getInts_map, Option.bind_some, Option.map_some, List.getElem?_cons_succ, List.getElem?_cons_zero, List.set_cons_succ, List.set_cons_zero, List.length_cons, List.length_nil, List.length_map, List.map_cons, List.map_nil, List.nil_append, List.cons_append, List.replicate, Nat.zero_add, Nat.reduceAdd, Nat.reduceSub, decide_true, decide_false, reduceIte, Nat.reduceLeDiff, Nat.reduceLT, Int.reduceLT, Int.reduceLE, Int.reduceNeg, Int.reducePow, and_self, or_self, and_true, true_and, or_true, true_or, Bool.not_true, Bool.not_false, pour_spend, spend_pour, lp__law_script_0, g1, g2, g3, hl, hpl, hcut, hpos, hkind, ha, gc, hr]
theorem script_ok (ds caps : List Int) (size : Nat) (hp : ∀ d ∈ ds, 0 ≤ d) (hk : 3 * size + 1 ≤ ds.length) (hz : size ≤ 1000) (hc : ∀ c ∈ caps, 1 ≤ c) (hc1 : 1 ≤ caps.length) (hc2 : caps.length ≤ 100) : ∃ s : List Step, s.length ≤ size ∧ (∀ t ∈ s, StB caps t) ∧
    F__law_script [.list (ds.map .int), eT caps, .int size] = some (.val (eS s)) := by
  have g0 : atI (ds.map PyData.int) 0 = some (.int (ds.getD 0 0)) := at_get (k := 0) (by omega)
  have hz0 : 0 < (size : Int) + 1 := by omega
  have r0 := Int.emod_nonneg (ds.getD 0 0) (show (size : Int) + 1 ≠ 0 by omega)
  have r1 := Int.emod_lt_of_pos (ds.getD 0 0) hz0
  obtain ⟨n, hn⟩ : ∃ n : Nat, ds.getD 0 0 % ((size : Int) + 1) = n := ⟨(ds.getD 0 0 % ((size : Int) + 1)).toNat, by omega⟩
  let P : Nat → En → Prop := fun i e => ∃ (s : List Step) (y4 y5 y6 y7 : Option Sl), s.length = i ∧ (∀ t ∈ s, StB caps t) ∧
    e = [some (.val (.list (ds.map .int))), some (.val (eT caps)), some (.val (.int size)), some (.own (s.map eStep)), y4, y5, y6, y7]
  obtain ⟨e, f1, s, y4, y5, y6, y7, h1, h2, rfl⟩ : ∃ e, forD (gSet 4) lp__law_script_0 ((List.range n).map fun (i : Nat) => PyData.int (i : Int)) [some (.val (.list (ds.map .int))), some (.val (eT caps)), some (.val (.int size)), some (.own []), none, none, none, none] = some (.next e) ∧ P (0 + ((List.range n).map fun (i : Nat) => PyData.int (i : Int)).length) e := by
    refine forD_inv P _ 0 _ ⟨[], none, none, none, none, rfl, by simp, rfl⟩ fun i d e hd hp' => ?_
    have hi : i < n ∧ d = .int (i : Int) := by
      rw [List.getElem?_map] at hd
      by_cases hi : i < n
      · rw [List.getElem?_range hi] at hd
        exact ⟨hi, (Option.some.inj hd).symm⟩
      · rw [List.getElem?_eq_none (by rw [List.length_range]; omega)] at hd
        cases hd
    obtain ⟨hi, rfl⟩ := hi
    obtain ⟨s, y4, y5, y6, y7, h1, h2, rfl⟩ := hp'
    obtain ⟨t, z5, z6, z7, q1, q2⟩ := script_body _ (some (.val (.int size))) y5 y6 y7 ds caps i (s.map eStep) rfl hp (by omega) hc hc1 hc2 (by rw [List.length_map]; omega) (by omega)
    refine ⟨_, _, rfl, q2, s ++ [t], _, z5, z6, z7, by rw [List.length_append, h1]; rfl, fun x hx => ?_, by rw [List.map_append]; rfl⟩
    rcases List.mem_append.mp hx with h | h
    · exact h2 x h
    · rw [List.mem_singleton.mp h]
      exact q1
  have hn2 : -100000 < (n : Int) ∧ (n : Int) < 100000 := ⟨by omega, by omega⟩
  rw [List.length_map, List.length_range] at h1
  refine ⟨s, by omega, h2, fn_ret ?_⟩
  unfold b__law_script
  simp only [eT] at f1
  simp only [sSeq, sSet, sOwn, sPar, sParL,  sIf, sRet, sRetL, sRetO, sDrop, sAug, sApp, sFrz, frz, sAsg, gSet, gsNil, gsCons, gTupF, Fi.gSub, sFor, iL, iT, iR1, iR2, iZ, iEn, itemsK, eVar, eC, Fi.e2, Fi.e1, asB, eChain, tAndF, tOrF, tNotF, eAnd, eOr, eNot, eIf, aNil, aCons, eTup, lLst, eL, eCall, lCall, eCallF, lCallF, eSlT, lSl, oNone, oSome, ownIx, ownLen, lLc, wipeE, pYes, sNext, fnD, entry, fAdd_int, fSub, fMul_l, fMul_r, fDiv_ok, fMod_ok, fPow_ok, fLt, fLe, fGt, fGe, fEq_int, fEq_str, fEq_bool, fNe_int, fNe_str, fNe_bool, isN, fIs, fIsNot, fIx, fNeg, fLen, fMin, fMax, fTuple, fList, fIntB, fSum, fAll, fAny, at_0, at_1, at_2, eT, eS, eStep, eR, getInts_map, Option.bind_some, Option.map_some, List.getElem?_cons_succ, List.getElem?_cons_zero, List.set_cons_succ, List.set_cons_zero, List.length_cons, List.length_nil, List.length_map, List.map_cons, List.map_nil, List.nil_append, List.cons_append, List.replicate, Nat.zero_add, Nat.reduceAdd, Nat.reduceSub, decide_true, decide_false, reduceIte, Nat.reduceLeDiff, Nat.reduceLT, Int.reduceLT, Int.reduceLE, Int.reduceNeg, Int.reducePow, and_self, or_self, and_true, true_and, or_true, true_or, Bool.not_true, Bool.not_false, pour_spend, spend_pour, g0, hz0, hn, hn2, Int.toNat_natCast, Nat.zero_le, f1]
end Lw

namespace Lw
open PySem L2 Fi
theorem possible_loop {caps lv : List Int} (hc : caps.length ≤ 100) (hl : caps.length = lv.length) (S : Option Sl) : ∀ (s good : List Step) (y4 : Option Sl), (∀ t ∈ good ++ s, StOk caps.length t) → good.length + s.length ≤ 1000 → runM caps lv good ≠ none → ∃ n, runM caps lv (good ++ s.take n) ≠ none ∧ (n = s.length ∨ runM caps lv (good ++ s.take (n + 1)) = none) ∧ n ≤ s.length ∧
    (forD (gSet 4) lp__law_possible_0 (s.map eStep) [some (.val (eT caps)), some (.val (eT lv)), S, some (.val (eS good)), y4] = some (.ret (eS (good ++ s.take n))) ∨
     ∃ z4, forD (gSet 4) lp__law_possible_0 (s.map eStep) [some (.val (eT caps)), some (.val (eT lv)), S, some (.val (eS good)), y4] = some (.next [some (.val (eT caps)), some (.val (eT lv)), S, some (.val (eS (good ++ s.take n))), z4]))
  | [], good, y4, _, _, hg => ⟨0, by simpa using hg, .inl rfl, Nat.le_refl _, .inr ⟨y4, by simp [forD]⟩⟩
  | t :: s, good, y4, hs, hn, hg => by
    have hadd : fAdd (.tuple (good.map eStep)) (.tuple [eStep t]) = some (.tuple ((good ++ [t]).map eStep)) := by
      rw [fAdd_tup (by simp at hn ⊢; omega), List.map_append]
      rfl
    have hrun := lrun_ok (caps := caps) (lv := lv) (s := good ++ [t]) hc hl fun u hu => hs u (by
      rcases List.mem_append.mp hu with h | h
      · exact List.mem_append_left _ h
      · rw [List.mem_singleton.mp h]
        simp)
    generalize hst : eStep t = T at hadd
    cases hr : runM caps lv (good ++ [t]) with
    | none =>
      refine ⟨0, by simpa using hg, .inr (by simpa using hr), Nat.zero_le _, .inl ?_⟩
      rw [hr] at hrun
      rw [List.map_cons, hst]
      refine forD_ret (e1 := [some (.val (eT caps)), some (.val (eT lv)), S, some (.val (eS good)), some (.val T)]) rfl ?_
      simp only [eT, eS] at hrun ⊢
      simp only [lp__law_possible_0, sSeq, sIf, asB, Fi.e2, eCallF, aCons, aNil, eVar, eC, List.getElem?_cons_succ, List.getElem?_cons_zero, Option.bind_some, eTup, List.length_cons, List.length_nil, Nat.zero_add, Nat.reduceAdd, Nat.reduceLeDiff, reduceIte, hadd, hrun, eR, fIs, isN, sRet, Option.map_some, List.take_zero, List.append_nil]
    | some p =>
      have hne : runM caps lv (good ++ [t]) ≠ none := by rw [hr]; simp
      obtain ⟨n, h1, h2, h3, h4⟩ := possible_loop hc hl S s (good ++ [t]) (some (.val T)) (by simpa using hs) (by simp at hn ⊢; omega) hne
      have e1 : ∀ m, good ++ [t] ++ s.take m = good ++ (t :: s).take (m + 1) := fun m => by simp
      rw [e1] at h1 h2
      have hb : lp__law_possible_0 [some (.val (eT caps)), some (.val (eT lv)), S, some (.val (eS good)), some (.val T)] = some (.next [some (.val (eT caps)), some (.val (eT lv)), S, some (.val (eS (good ++ [t]))), some (.val T)]) := by
        rw [hr] at hrun
        simp only [eT, eS] at hrun ⊢
        simp only [lp__law_possible_0, sSeq, sIf, asB, Fi.e2, eCallF, aCons, aNil, eVar, eC, List.getElem?_cons_succ, List.getElem?_cons_zero, Option.bind_some, eTup, List.length_cons, List.length_nil, Nat.zero_add, Nat.reduceAdd, Nat.reduceLeDiff, reduceIte, hadd, hrun, eR, fIs, isN, sNext, sSet, Option.map_some, List.set_cons_succ, List.set_cons_zero]
      refine ⟨n + 1, h1, by rcases h2 with h | h; exact .inl (by simp [h]); exact .inr h, by simp; omega, ?_⟩
      rw [e1] at h4
      rw [List.map_cons, hst]
      rcases h4 with h | ⟨z4, h⟩
      · exact .inl (forD_step rfl hb h)
      · exact .inr ⟨z4, forD_step rfl hb h⟩
theorem possible_ok {caps lv : List Int} {s : List Step} (hc : caps.length ≤ 100) (hl : caps.length = lv.length) (hs : ∀ t ∈ s, StOk caps.length t) (hn : s.length ≤ 1000) : ∃ n, n ≤ s.length ∧ runM caps lv (s.take n) ≠ none ∧ (n = s.length ∨ runM caps lv (s.take (n + 1)) = none) ∧
    F__law_possible [eT caps, eT lv, eS s] = some (.val (eS (s.take n))) := by
  obtain ⟨n, h1, h2, h3, h4⟩ := possible_loop hc hl (some (.val (eS s))) s [] none (by simpa using hs) (by simpa using hn) (by simp [runA])
  refine ⟨n, h3, by simpa using h1, by simpa using h2, fn_ret ?_⟩
  unfold b__law_possible
  rcases h4 with h | ⟨z4, h⟩
  · simp only [eT, eS, List.nil_append, List.map_nil] at h ⊢
    simp only [sSeq, sSet, sOwn, sPar, sParL,  sIf, sRet, sRetL, sRetO, sDrop, sAug, sApp, sFrz, frz, sAsg, gSet, gsNil, gsCons, gTupF, Fi.gSub, sFor, iL, iT, iR1, iR2, iZ, iEn, itemsK, eVar, eC, Fi.e2, Fi.e1, asB, eChain, tAndF, tOrF, tNotF, eAnd, eOr, eNot, eIf, aNil, aCons, eTup, lLst, eL, eCall, lCall, eCallF, lCallF, eSlT, lSl, oNone, oSome, ownIx, ownLen, lLc, wipeE, pYes, sNext, fnD, entry, fAdd_int, fSub, fMul_l, fMul_r, fDiv_ok, fMod_ok, fPow_ok, fLt, fLe, fGt, fGe, fEq_int, fEq_str, fEq_bool, fNe_int, fNe_str, fNe_bool, isN, fIs, fIsNot, fIx, fNeg, fLen, fMin, fMax, fTuple, fList, fIntB, fSum, fAll, fAny, at_0, at_1, at_2, eT, eS, eStep, eR, getInts_map, Option.bind_some, Option.map_some, List.getElem?_cons_succ, List.getElem?_cons_zero, List.set_cons_succ, List.set_cons_zero, List.length_cons, List.length_nil, List.length_map, List.map_cons, List.map_nil, List.nil_append, List.cons_append, List.replicate, Nat.zero_add, Nat.reduceAdd, Nat.reduceSub, decide_true, decide_false, reduceIte, Nat.reduceLeDiff, Nat.reduceLT, Int.reduceLT, Int.reduceLE, Int.reduceNeg, Int.reducePow, and_self, or_self, and_true, true_and, or_true, true_or, Bool.not_true, Bool.not_false, pour_spend, spend_pour, h, Nat.zero_le]
  · simp only [eT, eS, List.nil_append, List.map_nil] at h ⊢
    simp only [sSeq, sSet, sOwn, sPar, sParL,  sIf, sRet, sRetL, sRetO, sDrop, sAug, sApp, sFrz, frz, sAsg, gSet, gsNil, gsCons, gTupF, Fi.gSub, sFor, iL, iT, iR1, iR2, iZ, iEn, itemsK, eVar, eC, Fi.e2, Fi.e1, asB, eChain, tAndF, tOrF, tNotF, eAnd, eOr, eNot, eIf, aNil, aCons, eTup, lLst, eL, eCall, lCall, eCallF, lCallF, eSlT, lSl, oNone, oSome, ownIx, ownLen, lLc, wipeE, pYes, sNext, fnD, entry, fAdd_int, fSub, fMul_l, fMul_r, fDiv_ok, fMod_ok, fPow_ok, fLt, fLe, fGt, fGe, fEq_int, fEq_str, fEq_bool, fNe_int, fNe_str, fNe_bool, isN, fIs, fIsNot, fIx, fNeg, fLen, fMin, fMax, fTuple, fList, fIntB, fSum, fAll, fAny, at_0, at_1, at_2, eT, eS, eStep, eR, getInts_map, Option.bind_some, Option.map_some, List.getElem?_cons_succ, List.getElem?_cons_zero, List.set_cons_succ, List.set_cons_zero, List.length_cons, List.length_nil, List.length_map, List.map_cons, List.map_nil, List.nil_append, List.cons_append, List.replicate, Nat.zero_add, Nat.reduceAdd, Nat.reduceSub, decide_true, decide_false, reduceIte, Nat.reduceLeDiff, Nat.reduceLT, Int.reduceLT, Int.reduceLE, Int.reduceNeg, Int.reducePow, and_self, or_self, and_true, true_and, or_true, true_or, Bool.not_true, Bool.not_false, pour_spend, spend_pour, h, Nat.zero_le]
end Lw

namespace Lw
open PySem L2 Fi
theorem cut9 {l : List PyData} : cutD l (some 9) none = l.drop 9 := cut_from (a := 9)
theorem cut16 {l : List PyData} : cutD l (some 16) none = l.drop 16 := cut_from (a := 16)
theorem range_get' {n i : Nat} {d : PyData} (h : ((List.range n).map fun (i : Nat) => PyData.int (i : Int))[i]? = some d) : i < n ∧ d = .int (i : Int) := by
  rw [List.getElem?_map] at h
  by_cases hi : i < n
  · rw [List.getElem?_range hi] at h
    exact ⟨hi, (Option.some.inj h).symm⟩
  · rw [List.getElem?_eq_none (by rw [List.length_range]; omega)] at h
    cases h
theorem sum_le : ∀ {l : List Int} {b : Int}, (∀ c ∈ l, c ≤ b) → l.sum ≤ b * l.length
  | [], b, _ => by simp
  | c :: l, b, h => by
    have h1 := h c (by simp)
    have h2 := sum_le (l := l) (b := b) fun x hx => h x (by simp [hx])
    rw [List.sum_cons, List.length_cons]
    have : b * ((l.length + 1 : Nat) : Int) = b * (l.length : Int) + b := by
      rw [Int.natCast_add, Int.mul_add]
      simp
    omega
end Lw

namespace Lw
open PySem L2 Fi
/-- nowhere more -/
def Le : List Int → List Int → Prop
  | [], [] => True
  | a :: as, b :: bs => a ≤ b ∧ Le as bs
  | _, _ => False
theorem Le.refl : ∀ l : List Int, Le l l
  | [] => trivial
  | _ :: l => ⟨Int.le_refl _, Le.refl l⟩
theorem Le.len : ∀ {a b : List Int}, Le a b → a.length = b.length
  | [], [], _ => rfl
  | _ :: _, _ :: _, h => by rw [List.length_cons, List.length_cons, h.2.len]
  | [], _ :: _, h => h.elim
  | _ :: _, [], h => h.elim
theorem Le.get : ∀ {a b : List Int} (i : Nat), Le a b → a.getD i 0 ≤ b.getD i 0
  | [], [], _, _ => Int.le_refl _
  | _ :: _, _ :: _, 0, h => h.1
  | _ :: as, _ :: bs, i + 1, h => by
    have := h.2.get i
    simpa using this
  | [], _ :: _, _, h => h.elim
  | _ :: _, [], _, h => h.elim
theorem Le.set : ∀ {a b : List Int} (i : Nat) {x y : Int}, Le a b → x ≤ y → Le (a.set i x) (b.set i y)
  | [], [], _, _, _, _, _ => trivial
  | _ :: _, _ :: _, 0, _, _, h, q => ⟨q, h.2⟩
  | _ :: _, _ :: _, i + 1, _, _, h, q => ⟨h.1, h.2.set i q⟩
  | [], _ :: _, _, _, _, h, _ => h.elim
  | _ :: _, [], _, _, _, h, _ => h.elim
theorem Le.trans : ∀ {a b c : List Int}, Le a b → Le b c → Le a c
  | [], [], [], _, _ => trivial
  | _ :: _, _ :: _, _ :: _, h, q => ⟨Int.le_trans h.1 q.1, h.2.trans q.2⟩
  | [], _ :: _, _, h, _ => h.elim
  | _ :: _, [], _, h, _ => h.elim
  | [], [], _ :: _, _, q => q.elim
  | _ :: _, _ :: _, [], _, q => q.elim
theorem Le.antisymm : ∀ {a b : List Int}, Le a b → Le b a → a = b
  | [], [], _, _ => rfl
  | _ :: _, _ :: _, h, q => by rw [Int.le_antisymm h.1 q.1, h.2.antisymm q.2]
  | [], _ :: _, h, _ => h.elim
  | _ :: _, [], h, _ => h.elim
theorem pour_mono : ∀ {cs l m : List Int} {a b : Int}, cs.length = l.length → Le l m → a ≤ b → Le (pourM cs l a).1 (pourM cs m b).1 ∧ (pourM cs l a).2 ≤ (pourM cs m b).2
  | [], [], [], a, b, _, _, h => ⟨trivial, h⟩
  | c :: cs, x :: l, y :: m, a, b, hl, h, hab => by
    have h1 := h.1
    have ih := pour_mono (cs := cs) (l := l) (m := m) (a := a - min a (c - x)) (b := b - min b (c - y)) (by simpa using hl) h.2 (by omega)
    exact ⟨⟨by omega, ih.1⟩, ih.2⟩
  | [], _ :: _, _, _, _, hl, _, _ => by simp at hl
  | _ :: _, [], _, _, _, hl, _, _ => by simp at hl
  | _, [], _ :: _, _, _, _, h, _ => h.elim
  | _, _ :: _, [], _, _, _, h, _ => h.elim
theorem run_mono {caps : List Int} : ∀ {s : List Step} {l m : List Int} {x y : Int} {p : List Int × Int}, caps.length = l.length → Le l m → x ≤ y → runA caps l x s = some p → ∃ q, runA caps m y s = some q ∧ Le p.1 q.1 ∧ p.2 ≤ q.2
  | [], l, m, x, y, p, _, h, hxy, e => by
    cases e
    exact ⟨_, rfl, h, hxy⟩
  | .pour a :: s, l, m, x, y, p, hl, h, hxy, e => by
    obtain ⟨h1, h2⟩ := pour_mono (a := a) (b := a) hl h (Int.le_refl _)
    exact run_mono (s := s) (l := (pourM caps l a).1) (m := (pourM caps m a).1) (x := x + (pourM caps l a).2) (y := y + (pourM caps m a).2) (by rw [pourM_len hl, hl]) h1 (by omega) e
  | .spend i a :: s, l, m, x, y, p, hl, h, hxy, e => by
    have hg := h.get i
    simp only [runA, stepM] at e ⊢
    by_cases hlt : l.getD i 0 < a
    · rw [if_pos hlt] at e
      cases e
    · rw [if_neg hlt] at e
      rw [if_neg (by omega)]
      exact run_mono (s := s) (l := l.set i (l.getD i 0 - a)) (m := m.set i (m.getD i 0 - a)) (x := x + 0) (y := y + 0) (by rw [List.length_set, hl]) (h.set i (by omega)) (by omega) e
/-- a script that is possible behind a pour is possible behind a larger one -/
theorem pour_up {caps lv : List Int} {s : List Step} {a b : Int} (hl : caps.length = lv.length) (hab : a ≤ b) (h : runM caps lv (.pour a :: s) ≠ none) : runM caps lv (.pour b :: s) ≠ none := by
  obtain ⟨h1, h2⟩ := pour_mono (a := a) (b := b) hl (Le.refl lv) hab
  cases e : runM caps lv (.pour a :: s) with
  | none => exact absurd e h
  | some p =>
    obtain ⟨q, hq, _⟩ := run_mono (s := s) (x := 0 + (pourM caps lv a).2) (y := 0 + (pourM caps lv b).2) (by rw [pourM_len hl, hl]) h1 (by omega) e
    have : runM caps lv (.pour b :: s) = some q := hq
    rw [this]
    exact fun z => by cases z
theorem spend_down {caps lv : List Int} {s : List Step} {i : Nat} {a b : Int} (hl : caps.length = lv.length) (hab : a ≤ b) (h : runM caps lv (.spend i b :: s) ≠ none) : runM caps lv (.spend i a :: s) ≠ none := by
  simp only [runM, runA, stepM] at h ⊢
  by_cases hb : lv.getD i 0 < b
  · rw [if_pos hb] at h
    exact absurd rfl h
  · rw [if_neg hb] at h
    rw [if_neg (by omega)]
    cases e : runA caps (lv.set i (lv.getD i 0 - b)) (0 + 0) s with
    | none => exact absurd e h
    | some p =>
      obtain ⟨q, hq, _⟩ := run_mono (s := s) (x := 0 + 0) (y := 0 + 0) (by rw [List.length_set, hl]) ((Le.refl lv).set i (show lv.getD i 0 - b ≤ lv.getD i 0 - a by omega)) (Int.le_refl _) e
      show runA caps (lv.set i (lv.getD i 0 - a)) (0 + 0) s ≠ none
      rw [hq]
      exact fun z => by cases z
theorem set_self : ∀ {l : List Int} {i : Nat}, l.set i (l.getD i 0) = l
  | [], _ => rfl
  | _ :: _, 0 => rfl
  | x :: l, i + 1 => by
    have := set_self (l := l) (i := i)
    simpa using this
theorem spend_zero {caps lv : List Int} {s : List Step} {i : Nat} (h : 0 ≤ lv.getD i 0) : runM caps lv (.spend i 0 :: s) = runM caps lv s := by
  simp only [runM, runA, stepM]
  rw [if_neg (by omega), Int.sub_zero, set_self]
  rfl
end Lw

namespace Lw
open PySem L2 Fi
theorem runA_app {caps : List Int} : ∀ (a : List Step) (lv : List Int) (x : Int) (b : List Step), runA caps lv x (a ++ b) = (runA caps lv x a).bind fun p => runA caps p.1 p.2 b
  | [], _, _, _ => rfl
  | t :: a, lv, x, b => by
    simp only [List.cons_append, runA]
    cases stepM caps lv t with
    | none => rfl
    | some p => exact runA_app a p.1 (x + p.2) b
theorem runA_levels {caps : List Int} : ∀ {s : List Step} {l : List Int} {x y : Int}, (runA caps l x s).map Prod.fst = (runA caps l y s).map Prod.fst
  | [], l, x, y => rfl
  | t :: s, l, x, y => by
    simp only [runA]
    cases stepM caps l t with
    | none => rfl
    | some p => exact runA_levels
theorem shaped_tup (l : List Int) : SeqAt.shaped (eT l) = true := by
  have h := depth_ints l
  have h2 := canLay_ints l
  simp only [SeqAt.shaped, PyData.canLay0, h2, PyData.depth, Bool.true_and]
  exact decide_eq_true (by omega)
theorem eqv_ints : ∀ a b : List Int, PyData.eqvAll (a.map .int) (b.map .int) = decide (a = b)
  | [], [] => rfl
  | [], _ :: _ => rfl
  | _ :: _, [] => rfl
  | x :: a, y :: b => by
    have ih := eqv_ints a b
    show (PyData.eqv (.int x) (.int y) && PyData.eqvAll (a.map .int) (b.map .int)) = _
    rw [ih]
    show ((x == y) && decide (a = b)) = _
    by_cases h : x = y
    · subst h
      by_cases h2 : a = b
      · subst h2
        simp
      · simp [h2]
    · simp [h]
theorem fEq_tup (a b : List Int) : fEq (.tuple (a.map .int)) (.tuple (b.map .int)) = some (.bool (decide (a = b))) := by
  have h1 := shaped_tup a
  have h2 := shaped_tup b
  show (if _ then _ else _) = _
  rw [if_pos ⟨h1, h2⟩]
  show some (PyData.bool (PyData.eqvAll (a.map .int) (b.map .int))) = _
  rw [eqv_ints]
/-! ### a step with another amount -/
def amt (a : Int) : Step → Step
  | .pour _ => .pour a
  | .spend i _ => .spend i a
def amtOf : Step → Int
  | .pour a => a
  | .spend _ a => a
def withA (s : List Step) (k : Nat) (a : Int) : List Step := s.take k ++ (match s[k]? with | some t => [amt a t] | none => []) ++ s.drop (k + 1)
theorem withA_eq {s : List Step} {k : Nat} {t : Step} {a : Int} (h : s[k]? = some t) : withA s k a = s.take k ++ amt a t :: s.drop (k + 1) := by
  unfold withA
  rw [h, List.append_assoc]
  rfl
theorem withA_len {s : List Step} {k : Nat} {t : Step} {a : Int} (h : s[k]? = some t) : (withA s k a).length = s.length := by
  have := (List.getElem?_eq_some_iff.mp h).1
  rw [withA_eq h]
  simp
  omega
theorem withA_get {s : List Step} {k : Nat} {t : Step} {a : Int} (h : s[k]? = some t) : (withA s k a)[k]? = some (amt a t) := by
  have := (List.getElem?_eq_some_iff.mp h).1
  rw [withA_eq h, List.getElem?_append_right (by simp; omega)]
  simp
  rw [show k - min k s.length = 0 by omega]
  rfl
theorem withA_withA {s : List Step} {k : Nat} {t : Step} {a b : Int} (h : s[k]? = some t) : withA (withA s k a) k b = withA s k b := by
  have hk := (List.getElem?_eq_some_iff.mp h).1
  rw [withA_eq (withA_get h), withA_eq h, withA_eq h]
  have e1 : (s.take k ++ amt a t :: s.drop (k + 1)).take k = s.take k := by
    rw [List.take_append_of_le_length (by simp; omega), List.take_take, Nat.min_self]
  have e2 : (s.take k ++ amt a t :: s.drop (k + 1)).drop (k + 1) = s.drop (k + 1) := by
    have h0 : (s.take k).length = k := by simp; omega
    rw [List.drop_append, List.drop_of_length_le (by omega), h0, List.nil_append, show k + 1 - k = 1 by omega]
    rfl
  rw [e1, e2]
  cases t <;> rfl
theorem withA_self {s : List Step} {k : Nat} {t : Step} (h : s[k]? = some t) : withA s k (amtOf t) = s := by
  have hk := (List.getElem?_eq_some_iff.mp h)
  rw [withA_eq h]
  have e : amt (amtOf t) t = t := by cases t <;> rfl
  rw [e, ← hk.2, ← List.drop_eq_getElem_cons hk.1, List.take_append_drop]
theorem withA_ok {n : Nat} {s : List Step} {k : Nat} {t : Step} {a : Int} (h : s[k]? = some t) (hs : ∀ u ∈ s, StOk n u) (ha : 0 ≤ a) : ∀ u ∈ withA s k a, StOk n u := fun u hu => by
  rw [withA_eq h] at hu
  rcases List.mem_append.mp hu with q | q
  · exact hs u (List.mem_of_mem_take q)
  · rcases List.mem_cons.mp q with e | e
    · rw [e]
      have := hs t (List.mem_of_getElem? h)
      cases t with
      | pour x => exact ha
      | spend i x => exact ⟨this.1, ha⟩
    · exact hs u (List.mem_of_mem_drop e)
theorem cut_last1 {x : PyData} : cutD [.str "pour", x] none (some (-1)) = [.str "pour"] := rfl
theorem cut_last2 {x y : PyData} : cutD [.str "spend", x, y] none (some (-1)) = [.str "spend", x] := rfl
theorem with_eval {s : List Step} {k : Nat} {t : Step} {a : Int} (h : s[k]? = some t) (hl : s.length ≤ 1000) {b : FS}
    (hb : b = (sRet (Fi.e2 fAdd (Fi.e2 fAdd (eSlT (eVar 0) oNone (oSome (eVar 1))) (eTup (aCons (Fi.e2 fAdd (eSlT (Fi.e2 fIx (eVar 0) (eVar 1)) oNone (oSome (Fi.e1 fNeg (eC (.int 1))))) (eTup (aCons (eVar 2) aNil))) aNil))) (eSlT (eVar 0) (oSome (Fi.e2 fAdd (eVar 1) (eC (.int 1)))) oNone)))) :
    b (entry 3 [eS s, .int k, .int a]) = some (.ret (eS (withA s k a))) := by
  subst hb
  have hk := (List.getElem?_eq_some_iff.mp h).1
  have c1 : cutD (s.map eStep) none (some (k : Int)) = (s.take k).map eStep := by rw [cut_to, List.map_take]
  have c2 : cutD (s.map eStep) (some ((k : Int) + 1)) none = (s.drop (k + 1)).map eStep := by
    have := cut_from (l := s.map eStep) (a := k + 1)
    rw [← List.map_drop] at this
    exact this
  have hat : atI (s.map eStep) (k : Int) = some (eStep t) := by
    refine atI_nat ?_
    rw [List.getElem?_map, h]
    rfl
  have b1 : fAdd (.tuple ((s.take k).map eStep)) (.tuple [eStep (amt a t)]) = some (.tuple ((s.take k ++ [amt a t]).map eStep)) := by
    rw [fAdd_tup (by simp; omega), List.map_append]
    rfl
  have b2 : fAdd (.tuple ((s.take k ++ [amt a t]).map eStep)) (.tuple ((s.drop (k + 1)).map eStep)) = some (.tuple ((withA s k a).map eStep)) := by
    rw [fAdd_tup (by simp; omega), ← List.map_append, withA_eq h, List.append_assoc]
    rfl
  have b3 : ∀ x : PyData, fAdd (.tuple [.str "pour"]) (.tuple [x]) = some (.tuple [.str "pour", x]) := fun x => fAdd_tup (by simp)
  have b4 : ∀ x y : PyData, fAdd (.tuple [.str "spend", x]) (.tuple [y]) = some (.tuple [.str "spend", x, y]) := fun x y => fAdd_tup (by simp)
  simp only [eS]
  generalize (withA s k a).map eStep = W at b2 ⊢
  generalize (s.take k ++ [amt a t]).map eStep = W1 at b1 b2
  generalize (s.take k).map eStep = W2 at b1 c1
  generalize (s.drop (k + 1)).map eStep = W3 at b2 c2
  generalize s.map eStep = W4 at c1 c2 hat ⊢
  cases t with
  | pour x =>
    simp only [amt, eStep] at b1
    simp only [sSeq, sSet, sOwn, sPar, sParL,  sIf, sRet, sRetL, sRetO, sDrop, sAug, sApp, sFrz, frz, sAsg, gSet, gsNil, gsCons, gTupF, Fi.gSub, sFor, iL, iT, iR1, iR2, iZ, iEn, itemsK, eVar, eC, Fi.e2, Fi.e1, asB, eChain, tAndF, tOrF, tNotF, eAnd, eOr, eNot, eIf, aNil, aCons, eTup, lLst, eL, eCall, lCall, eCallF, lCallF, eSlT, lSl, oNone, oSome, ownIx, ownLen, lLc, wipeE, pYes, sNext, fnD, entry, fAdd_int, fSub, fMul_l, fMul_r, fDiv_ok, fMod_ok, fPow_ok, fLt, fLe, fGt, fGe, fEq_int, fEq_str, fEq_bool, fNe_int, fNe_str, fNe_bool, isN, fIs, fIsNot, fIx, fNeg, fLen, fMin, fMax, fTuple, fList, fIntB, fSum, fAll, fAny, at_0, at_1, at_2, eT, eS, eStep, eR, getInts_map, Option.bind_some, Option.map_some, List.getElem?_cons_succ, List.getElem?_cons_zero, List.set_cons_succ, List.set_cons_zero, List.length_cons, List.length_nil, List.length_map, List.map_cons, List.map_nil, List.nil_append, List.cons_append, List.replicate, Nat.zero_add, Nat.reduceAdd, Nat.reduceSub, decide_true, decide_false, reduceIte, Nat.reduceLeDiff, Nat.reduceLT, Int.reduceLT, Int.reduceLE, Int.reduceNeg, Int.reducePow, and_self, or_self, and_true, true_and, or_true, true_or, Bool.not_true, Bool.not_false, pour_spend, spend_pour, hat, c1, c2, cut_last1, b3, b1, b2]
  | spend i x =>
    simp only [amt, eStep] at b1
    simp only [sSeq, sSet, sOwn, sPar, sParL,  sIf, sRet, sRetL, sRetO, sDrop, sAug, sApp, sFrz, frz, sAsg, gSet, gsNil, gsCons, gTupF, Fi.gSub, sFor, iL, iT, iR1, iR2, iZ, iEn, itemsK, eVar, eC, Fi.e2, Fi.e1, asB, eChain, tAndF, tOrF, tNotF, eAnd, eOr, eNot, eIf, aNil, aCons, eTup, lLst, eL, eCall, lCall, eCallF, lCallF, eSlT, lSl, oNone, oSome, ownIx, ownLen, lLc, wipeE, pYes, sNext, fnD, entry, fAdd_int, fSub, fMul_l, fMul_r, fDiv_ok, fMod_ok, fPow_ok, fLt, fLe, fGt, fGe, fEq_int, fEq_str, fEq_bool, fNe_int, fNe_str, fNe_bool, isN, fIs, fIsNot, fIx, fNeg, fLen, fMin, fMax, fTuple, fList, fIntB, fSum, fAll, fAny, at_0, at_1, at_2, eT, eS, eStep, eR, getInts_map, Option.bind_some, Option.map_some, List.getElem?_cons_succ, List.getElem?_cons_zero, List.set_cons_succ, List.set_cons_zero, List.length_cons, List.length_nil, List.length_map, List.map_cons, List.map_nil, List.nil_append, List.cons_append, List.replicate, Nat.zero_add, Nat.reduceAdd, Nat.reduceSub, decide_true, decide_false, reduceIte, Nat.reduceLeDiff, Nat.reduceLT, Int.reduceLT, Int.reduceLE, Int.reduceNeg, Int.reducePow, and_self, or_self, and_true, true_and, or_true, true_or, Bool.not_true, Bool.not_false, pour_spend, spend_pour, hat, c1, c2, cut_last2, b4, b1, b2]
theorem pwith_ok {s : List Step} {k : Nat} {t : Step} {a : Int} (h : s[k]? = some t) (hl : s.length ≤ 1000) : F_with_amount [eS s, .int k, .int a] = some (.val (eS (withA s k a))) := fn_ret (with_eval h hl rfl)
theorem lwith_ok {s : List Step} {k : Nat} {t : Step} {a : Int} (h : s[k]? = some t) (hl : s.length ≤ 1000) : F__law_with [eS s, .int k, .int a] = some (.val (eS (withA s k a))) := fn_ret (with_eval h hl rfl)
/-! ### judgements -/
def allGe : List Int → List Int → Bool
  | a :: as, b :: bs => decide (b ≤ a) && allGe as bs
  | _, _ => true
def allLe : List Int → List Int → Bool
  | a :: as, b :: bs => decide (a ≤ b) && allLe as bs
  | _, _ => true
theorem allGe_le : ∀ {a b : List Int}, a.length = b.length → (allGe a b = true ↔ Le b a)
  | [], [], _ => by simp [allGe, Le]
  | x :: a, y :: b, h => by
    have := allGe_le (a := a) (b := b) (by simpa using h)
    simp only [allGe, Bool.and_eq_true, decide_eq_true_eq, this, Le]
  | [], _ :: _, h => by simp at h
  | _ :: _, [], h => by simp at h
theorem allLe_le : ∀ {a b : List Int}, a.length = b.length → (allLe a b = true ↔ Le a b)
  | [], [], _ => by simp [allLe, Le]
  | x :: a, y :: b, h => by
    have := allLe_le (a := a) (b := b) (by simpa using h)
    simp only [allLe, Bool.and_eq_true, decide_eq_true_eq, this, Le]
  | [], _ :: _, h => by simp at h
  | _ :: _, [], h => by simp at h
theorem ge_lc {env : En} (h : 9 < env.length) : ∀ (a b : List Int), ∃ l : List Bool, lcD (gTupF 2 (gsCons (gSet 8) (gsCons (gSet 9) gsNil))) pYes (Fi.e2 fGe (eVar 8) (eVar 9)) env (pairs (a.map .int) (b.map .int)) = some (l.map .bool) ∧ l.all id = allGe a b
  | [], _ => ⟨[], by simp [pairs, lcD], by simp [allGe]⟩
  | _ :: _, [] => ⟨[], by simp [pairs, lcD], by simp [allGe]⟩
  | x :: a, y :: b => by
    obtain ⟨l, ih, hl⟩ := ge_lc h a b
    have g1 : ∀ u v : Option Sl, ((env.set 8 u).set 9 v)[8]? = some u := fun u v => by
      rw [List.getElem?_set_ne (by decide), List.getElem?_set_self (by omega)]
    have g2 : ∀ u v : Option Sl, ((env.set 8 u).set 9 v)[9]? = some v := fun u v => List.getElem?_set_self (by rw [List.length_set]; exact h)
    have hp : pairs ((x :: a).map PyData.int) ((y :: b).map PyData.int) = .tuple [.int x, .int y] :: pairs (a.map .int) (b.map .int) := rfl
    refine ⟨decide (y ≤ x) :: l, ?_, by rw [List.all_cons, hl]; rfl⟩
    rw [hp]
    simp only [sSeq, sSet, sOwn, sPar, sParL,  sIf, sRet, sRetL, sRetO, sDrop, sAug, sApp, sFrz, frz, sAsg, gSet, gsNil, gsCons, gTupF, Fi.gSub, sFor, iL, iT, iR1, iR2, iZ, iEn, itemsK, eVar, eC, Fi.e2, Fi.e1, asB, eChain, tAndF, tOrF, tNotF, eAnd, eOr, eNot, eIf, aNil, aCons, eTup, lLst, eL, eCall, lCall, eCallF, lCallF, eSlT, lSl, oNone, oSome, ownIx, ownLen, lLc, wipeE, pYes, sNext, fnD, entry, fAdd_int, fSub, fMul_l, fMul_r, fDiv_ok, fMod_ok, fPow_ok, fLt, fLe, fGt, fGe, fEq_int, fEq_str, fEq_bool, fNe_int, fNe_str, fNe_bool, isN, fIs, fIsNot, fIx, fNeg, fLen, fMin, fMax, fTuple, fList, fIntB, fSum, fAll, fAny, at_0, at_1, at_2, eT, eS, eStep, eR, getInts_map, Option.bind_some, Option.map_some, List.getElem?_cons_succ, List.getElem?_cons_zero, List.set_cons_succ, List.set_cons_zero, List.length_cons, List.length_nil, List.length_map, List.map_cons, List.map_nil, List.nil_append, List.cons_append, List.replicate, Nat.zero_add, Nat.reduceAdd, Nat.reduceSub, decide_true, decide_false, reduceIte, Nat.reduceLeDiff, Nat.reduceLT, Int.reduceLT, Int.reduceLE, Int.reduceNeg, Int.reducePow, and_self, or_self, and_true, true_and, or_true, true_or, Bool.not_true, Bool.not_false, pour_spend, spend_pour, lcD, g1, g2, ih]
theorem le_lc {env : En} (h : 9 < env.length) : ∀ (a b : List Int), ∃ l : List Bool, lcD (gTupF 2 (gsCons (gSet 8) (gsCons (gSet 9) gsNil))) pYes (Fi.e2 fLe (eVar 8) (eVar 9)) env (pairs (a.map .int) (b.map .int)) = some (l.map .bool) ∧ l.all id = allLe a b
  | [], _ => ⟨[], by simp [pairs, lcD], by simp [allLe]⟩
  | _ :: _, [] => ⟨[], by simp [pairs, lcD], by simp [allLe]⟩
  | x :: a, y :: b => by
    obtain ⟨l, ih, hl⟩ := le_lc h a b
    have g1 : ∀ u v : Option Sl, ((env.set 8 u).set 9 v)[8]? = some u := fun u v => by
      rw [List.getElem?_set_ne (by decide), List.getElem?_set_self (by omega)]
    have g2 : ∀ u v : Option Sl, ((env.set 8 u).set 9 v)[9]? = some v := fun u v => List.getElem?_set_self (by rw [List.length_set]; exact h)
    have hp : pairs ((x :: a).map PyData.int) ((y :: b).map PyData.int) = .tuple [.int x, .int y] :: pairs (a.map .int) (b.map .int) := rfl
    refine ⟨decide (x ≤ y) :: l, ?_, by rw [List.all_cons, hl]; rfl⟩
    rw [hp]
    simp only [sSeq, sSet, sOwn, sPar, sParL,  sIf, sRet, sRetL, sRetO, sDrop, sAug, sApp, sFrz, frz, sAsg, gSet, gsNil, gsCons, gTupF, Fi.gSub, sFor, iL, iT, iR1, iR2, iZ, iEn, itemsK, eVar, eC, Fi.e2, Fi.e1, asB, eChain, tAndF, tOrF, tNotF, eAnd, eOr, eNot, eIf, aNil, aCons, eTup, lLst, eL, eCall, lCall, eCallF, lCallF, eSlT, lSl, oNone, oSome, ownIx, ownLen, lLc, wipeE, pYes, sNext, fnD, entry, fAdd_int, fSub, fMul_l, fMul_r, fDiv_ok, fMod_ok, fPow_ok, fLt, fLe, fGt, fGe, fEq_int, fEq_str, fEq_bool, fNe_int, fNe_str, fNe_bool, isN, fIs, fIsNot, fIx, fNeg, fLen, fMin, fMax, fTuple, fList, fIntB, fSum, fAll, fAny, at_0, at_1, at_2, eT, eS, eStep, eR, getInts_map, Option.bind_some, Option.map_some, List.getElem?_cons_succ, List.getElem?_cons_zero, List.set_cons_succ, List.set_cons_zero, List.length_cons, List.length_nil, List.length_map, List.map_cons, List.map_nil, List.nil_append, List.cons_append, List.replicate, Nat.zero_add, Nat.reduceAdd, Nat.reduceSub, decide_true, decide_false, reduceIte, Nat.reduceLeDiff, Nat.reduceLT, Int.reduceLT, Int.reduceLE, Int.reduceNeg, Int.reducePow, and_self, or_self, and_true, true_and, or_true, true_or, Bool.not_true, Bool.not_false, pour_spend, spend_pour, lcD, g1, g2, ih]
def geB (caps lv : List Int) (s : List Step) (k : Nat) (w : List Int) (a : Int) : Bool := match runM caps lv (withA s k a) with
  | none => false
  | some p => allGe p.1 w
def leB (caps lv : List Int) (s : List Step) (k : Nat) (w : List Int) (a : Int) : Bool := match runM caps lv (withA s k a) with
  | none => true
  | some p => allLe p.1 w
theorem judged_ok {caps lv w : List Int} {s : List Step} {k : Nat} {t : Step} {a : Int} (hc : caps.length ≤ 100) (hv : Lv caps lv) (hs : ∀ u ∈ s, StOk caps.length u) (hl : s.length ≤ 1000) (h : s[k]? = some t) (ha : 0 ≤ a) (hw : w.length ≤ 100) :
    F_judged [eT caps, eT lv, eS s, .int k, eT w, .int a] = some (.val (.tuple [.bool (geB caps lv s k w a), .bool (leB caps lv s k w a)])) := by
  have r1 := pwith_ok (a := a) h hl
  have r2 := run_ok hc hv.len (withA_ok h hs ha)
  refine fn_ret ?_
  unfold b_judged geB leB
  cases e : runM caps lv (withA s k a) with
  | none =>
    rw [e] at r2
    simp only [eT, eS] at r1 r2 ⊢
    generalize (withA s k a).map eStep = W at r1 r2
    generalize s.map eStep = sS at r1 ⊢
    simp only [sSeq, sSet, sOwn, sPar, sParL,  sIf, sRet, sRetL, sRetO, sDrop, sAug, sApp, sFrz, frz, sAsg, gSet, gsNil, gsCons, gTupF, Fi.gSub, sFor, iL, iT, iR1, iR2, iZ, iEn, itemsK, eVar, eC, Fi.e2, Fi.e1, asB, eChain, tAndF, tOrF, tNotF, eAnd, eOr, eNot, eIf, aNil, aCons, eTup, lLst, eL, eCall, lCall, eCallF, lCallF, eSlT, lSl, oNone, oSome, ownIx, ownLen, lLc, wipeE, pYes, sNext, fnD, entry, fAdd_int, fSub, fMul_l, fMul_r, fDiv_ok, fMod_ok, fPow_ok, fLt, fLe, fGt, fGe, fEq_int, fEq_str, fEq_bool, fNe_int, fNe_str, fNe_bool, isN, fIs, fIsNot, fIx, fNeg, fLen, fMin, fMax, fTuple, fList, fIntB, fSum, fAll, fAny, at_0, at_1, at_2, eT, eS, eStep, eR, getInts_map, Option.bind_some, Option.map_some, List.getElem?_cons_succ, List.getElem?_cons_zero, List.set_cons_succ, List.set_cons_zero, List.length_cons, List.length_nil, List.length_map, List.map_cons, List.map_nil, List.nil_append, List.cons_append, List.replicate, Nat.zero_add, Nat.reduceAdd, Nat.reduceSub, decide_true, decide_false, reduceIte, Nat.reduceLeDiff, Nat.reduceLT, Int.reduceLT, Int.reduceLE, Int.reduceNeg, Int.reducePow, and_self, or_self, and_true, true_and, or_true, true_or, Bool.not_true, Bool.not_false, pour_spend, spend_pour, r1, r2]
  | some p =>
    rw [e] at r2
    have hpl : (pairs (p.1.map PyData.int) (w.map PyData.int)).length ≤ 1000 := by
      unfold pairs
      rw [List.length_zipWith, List.length_map, List.length_map]
      omega
    have hpl2 : (pairs (p.1.map PyData.int) (w.map PyData.int)).length < 100000 := by omega
    have hge : ∀ x : List (Option Sl), 9 < x.length → _ := fun x h => ge_lc (env := x) h p.1 w
    have hle : ∀ x : List (Option Sl), 9 < x.length → _ := fun x h => le_lc (env := x) h p.1 w
    obtain ⟨l1, g1, g2⟩ := hge [some (.val (eT caps)), some (.val (eT lv)), some (.val (eS s)), some (.val (.int k)), some (.val (eT w)), some (.val (.int a)), some (.val (.tuple [eT p.1, .int p.2])), some (.val (.list (pairs (p.1.map .int) (w.map .int)))), none, none] (by simp)
    obtain ⟨l2, g3, g4⟩ := hle [some (.val (eT caps)), some (.val (eT lv)), some (.val (eS s)), some (.val (.int k)), some (.val (eT w)), some (.val (.int a)), some (.val (.tuple [eT p.1, .int p.2])), some (.val (.list (pairs (p.1.map .int) (w.map .int)))), none, none] (by simp)
    simp only [eT, eS, eR] at r1 r2 g1 g3 ⊢
    generalize (withA s k a).map eStep = W at r1 r2
    generalize s.map eStep = sS at r1 g1 g3 ⊢
    clear hge hle
    generalize hPP : pairs (p.1.map PyData.int) (w.map PyData.int) = PP at hpl hpl2 g1 g3
    simp only [sSeq, sSet, sOwn, sPar, sParL,  sIf, sRet, sRetL, sRetO, sDrop, sAug, sApp, sFrz, frz, sAsg, gSet, gsNil, gsCons, gTupF, Fi.gSub, sFor, iL, iT, iR1, iR2, iZ, iEn, itemsK, eVar, eC, Fi.e2, Fi.e1, asB, eChain, tAndF, tOrF, tNotF, eAnd, eOr, eNot, eIf, aNil, aCons, eTup, lLst, eL, eCall, lCall, eCallF, lCallF, eSlT, lSl, oNone, oSome, ownIx, ownLen, lLc, wipeE, pYes, sNext, fnD, entry, fAdd_int, fSub, fMul_l, fMul_r, fDiv_ok, fMod_ok, fPow_ok, fLt, fLe, fGt, fGe, fEq_int, fEq_str, fEq_bool, fNe_int, fNe_str, fNe_bool, isN, fIs, fIsNot, fIx, fNeg, fLen, fMin, fMax, fTuple, fList, fIntB, fSum, fAll, fAny, at_0, at_1, at_2, eT, eS, eStep, eR, getInts_map, Option.bind_some, Option.map_some, List.getElem?_cons_succ, List.getElem?_cons_zero, List.set_cons_succ, List.set_cons_zero, List.length_cons, List.length_nil, List.length_map, List.map_cons, List.map_nil, List.nil_append, List.cons_append, List.replicate, Nat.zero_add, Nat.reduceAdd, Nat.reduceSub, decide_true, decide_false, reduceIte, Nat.reduceLeDiff, Nat.reduceLT, Int.reduceLT, Int.reduceLE, Int.reduceNeg, Int.reducePow, and_self, or_self, and_true, true_and, or_true, true_or, Bool.not_true, Bool.not_false, pour_spend, spend_pour, r1, r2, lLZ, hPP, hpl, hpl2, g1, g3, getBools_map, g2, g4]
/-! ### monotone in the amount -/
theorem split_run {caps lv : List Int} {s : List Step} {k : Nat} {t : Step} {a : Int} (h : s[k]? = some t) : runM caps lv (withA s k a) = (runA caps lv 0 (s.take k)).bind fun p => runA caps p.1 p.2 (amt a t :: s.drop (k + 1)) := by
  rw [withA_eq h, runM, runA_app]
theorem pour_mono_w {caps lv : List Int} {s : List Step} {k : Nat} {x a b : Int} {p : List Int × Int} (hv : Lv caps lv) (hs : ∀ u ∈ s, StOk caps.length u) (h : s[k]? = some (.pour x)) (hab : a ≤ b) (e : runM caps lv (withA s k a) = some p) : ∃ q, runM caps lv (withA s k b) = some q ∧ Le p.1 q.1 := by
  rw [split_run h] at e ⊢
  obtain ⟨m, hm, e⟩ := Option_bind_some e
  have hml : caps.length = m.1.length := (hv.run (fun u hu => hs u (List.mem_of_mem_take hu)) hm).1.len
  rw [hm]
  obtain ⟨h1, h2⟩ := pour_mono (a := a) (b := b) hml (Le.refl m.1) hab
  obtain ⟨q, hq, hle, _⟩ := run_mono (s := s.drop (k + 1)) (x := m.2 + (pourM caps m.1 a).2) (y := m.2 + (pourM caps m.1 b).2) (by rw [pourM_len hml, hml]) h1 (by omega) e
  exact ⟨q, hq, hle⟩
theorem spend_mono_w {caps lv : List Int} {s : List Step} {k i : Nat} {x a b : Int} {p : List Int × Int} (hv : Lv caps lv) (hs : ∀ u ∈ s, StOk caps.length u) (h : s[k]? = some (.spend i x)) (hab : a ≤ b) (e : runM caps lv (withA s k b) = some p) : ∃ q, runM caps lv (withA s k a) = some q ∧ Le p.1 q.1 := by
  rw [split_run h] at e ⊢
  obtain ⟨m, hm, e⟩ := Option_bind_some e
  have hml : caps.length = m.1.length := (hv.run (fun u hu => hs u (List.mem_of_mem_take hu)) hm).1.len
  rw [hm]
  simp only [amt, runA, stepM] at e
  show ∃ q, runA caps m.1 m.2 (.spend i a :: s.drop (k + 1)) = some q ∧ Le p.1 q.1
  simp only [runA, stepM]
  by_cases hb : m.1.getD i 0 < b
  · rw [if_pos hb] at e
    cases e
  · rw [if_neg hb] at e
    rw [if_neg (by omega)]
    obtain ⟨q, hq, hle, _⟩ := run_mono (s := s.drop (k + 1)) (x := m.2 + 0) (y := m.2 + 0) (by rw [List.length_set, hml]) ((Le.refl m.1).set i (show m.1.getD i 0 - b ≤ m.1.getD i 0 - a by omega)) (Int.le_refl _) e
    exact ⟨q, hq, hle⟩
def fitsP (caps lv : List Int) (s : List Step) (k : Nat) (w : List Int) (a : Int) : Prop := ∃ p, runM caps lv (withA s k a) = some p ∧ p.1 = w
theorem run_len {caps lv : List Int} {s : List Step} {p : List Int × Int} (hv : Lv caps lv) (hs : ∀ u ∈ s, StOk caps.length u) (e : runM caps lv s = some p) : p.1.length = caps.length := (hv.run hs e).1.len.symm
theorem fits_iff {caps lv w : List Int} {s : List Step} {k : Nat} {t : Step} {a : Int} (hv : Lv caps lv) (hs : ∀ u ∈ s, StOk caps.length u) (h : s[k]? = some t) (hw : w.length = caps.length) (ha : 0 ≤ a) : fitsP caps lv s k w a ↔ geB caps lv s k w a = true ∧ leB caps lv s k w a = true := by
  unfold fitsP geB leB
  cases e : runM caps lv (withA s k a) with
  | none => simp
  | some p =>
    have hl := run_len hv (withA_ok h hs ha) e
    simp only [Option.some.injEq]
    rw [allGe_le (by omega), allLe_le (by omega)]
    constructor
    · rintro ⟨q, rfl, rfl⟩
      exact ⟨Le.refl _, Le.refl _⟩
    · rintro ⟨h1, h2⟩
      exact ⟨p, rfl, h2.antisymm h1⟩
theorem ge_pour {caps lv w : List Int} {s : List Step} {k : Nat} {x a b : Int} (hv : Lv caps lv) (hs : ∀ u ∈ s, StOk caps.length u) (h : s[k]? = some (.pour x)) (hw : w.length = caps.length) (ha : 0 ≤ a) (hab : a ≤ b) (g : geB caps lv s k w a = true) : geB caps lv s k w b = true := by
  unfold geB at g ⊢
  cases e : runM caps lv (withA s k a) with
  | none => rw [e] at g; cases g
  | some p =>
    rw [e] at g
    obtain ⟨q, hq, hle⟩ := pour_mono_w hv hs h hab e
    have l1 := run_len hv (withA_ok h hs ha) e
    have l2 := run_len hv (withA_ok h hs (by omega)) hq
    rw [hq]
    exact (allGe_le (by omega)).mpr (((allGe_le (by omega)).mp g).trans hle)
theorem le_pour {caps lv w : List Int} {s : List Step} {k : Nat} {x a b : Int} (hv : Lv caps lv) (hs : ∀ u ∈ s, StOk caps.length u) (h : s[k]? = some (.pour x)) (hw : w.length = caps.length) (ha : 0 ≤ a) (hab : a ≤ b) (g : leB caps lv s k w a = false) : leB caps lv s k w b = false := by
  unfold leB at g ⊢
  cases e : runM caps lv (withA s k a) with
  | none => rw [e] at g; cases g
  | some p =>
    rw [e] at g
    obtain ⟨q, hq, hle⟩ := pour_mono_w hv hs h hab e
    have l1 := run_len hv (withA_ok h hs ha) e
    have l2 := run_len hv (withA_ok h hs (by omega)) hq
    rw [hq]
    cases q2 : allLe q.1 w with
    | false => exact q2
    | true =>
      have := hle.trans ((allLe_le (by omega)).mp q2)
      have h3 : allLe p.1 w = true := (allLe_le (by omega)).mpr this
      have g' : allLe p.1 w = false := g
      rw [h3] at g'
      cases g'
theorem le_spend {caps lv w : List Int} {s : List Step} {k i : Nat} {x a b : Int} (hv : Lv caps lv) (hs : ∀ u ∈ s, StOk caps.length u) (h : s[k]? = some (.spend i x)) (hw : w.length = caps.length) (ha : 0 ≤ a) (hab : a ≤ b) (g : leB caps lv s k w a = true) : leB caps lv s k w b = true := by
  unfold leB at g ⊢
  cases e : runM caps lv (withA s k b) with
  | none => rfl
  | some p =>
    obtain ⟨q, hq, hle⟩ := spend_mono_w hv hs h hab e
    have l1 := run_len hv (withA_ok h hs (by omega)) e
    have l2 := run_len hv (withA_ok h hs ha) hq
    rw [hq] at g
    exact (allLe_le (by omega)).mpr (hle.trans ((allLe_le (by omega)).mp g))
theorem ge_spend {caps lv w : List Int} {s : List Step} {k i : Nat} {x a b : Int} (hv : Lv caps lv) (hs : ∀ u ∈ s, StOk caps.length u) (h : s[k]? = some (.spend i x)) (hw : w.length = caps.length) (ha : 0 ≤ a) (hab : a ≤ b) (g : geB caps lv s k w a = false) : geB caps lv s k w b = false := by
  unfold geB at g ⊢
  cases e : runM caps lv (withA s k b) with
  | none => rfl
  | some p =>
    obtain ⟨q, hq, hle⟩ := spend_mono_w hv hs h hab e
    have l1 := run_len hv (withA_ok h hs (by omega)) e
    have l2 := run_len hv (withA_ok h hs ha) hq
    rw [hq] at g
    cases q2 : allGe p.1 w with
    | false => exact q2
    | true =>
      have := ((allGe_le (by omega)).mp q2).trans hle
      have h3 : allGe q.1 w = true := (allGe_le (by omega)).mpr this
      have g' : allGe q.1 w = false := g
      rw [h3] at g'
      cases g'
/-! ### the binary search -/
theorem first_loop {caps lv w : List Int} {s : List Step} {k : Nat} {t : Step} (hc : caps.length ≤ 100) (hv : Lv caps lv) (hs : ∀ u ∈ s, StOk caps.length u) (hl : s.length ≤ 1000) (h : s[k]? = some t) (hw : w.length ≤ 100) (which : Nat) (want : Bool) (f : Int → Bool) (hf : ∀ a, 0 ≤ a → atI [PyData.bool (geB caps lv s k w a), .bool (leB caps lv s k w a)] (which : Int) = some (.bool (f a)))
    (M : Int) (hmono : ∀ a b, 0 ≤ a → a ≤ b → f a = want → f b = want) : ∀ (n : Nat) (low high : Int) (y9 : Option Sl), 0 ≤ low → low ≤ high → high ≤ M + 1 → high - low < 2 ^ n → (high ≤ M → f high = want) → (∀ a, 0 ≤ a → a < low → f a ≠ want) →
    ∃ (m : Int) (z9 : Option Sl), 0 ≤ m ∧ m ≤ M + 1 ∧ (m ≤ M → f m = want) ∧ (∀ a, 0 ≤ a → a < m → f a ≠ want) ∧
      whileD (asB (Fi.e2 fLt (eVar 7) (eVar 8))) lp_first_amount_0 (n + 1) [some (.val (eT caps)), some (.val (eT lv)), some (.val (eS s)), some (.val (.int k)), some (.val (eT w)), some (.val (.int which)), some (.val (.bool want)), some (.val (.int low)), some (.val (.int high)), y9]
        = some (.next [some (.val (eT caps)), some (.val (eT lv)), some (.val (eS s)), some (.val (.int k)), some (.val (eT w)), some (.val (.int which)), some (.val (.bool want)), some (.val (.int m)), some (.val (.int m)), z9])
  | n, low, high, y9, h0, h1, hM, hn, hg, hb => by
    by_cases hlt : low < high
    · cases n with
      | zero => simp at hn; omega
      | succ n =>
        rw [Int.pow_succ] at hn
        have hm0 : 0 ≤ (low + high) / 2 := by omega
        have hml : low ≤ (low + high) / 2 := by omega
        have hmh : (low + high) / 2 < high := by omega
        have j := judged_ok hc hv hs hl h hm0 hw
        have hat := hf _ hm0
        by_cases e : f ((low + high) / 2) = want
        · obtain ⟨m, z9, q1, q2, q3, q4, q5⟩ := first_loop hc hv hs hl h hw which want f hf M hmono n low ((low + high) / 2) (some (.val (.int ((low + high) / 2)))) h0 hml (by omega) (by omega) (fun _ => e) hb
          refine ⟨m, z9, q1, q2, q3, q4, ?_⟩
          have e' : (f ((low + high) / 2) = want) = True := eq_true e
          simp only [eT, eS] at j q5 ⊢
          generalize s.map eStep = sS at *
          unfold whileD
          simp only [sSeq, sSet, sOwn, sPar, sParL,  sIf, sRet, sRetL, sRetO, sDrop, sAug, sApp, sFrz, frz, sAsg, gSet, gsNil, gsCons, gTupF, Fi.gSub, sFor, iL, iT, iR1, iR2, iZ, iEn, itemsK, eVar, eC, Fi.e2, Fi.e1, asB, eChain, tAndF, tOrF, tNotF, eAnd, eOr, eNot, eIf, aNil, aCons, eTup, lLst, eL, eCall, lCall, eCallF, lCallF, eSlT, lSl, oNone, oSome, ownIx, ownLen, lLc, wipeE, pYes, sNext, fnD, entry, fAdd_int, fSub, fMul_l, fMul_r, fDiv_ok, fMod_ok, fPow_ok, fLt, fLe, fGt, fGe, fEq_int, fEq_str, fEq_bool, fNe_int, fNe_str, fNe_bool, isN, fIs, fIsNot, fIx, fNeg, fLen, fMin, fMax, fTuple, fList, fIntB, fSum, fAll, fAny, at_0, at_1, at_2, eT, eS, eStep, eR, getInts_map, Option.bind_some, Option.map_some, List.getElem?_cons_succ, List.getElem?_cons_zero, List.set_cons_succ, List.set_cons_zero, List.length_cons, List.length_nil, List.length_map, List.map_cons, List.map_nil, List.nil_append, List.cons_append, List.replicate, Nat.zero_add, Nat.reduceAdd, Nat.reduceSub, decide_true, decide_false, reduceIte, Nat.reduceLeDiff, Nat.reduceLT, Int.reduceLT, Int.reduceLE, Int.reduceNeg, Int.reducePow, and_self, or_self, and_true, true_and, or_true, true_or, Bool.not_true, Bool.not_false, pour_spend, spend_pour, lp_first_amount_0, hlt, j, hat, e']
          exact q5
        · obtain ⟨m, z9, q1, q2, q3, q4, q5⟩ := first_loop hc hv hs hl h hw which want f hf M hmono n ((low + high) / 2 + 1) high (some (.val (.int ((low + high) / 2)))) (by omega) (by omega) hM (by omega) hg (fun a a0 a1 q => e (hmono a _ a0 (by omega) q))
          refine ⟨m, z9, q1, q2, q3, q4, ?_⟩
          simp only [eT, eS] at j q5 ⊢
          generalize s.map eStep = sS at *
          unfold whileD
          simp only [sSeq, sSet, sOwn, sPar, sParL,  sIf, sRet, sRetL, sRetO, sDrop, sAug, sApp, sFrz, frz, sAsg, gSet, gsNil, gsCons, gTupF, Fi.gSub, sFor, iL, iT, iR1, iR2, iZ, iEn, itemsK, eVar, eC, Fi.e2, Fi.e1, asB, eChain, tAndF, tOrF, tNotF, eAnd, eOr, eNot, eIf, aNil, aCons, eTup, lLst, eL, eCall, lCall, eCallF, lCallF, eSlT, lSl, oNone, oSome, ownIx, ownLen, lLc, wipeE, pYes, sNext, fnD, entry, fAdd_int, fSub, fMul_l, fMul_r, fDiv_ok, fMod_ok, fPow_ok, fLt, fLe, fGt, fGe, fEq_int, fEq_str, fEq_bool, fNe_int, fNe_str, fNe_bool, isN, fIs, fIsNot, fIx, fNeg, fLen, fMin, fMax, fTuple, fList, fIntB, fSum, fAll, fAny, at_0, at_1, at_2, eT, eS, eStep, eR, getInts_map, Option.bind_some, Option.map_some, List.getElem?_cons_succ, List.getElem?_cons_zero, List.set_cons_succ, List.set_cons_zero, List.length_cons, List.length_nil, List.length_map, List.map_cons, List.map_nil, List.nil_append, List.cons_append, List.replicate, Nat.zero_add, Nat.reduceAdd, Nat.reduceSub, decide_true, decide_false, reduceIte, Nat.reduceLeDiff, Nat.reduceLT, Int.reduceLT, Int.reduceLE, Int.reduceNeg, Int.reducePow, and_self, or_self, and_true, true_and, or_true, true_or, Bool.not_true, Bool.not_false, pour_spend, spend_pour, lp_first_amount_0, hlt, j, hat, e]
          exact q5
    · have e : low = high := by omega
      subst e
      refine ⟨low, y9, h0, hM, hg, hb, ?_⟩
      unfold whileD
      simp only [sSeq, sSet, sOwn, sPar, sParL,  sIf, sRet, sRetL, sRetO, sDrop, sAug, sApp, sFrz, frz, sAsg, gSet, gsNil, gsCons, gTupF, Fi.gSub, sFor, iL, iT, iR1, iR2, iZ, iEn, itemsK, eVar, eC, Fi.e2, Fi.e1, asB, eChain, tAndF, tOrF, tNotF, eAnd, eOr, eNot, eIf, aNil, aCons, eTup, lLst, eL, eCall, lCall, eCallF, lCallF, eSlT, lSl, oNone, oSome, ownIx, ownLen, lLc, wipeE, pYes, sNext, fnD, entry, fAdd_int, fSub, fMul_l, fMul_r, fDiv_ok, fMod_ok, fPow_ok, fLt, fLe, fGt, fGe, fEq_int, fEq_str, fEq_bool, fNe_int, fNe_str, fNe_bool, isN, fIs, fIsNot, fIx, fNeg, fLen, fMin, fMax, fTuple, fList, fIntB, fSum, fAll, fAny, at_0, at_1, at_2, eT, eS, eStep, eR, getInts_map, Option.bind_some, Option.map_some, List.getElem?_cons_succ, List.getElem?_cons_zero, List.set_cons_succ, List.set_cons_zero, List.length_cons, List.length_nil, List.length_map, List.map_cons, List.map_nil, List.nil_append, List.cons_append, List.replicate, Nat.zero_add, Nat.reduceAdd, Nat.reduceSub, decide_true, decide_false, reduceIte, Nat.reduceLeDiff, Nat.reduceLT, Int.reduceLT, Int.reduceLE, Int.reduceNeg, Int.reducePow, and_self, or_self, and_true, true_and, or_true, true_or, Bool.not_true, Bool.not_false, pour_spend, spend_pour, hlt]
def largest (caps : List Int) : Step → Int
  | .pour _ => 1000000000
  | .spend i _ => caps.getD i 0
theorem largest_ok {caps : List Int} {s : List Step} {k : Nat} {t : Step} (h : s[k]? = some t) (hs : ∀ u ∈ s, StOk caps.length u) : F_largest_amount [eT caps, eS s, .int k] = some (.val (.int (largest caps t))) := by
  have hat : atI (s.map eStep) (k : Int) = some (eStep t) := by
    refine atI_nat ?_
    rw [List.getElem?_map, h]
    rfl
  have hst := hs t (List.mem_of_getElem? h)
  refine fn_ret ?_
  unfold b_largest_amount
  cases t with
  | pour x => simp only [sSeq, sSet, sOwn, sPar, sParL,  sIf, sRet, sRetL, sRetO, sDrop, sAug, sApp, sFrz, frz, sAsg, gSet, gsNil, gsCons, gTupF, Fi.gSub, sFor, iL, iT, iR1, iR2, iZ, iEn, itemsK, eVar, eC, Fi.e2, Fi.e1, asB, eChain, tAndF, tOrF, tNotF, eAnd, eOr, eNot, eIf, aNil, aCons, eTup, lLst, eL, eCall, lCall, eCallF, lCallF, eSlT, lSl, oNone, oSome, ownIx, ownLen, lLc, wipeE, pYes, sNext, fnD, entry, fAdd_int, fSub, fMul_l, fMul_r, fDiv_ok, fMod_ok, fPow_ok, fLt, fLe, fGt, fGe, fEq_int, fEq_str, fEq_bool, fNe_int, fNe_str, fNe_bool, isN, fIs, fIsNot, fIx, fNeg, fLen, fMin, fMax, fTuple, fList, fIntB, fSum, fAll, fAny, at_0, at_1, at_2, eT, eS, eStep, eR, getInts_map, Option.bind_some, Option.map_some, List.getElem?_cons_succ, List.getElem?_cons_zero, List.set_cons_succ, List.set_cons_zero, List.length_cons, List.length_nil, List.length_map, List.map_cons, List.map_nil, List.nil_append, List.cons_append, List.replicate, Nat.zero_add, Nat.reduceAdd, Nat.reduceSub, decide_true, decide_false, reduceIte, Nat.reduceLeDiff, Nat.reduceLT, Int.reduceLT, Int.reduceLE, Int.reduceNeg, Int.reducePow, and_self, or_self, and_true, true_and, or_true, true_or, Bool.not_true, Bool.not_false, pour_spend, spend_pour, hat, largest, show (("pour" : Str) = "pour") = True from by simp]
  | spend i x =>
    have hc := at_get hst.1
    simp only [sSeq, sSet, sOwn, sPar, sParL,  sIf, sRet, sRetL, sRetO, sDrop, sAug, sApp, sFrz, frz, sAsg, gSet, gsNil, gsCons, gTupF, Fi.gSub, sFor, iL, iT, iR1, iR2, iZ, iEn, itemsK, eVar, eC, Fi.e2, Fi.e1, asB, eChain, tAndF, tOrF, tNotF, eAnd, eOr, eNot, eIf, aNil, aCons, eTup, lLst, eL, eCall, lCall, eCallF, lCallF, eSlT, lSl, oNone, oSome, ownIx, ownLen, lLc, wipeE, pYes, sNext, fnD, entry, fAdd_int, fSub, fMul_l, fMul_r, fDiv_ok, fMod_ok, fPow_ok, fLt, fLe, fGt, fGe, fEq_int, fEq_str, fEq_bool, fNe_int, fNe_str, fNe_bool, isN, fIs, fIsNot, fIx, fNeg, fLen, fMin, fMax, fTuple, fList, fIntB, fSum, fAll, fAny, at_0, at_1, at_2, eT, eS, eStep, eR, getInts_map, Option.bind_some, Option.map_some, List.getElem?_cons_succ, List.getElem?_cons_zero, List.set_cons_succ, List.set_cons_zero, List.length_cons, List.length_nil, List.length_map, List.map_cons, List.map_nil, List.nil_append, List.cons_append, List.replicate, Nat.zero_add, Nat.reduceAdd, Nat.reduceSub, decide_true, decide_false, reduceIte, Nat.reduceLeDiff, Nat.reduceLT, Int.reduceLT, Int.reduceLE, Int.reduceNeg, Int.reducePow, and_self, or_self, and_true, true_and, or_true, true_or, Bool.not_true, Bool.not_false, pour_spend, spend_pour, hat, largest, hc]
theorem first_ok {caps lv w : List Int} {s : List Step} {k : Nat} {t : Step} (hc : caps.length ≤ 100) (hv : Lv caps lv) (hs : ∀ u ∈ s, StOk caps.length u) (hl : s.length ≤ 1000) (h : s[k]? = some t) (hw : w.length ≤ 100) (which : Nat) (want : Bool) (f : Int → Bool) (hf : ∀ a, 0 ≤ a → atI [PyData.bool (geB caps lv s k w a), .bool (leB caps lv s k w a)] (which : Int) = some (.bool (f a)))
    (hM0 : 0 ≤ largest caps t) (hM1 : largest caps t ≤ 1000000000) (hmono : ∀ a b, 0 ≤ a → a ≤ b → f a = want → f b = want) :
    ∃ m : Int, 0 ≤ m ∧ m ≤ largest caps t + 1 ∧ (m ≤ largest caps t → f m = want) ∧ (∀ a, 0 ≤ a → a < m → f a ≠ want) ∧ F_first_amount [eT caps, eT lv, eS s, .int k, eT w, .int which, .bool want] = some (.val (.int m)) := by
  obtain ⟨m, z9, q1, q2, q3, q4, q5⟩ := first_loop hc hv hs hl h hw which want f hf (largest caps t) hmono 63 0 (largest caps t + 1) none (Int.le_refl _) (by omega) (Int.le_refl _) (by omega) (fun q => by omega) (fun a a0 a1 => by omega)
  have hla := largest_ok h hs
  refine ⟨m, q1, q2, q3, q4, fn_ret ?_⟩
  unfold b_first_amount
  simp only [eT, eS] at hla q5 ⊢
  generalize s.map eStep = sS at hla q5 ⊢
  have q6 : whileD (asB (Fi.e2 fLt (eVar 7) (eVar 8))) lp_first_amount_0 64 [some (.val (.tuple (caps.map .int))), some (.val (.tuple (lv.map .int))), some (.val (.tuple sS)), some (.val (.int k)), some (.val (.tuple (w.map .int))), some (.val (.int which)), some (.val (.bool want)), some (.val (.int 0)), some (.val (.int (largest caps t + 1))), none] = _ := q5
  simp only [sSeq, sSet, sOwn, sPar, sParL,  sIf, sRet, sRetL, sRetO, sDrop, sAug, sApp, sFrz, frz, sAsg, gSet, gsNil, gsCons, gTupF, Fi.gSub, sFor, iL, iT, iR1, iR2, iZ, iEn, itemsK, eVar, eC, Fi.e2, Fi.e1, asB, eChain, tAndF, tOrF, tNotF, eAnd, eOr, eNot, eIf, aNil, aCons, eTup, lLst, eL, eCall, lCall, eCallF, lCallF, eSlT, lSl, oNone, oSome, ownIx, ownLen, lLc, wipeE, pYes, sNext, fnD, entry, fAdd_int, fSub, fMul_l, fMul_r, fDiv_ok, fMod_ok, fPow_ok, fLt, fLe, fGt, fGe, fEq_int, fEq_str, fEq_bool, fNe_int, fNe_str, fNe_bool, isN, fIs, fIsNot, fIx, fNeg, fLen, fMin, fMax, fTuple, fList, fIntB, fSum, fAll, fAny, at_0, at_1, at_2, eT, eS, eStep, eR, getInts_map, Option.bind_some, Option.map_some, List.getElem?_cons_succ, List.getElem?_cons_zero, List.set_cons_succ, List.set_cons_zero, List.length_cons, List.length_nil, List.length_map, List.map_cons, List.map_nil, List.nil_append, List.cons_append, List.replicate, Nat.zero_add, Nat.reduceAdd, Nat.reduceSub, decide_true, decide_false, reduceIte, Nat.reduceLeDiff, Nat.reduceLT, Int.reduceLT, Int.reduceLE, Int.reduceNeg, Int.reducePow, and_self, or_self, and_true, true_and, or_true, true_or, Bool.not_true, Bool.not_false, pour_spend, spend_pour, hla, q6]
/-- what fitting_amounts returns -/
theorem fitting_ok {caps lv w : List Int} {s : List Step} {k : Nat} {t : Step} (hc : caps.length ≤ 100) (hcp : ∀ c ∈ caps, 0 ≤ c ∧ c ≤ 20000) (hv : Lv caps lv) (hs : ∀ u ∈ s, StOk caps.length u) (hl : s.length ≤ 1000) (h : s[k]? = some t) (hw : w.length = caps.length) :
    ∃ low high : Int, 0 ≤ low ∧ high ≤ largest caps t ∧ (∀ a, 0 ≤ a → a ≤ largest caps t → (fitsP caps lv s k w a ↔ low ≤ a ∧ a ≤ high)) ∧ F_fitting_amounts [eT caps, eT lv, eS s, .int k, eT w] = some (.val (if low ≤ high then .tuple [.int low, .int high] else .none)) := by
  have hst := hs t (List.mem_of_getElem? h)
  have hat : atI (s.map eStep) (k : Int) = some (eStep t) := by
    refine atI_nat ?_
    rw [List.getElem?_map, h]
    rfl
  have hfit := fun (a : Int) (ha : 0 ≤ a) => fits_iff hv hs h hw ha
  cases t with
  | pour x =>
    obtain ⟨m1, a1, a2, a3, a4, a5⟩ := first_ok hc hv hs hl h (by omega) 0 true (geB caps lv s k w) (fun a _ => at_0) (by simp [largest]) (by simp [largest]) (fun a b h0 hab q => ge_pour hv hs h hw h0 hab q)
    obtain ⟨m2, b1, b2, b3, b4, b5⟩ := first_ok hc hv hs hl h (by omega) 1 false (leB caps lv s k w) (fun a _ => at_1) (by simp [largest]) (by simp [largest]) (fun a b h0 hab q => le_pour hv hs h hw h0 hab q)
    refine ⟨m1, m2 - 1, a1, by omega, fun a ha hM => ?_, ?_⟩
    · rw [hfit a ha]
      constructor
      · rintro ⟨g1, g2⟩
        refine ⟨Int.not_lt.mp fun q => a4 a ha q g1, ?_⟩
        have : ¬ m2 ≤ a := fun q => by
          have := le_pour hv hs h hw b1 q (b3 (by omega))
          rw [g2] at this
          cases this
        omega
      · rintro ⟨g1, g2⟩
        refine ⟨ge_pour hv hs h hw a1 g1 (a3 (by omega)), ?_⟩
        have := b4 a ha (by omega)
        simpa using this
    · refine fn_ret ?_
      unfold b_fitting_amounts
      have a5 : F_first_amount [eT caps, eT lv, eS s, .int k, eT w, .int (1 - 1), .bool true] = some (.val (.int m1)) := a5
      have b5 : F_first_amount [eT caps, eT lv, eS s, .int k, eT w, .int 1, .bool false] = some (.val (.int m2)) := b5
      simp only [eT, eS, eStep] at a5 b5 hat ⊢
      generalize s.map eStep = sS at *
      by_cases hle : m1 ≤ m2 - 1
      · simp only [sSeq, sSet, sOwn, sPar, sParL,  sIf, sRet, sRetL, sRetO, sDrop, sAug, sApp, sFrz, frz, sAsg, gSet, gsNil, gsCons, gTupF, Fi.gSub, sFor, iL, iT, iR1, iR2, iZ, iEn, itemsK, eVar, eC, Fi.e2, Fi.e1, asB, eChain, tAndF, tOrF, tNotF, eAnd, eOr, eNot, eIf, aNil, aCons, eTup, lLst, eL, eCall, lCall, eCallF, lCallF, eSlT, lSl, oNone, oSome, ownIx, ownLen, lLc, wipeE, pYes, sNext, fnD, entry, fAdd_int, fSub, fMul_l, fMul_r, fDiv_ok, fMod_ok, fPow_ok, fLt, fLe, fGt, fGe, fEq_int, fEq_str, fEq_bool, fNe_int, fNe_str, fNe_bool, isN, fIs, fIsNot, fIx, fNeg, fLen, fMin, fMax, fTuple, fList, fIntB, fSum, fAll, fAny, at_0, at_1, at_2, eT, eS, eStep, eR, getInts_map, Option.bind_some, Option.map_some, List.getElem?_cons_succ, List.getElem?_cons_zero, List.set_cons_succ, List.set_cons_zero, List.length_cons, List.length_nil, List.length_map, List.map_cons, List.map_nil, List.nil_append, List.cons_append, List.replicate, Nat.zero_add, Nat.reduceAdd, Nat.reduceSub, decide_true, decide_false, reduceIte, Nat.reduceLeDiff, Nat.reduceLT, Int.reduceLT, Int.reduceLE, Int.reduceNeg, Int.reducePow, and_self, or_self, and_true, true_and, or_true, true_or, Bool.not_true, Bool.not_false, pour_spend, spend_pour, hat, a5, b5, hle, show (("pour" : Str) = "pour") = True from by simp]
      · simp only [sSeq, sSet, sOwn, sPar, sParL,  sIf, sRet, sRetL, sRetO, sDrop, sAug, sApp, sFrz, frz, sAsg, gSet, gsNil, gsCons, gTupF, Fi.gSub, sFor, iL, iT, iR1, iR2, iZ, iEn, itemsK, eVar, eC, Fi.e2, Fi.e1, asB, eChain, tAndF, tOrF, tNotF, eAnd, eOr, eNot, eIf, aNil, aCons, eTup, lLst, eL, eCall, lCall, eCallF, lCallF, eSlT, lSl, oNone, oSome, ownIx, ownLen, lLc, wipeE, pYes, sNext, fnD, entry, fAdd_int, fSub, fMul_l, fMul_r, fDiv_ok, fMod_ok, fPow_ok, fLt, fLe, fGt, fGe, fEq_int, fEq_str, fEq_bool, fNe_int, fNe_str, fNe_bool, isN, fIs, fIsNot, fIx, fNeg, fLen, fMin, fMax, fTuple, fList, fIntB, fSum, fAll, fAny, at_0, at_1, at_2, eT, eS, eStep, eR, getInts_map, Option.bind_some, Option.map_some, List.getElem?_cons_succ, List.getElem?_cons_zero, List.set_cons_succ, List.set_cons_zero, List.length_cons, List.length_nil, List.length_map, List.map_cons, List.map_nil, List.nil_append, List.cons_append, List.replicate, Nat.zero_add, Nat.reduceAdd, Nat.reduceSub, decide_true, decide_false, reduceIte, Nat.reduceLeDiff, Nat.reduceLT, Int.reduceLT, Int.reduceLE, Int.reduceNeg, Int.reducePow, and_self, or_self, and_true, true_and, or_true, true_or, Bool.not_true, Bool.not_false, pour_spend, spend_pour, hat, a5, b5, hle, show (("pour" : Str) = "pour") = True from by simp]
  | spend i x =>
    have hci := hcp _ (getD_mem hst.1)
    obtain ⟨m1, a1, a2, a3, a4, a5⟩ := first_ok hc hv hs hl h (by omega) 1 true (leB caps lv s k w) (fun a _ => at_1) hci.1 (by have := hci.2; simp only [largest]; omega) (fun a b h0 hab q => le_spend hv hs h hw h0 hab q)
    obtain ⟨m2, b1, b2, b3, b4, b5⟩ := first_ok hc hv hs hl h (by omega) 0 false (geB caps lv s k w) (fun a _ => at_0) hci.1 (by have := hci.2; simp only [largest]; omega) (fun a b h0 hab q => ge_spend hv hs h hw h0 hab q)
    refine ⟨m1, m2 - 1, a1, by omega, fun a ha hM => ?_, ?_⟩
    · rw [hfit a ha]
      constructor
      · rintro ⟨g1, g2⟩
        refine ⟨Int.not_lt.mp fun q => a4 a ha q g2, ?_⟩
        have : ¬ m2 ≤ a := fun q => by
          have := ge_spend hv hs h hw b1 q (b3 (by omega))
          rw [g1] at this
          cases this
        omega
      · rintro ⟨g1, g2⟩
        refine ⟨?_, le_spend hv hs h hw a1 g1 (a3 (by omega))⟩
        have := b4 a ha (by omega)
        simpa using this
    · refine fn_ret ?_
      unfold b_fitting_amounts
      have a5 : F_first_amount [eT caps, eT lv, eS s, .int k, eT w, .int (1 - 0), .bool true] = some (.val (.int m1)) := a5
      have b5 : F_first_amount [eT caps, eT lv, eS s, .int k, eT w, .int 0, .bool false] = some (.val (.int m2)) := b5
      simp only [eT, eS, eStep] at a5 b5 hat ⊢
      generalize s.map eStep = sS at *
      by_cases hle : m1 ≤ m2 - 1
      · simp only [sSeq, sSet, sOwn, sPar, sParL,  sIf, sRet, sRetL, sRetO, sDrop, sAug, sApp, sFrz, frz, sAsg, gSet, gsNil, gsCons, gTupF, Fi.gSub, sFor, iL, iT, iR1, iR2, iZ, iEn, itemsK, eVar, eC, Fi.e2, Fi.e1, asB, eChain, tAndF, tOrF, tNotF, eAnd, eOr, eNot, eIf, aNil, aCons, eTup, lLst, eL, eCall, lCall, eCallF, lCallF, eSlT, lSl, oNone, oSome, ownIx, ownLen, lLc, wipeE, pYes, sNext, fnD, entry, fAdd_int, fSub, fMul_l, fMul_r, fDiv_ok, fMod_ok, fPow_ok, fLt, fLe, fGt, fGe, fEq_int, fEq_str, fEq_bool, fNe_int, fNe_str, fNe_bool, isN, fIs, fIsNot, fIx, fNeg, fLen, fMin, fMax, fTuple, fList, fIntB, fSum, fAll, fAny, at_0, at_1, at_2, eT, eS, eStep, eR, getInts_map, Option.bind_some, Option.map_some, List.getElem?_cons_succ, List.getElem?_cons_zero, List.set_cons_succ, List.set_cons_zero, List.length_cons, List.length_nil, List.length_map, List.map_cons, List.map_nil, List.nil_append, List.cons_append, List.replicate, Nat.zero_add, Nat.reduceAdd, Nat.reduceSub, decide_true, decide_false, reduceIte, Nat.reduceLeDiff, Nat.reduceLT, Int.reduceLT, Int.reduceLE, Int.reduceNeg, Int.reducePow, and_self, or_self, and_true, true_and, or_true, true_or, Bool.not_true, Bool.not_false, pour_spend, spend_pour, hat, a5, b5, hle, Bool.false_eq_true]
      · simp only [sSeq, sSet, sOwn, sPar, sParL,  sIf, sRet, sRetL, sRetO, sDrop, sAug, sApp, sFrz, frz, sAsg, gSet, gsNil, gsCons, gTupF, Fi.gSub, sFor, iL, iT, iR1, iR2, iZ, iEn, itemsK, eVar, eC, Fi.e2, Fi.e1, asB, eChain, tAndF, tOrF, tNotF, eAnd, eOr, eNot, eIf, aNil, aCons, eTup, lLst, eL, eCall, lCall, eCallF, lCallF, eSlT, lSl, oNone, oSome, ownIx, ownLen, lLc, wipeE, pYes, sNext, fnD, entry, fAdd_int, fSub, fMul_l, fMul_r, fDiv_ok, fMod_ok, fPow_ok, fLt, fLe, fGt, fGe, fEq_int, fEq_str, fEq_bool, fNe_int, fNe_str, fNe_bool, isN, fIs, fIsNot, fIx, fNeg, fLen, fMin, fMax, fTuple, fList, fIntB, fSum, fAll, fAny, at_0, at_1, at_2, eT, eS, eStep, eR, getInts_map, Option.bind_some, Option.map_some, List.getElem?_cons_succ, List.getElem?_cons_zero, List.set_cons_succ, List.set_cons_zero, List.length_cons, List.length_nil, List.length_map, List.map_cons, List.map_nil, List.nil_append, List.cons_append, List.replicate, Nat.zero_add, Nat.reduceAdd, Nat.reduceSub, decide_true, decide_false, reduceIte, Nat.reduceLeDiff, Nat.reduceLT, Int.reduceLT, Int.reduceLE, Int.reduceNeg, Int.reducePow, and_self, or_self, and_true, true_and, or_true, true_or, Bool.not_true, Bool.not_false, pour_spend, spend_pour, hat, a5, b5, hle, Bool.false_eq_true]
/-! ### the law's checks -/
def fitB (caps lv : List Int) (u : List Step) (w : List Int) : Bool := match runM caps lv u with
  | none => false
  | some p => decide (p.1 = w)
theorem fitB_iff {caps lv w : List Int} {s : List Step} {k : Nat} {a : Int} : fitB caps lv (withA s k a) w = true ↔ fitsP caps lv s k w a := by
  unfold fitB fitsP
  cases runM caps lv (withA s k a) with
  | none => simp
  | some p => simp
theorem lfits_ok {caps lv w : List Int} {u : List Step} (hc : caps.length ≤ 100) (hl : caps.length = lv.length) (hu : ∀ t ∈ u, StOk caps.length t) : F__law_fits [eT caps, eT lv, eS u, eT w] = some (.val (.bool (fitB caps lv u w))) := by
  have r := lrun_ok hc hl hu
  refine fn_ret ?_
  unfold b__law_fits fitB
  cases e : runM caps lv u with
  | none =>
    rw [e] at r
    simp only [eT, eS] at r ⊢
    simp only [sSeq, sSet, sOwn, sPar, sParL,  sIf, sRet, sRetL, sRetO, sDrop, sAug, sApp, sFrz, frz, sAsg, gSet, gsNil, gsCons, gTupF, Fi.gSub, sFor, iL, iT, iR1, iR2, iZ, iEn, itemsK, eVar, eC, Fi.e2, Fi.e1, asB, eChain, tAndF, tOrF, tNotF, eAnd, eOr, eNot, eIf, aNil, aCons, eTup, lLst, eL, eCall, lCall, eCallF, lCallF, eSlT, lSl, oNone, oSome, ownIx, ownLen, lLc, wipeE, pYes, sNext, fnD, entry, fAdd_int, fSub, fMul_l, fMul_r, fDiv_ok, fMod_ok, fPow_ok, fLt, fLe, fGt, fGe, fEq_int, fEq_str, fEq_bool, fNe_int, fNe_str, fNe_bool, isN, fIs, fIsNot, fIx, fNeg, fLen, fMin, fMax, fTuple, fList, fIntB, fSum, fAll, fAny, at_0, at_1, at_2, eT, eS, eStep, eR, getInts_map, Option.bind_some, Option.map_some, List.getElem?_cons_succ, List.getElem?_cons_zero, List.set_cons_succ, List.set_cons_zero, List.length_cons, List.length_nil, List.length_map, List.map_cons, List.map_nil, List.nil_append, List.cons_append, List.replicate, Nat.zero_add, Nat.reduceAdd, Nat.reduceSub, decide_true, decide_false, reduceIte, Nat.reduceLeDiff, Nat.reduceLT, Int.reduceLT, Int.reduceLE, Int.reduceNeg, Int.reducePow, and_self, or_self, and_true, true_and, or_true, true_or, Bool.not_true, Bool.not_false, pour_spend, spend_pour, r]
  | some p =>
    rw [e] at r
    have q := fEq_tup p.1 w
    simp only [eT, eS] at r ⊢
    simp only [sSeq, sSet, sOwn, sPar, sParL,  sIf, sRet, sRetL, sRetO, sDrop, sAug, sApp, sFrz, frz, sAsg, gSet, gsNil, gsCons, gTupF, Fi.gSub, sFor, iL, iT, iR1, iR2, iZ, iEn, itemsK, eVar, eC, Fi.e2, Fi.e1, asB, eChain, tAndF, tOrF, tNotF, eAnd, eOr, eNot, eIf, aNil, aCons, eTup, lLst, eL, eCall, lCall, eCallF, lCallF, eSlT, lSl, oNone, oSome, ownIx, ownLen, lLc, wipeE, pYes, sNext, fnD, entry, fAdd_int, fSub, fMul_l, fMul_r, fDiv_ok, fMod_ok, fPow_ok, fLt, fLe, fGt, fGe, fEq_int, fEq_str, fEq_bool, fNe_int, fNe_str, fNe_bool, isN, fIs, fIsNot, fIx, fNeg, fLen, fMin, fMax, fTuple, fList, fIntB, fSum, fAll, fAny, at_0, at_1, at_2, eT, eS, eStep, eR, getInts_map, Option.bind_some, Option.map_some, List.getElem?_cons_succ, List.getElem?_cons_zero, List.set_cons_succ, List.set_cons_zero, List.length_cons, List.length_nil, List.length_map, List.map_cons, List.map_nil, List.nil_append, List.cons_append, List.replicate, Nat.zero_add, Nat.reduceAdd, Nat.reduceSub, decide_true, decide_false, reduceIte, Nat.reduceLeDiff, Nat.reduceLT, Int.reduceLT, Int.reduceLE, Int.reduceNeg, Int.reducePow, and_self, or_self, and_true, true_and, or_true, true_or, Bool.not_true, Bool.not_false, pour_spend, spend_pour, r, q]
theorem spend_big {caps lv w : List Int} {s : List Step} {k i : Nat} {x a : Int} (hv : Lv caps lv) (hs : ∀ u ∈ s, StOk caps.length u) (h : s[k]? = some (.spend i x)) (ha : caps.getD i 0 < a) : ¬ fitsP caps lv s k w a := by
  rintro ⟨p, e, _⟩
  rw [split_run h] at e
  obtain ⟨m, hm, e⟩ := Option_bind_some e
  have hv2 := (hv.run (fun u hu => hs u (List.mem_of_mem_take hu)) hm).1
  have hi := (hs _ (List.mem_of_getElem? h)).1
  have := (hv2.get (i := i) (by rw [← hv2.len]; exact hi)).2
  simp only [amt, runA, stepM] at e
  rw [if_pos (by omega)] at e
  cases e
theorem Lv.sumsN : ∀ {cs l : List Int}, Lv cs l → 0 ≤ l.sum ∧ l.sum ≤ cs.sum
  | [], [], _ => by simp
  | c :: cs, x :: l, h => by
    have := h.2.2.sumsN
    have h1 := h.1
    have h2 := h.2.1
    rw [List.sum_cons, List.sum_cons]
    omega
  | [], _ :: _, h => h.elim
  | _ :: _, [], h => h.elim
theorem pour_fill : ∀ {cs l : List Int} {a : Int}, Lv cs l → cs.sum - l.sum ≤ a → (pourM cs l a).1 = cs
  | [], [], _, _, _ => rfl
  | c :: cs, x :: l, a, h, ha => by
    obtain ⟨h1, h2, h3⟩ := h
    have := h3.sumsN
    rw [List.sum_cons, List.sum_cons] at ha
    have em : min a (c - x) = c - x := by omega
    simp only [pourM, em, pour_fill (a := a - (c - x)) h3 (by omega)]
    rw [show x + (c - x) = c by omega]
  | [], _ :: _, _, h, _ => h.elim
  | _ :: _, [], _, h, _ => h.elim
theorem pour_big {caps lv w : List Int} {s : List Step} {k : Nat} {x a : Int} (hv : Lv caps lv) (hs : ∀ u ∈ s, StOk caps.length u) (h : s[k]? = some (.pour x)) (ha : caps.sum ≤ a) (f : fitsP caps lv s k w a) : fitsP caps lv s k w caps.sum := by
  obtain ⟨p, e, hp⟩ := f
  rw [split_run h] at e
  obtain ⟨m, hm, e⟩ := Option_bind_some e
  have hv2 := (hv.run (fun u hu => hs u (List.mem_of_mem_take hu)) hm).1
  have hsm := hv2.sumsN
  simp only [amt, runA, stepM] at e
  rw [pour_fill hv2 (by omega)] at e
  have e2 : ((runA caps caps (m.2 + (pourM caps m.1 caps.sum).2) (s.drop (k + 1))).map Prod.fst) = some p.1 := by
    rw [runA_levels (y := m.2 + (pourM caps m.1 a).2), e]
    rfl
  obtain ⟨q, hq, hq2⟩ := Option.map_eq_some_iff.mp e2
  refine ⟨q, ?_, hq2.trans hp⟩
  rw [split_run h, hm]
  show runA caps m.1 m.2 (.pour caps.sum :: s.drop (k + 1)) = some q
  simp only [runA, stepM]
  rw [pour_fill hv2 (by omega)]
  exact hq
def amtsL (s : List Step) : List Int := s.map amtOf
theorem last1 {x y : PyData} : atI [x, y] (-1) = some y := rfl
theorem last2 {x y z : PyData} : atI [x, y, z] (-1) = some z := rfl
theorem amts_lc {env : En} (h : 12 < env.length) : ∀ l : List Step, lcD (gSet 12) pYes (Fi.e2 fIx (eVar 12) (Fi.e1 fNeg (eC (.int 1)))) env (l.map eStep) = some ((amtsL l).map .int)
  | [] => rfl
  | t :: l => by
    have ih := amts_lc h l
    have hg : ∀ x : Option Sl, (env.set 12 x)[12]? = some x := fun x => List.getElem?_set_self h
    unfold amtsL at ih ⊢
    rw [List.map_cons, List.map_cons, List.map_cons]
    cases t with
    | pour a => simp only [sSeq, sSet, sOwn, sPar, sParL,  sIf, sRet, sRetL, sRetO, sDrop, sAug, sApp, sFrz, frz, sAsg, gSet, gsNil, gsCons, gTupF, Fi.gSub, sFor, iL, iT, iR1, iR2, iZ, iEn, itemsK, eVar, eC, Fi.e2, Fi.e1, asB, eChain, tAndF, tOrF, tNotF, eAnd, eOr, eNot, eIf, aNil, aCons, eTup, lLst, eL, eCall, lCall, eCallF, lCallF, eSlT, lSl, oNone, oSome, ownIx, ownLen, lLc, wipeE, pYes, sNext, fnD, entry, fAdd_int, fSub, fMul_l, fMul_r, fDiv_ok, fMod_ok, fPow_ok, fLt, fLe, fGt, fGe, fEq_int, fEq_str, fEq_bool, fNe_int, fNe_str, fNe_bool, isN, fIs, fIsNot, fIx, fNeg, fLen, fMin, fMax, fTuple, fList, fIntB, fSum, fAll, fAny, at_0, at_1, at_2, eT, eS, eStep, eR, getInts_map, Option.bind_some, Option.map_some, List.getElem?_cons_succ, List.getElem?_cons_zero, List.set_cons_succ, List.set_cons_zero, List.length_cons, List.length_nil, List.length_map, List.map_cons, List.map_nil, List.nil_append, List.cons_append, List.replicate, Nat.zero_add, Nat.reduceAdd, Nat.reduceSub, decide_true, decide_false, reduceIte, Nat.reduceLeDiff, Nat.reduceLT, Int.reduceLT, Int.reduceLE, Int.reduceNeg, Int.reducePow, and_self, or_self, and_true, true_and, or_true, true_or, Bool.not_true, Bool.not_false, pour_spend, spend_pour, lcD, hg, ih, last1, amtOf]
    | spend i a => simp only [sSeq, sSet, sOwn, sPar, sParL,  sIf, sRet, sRetL, sRetO, sDrop, sAug, sApp, sFrz, frz, sAsg, gSet, gsNil, gsCons, gTupF, Fi.gSub, sFor, iL, iT, iR1, iR2, iZ, iEn, itemsK, eVar, eC, Fi.e2, Fi.e1, asB, eChain, tAndF, tOrF, tNotF, eAnd, eOr, eNot, eIf, aNil, aCons, eTup, lLst, eL, eCall, lCall, eCallF, lCallF, eSlT, lSl, oNone, oSome, ownIx, ownLen, lLc, wipeE, pYes, sNext, fnD, entry, fAdd_int, fSub, fMul_l, fMul_r, fDiv_ok, fMod_ok, fPow_ok, fLt, fLe, fGt, fGe, fEq_int, fEq_str, fEq_bool, fNe_int, fNe_str, fNe_bool, isN, fIs, fIsNot, fIx, fNeg, fLen, fMin, fMax, fTuple, fList, fIntB, fSum, fAll, fAny, at_0, at_1, at_2, eT, eS, eStep, eR, getInts_map, Option.bind_some, Option.map_some, List.getElem?_cons_succ, List.getElem?_cons_zero, List.set_cons_succ, List.set_cons_zero, List.length_cons, List.length_nil, List.length_map, List.map_cons, List.map_nil, List.nil_append, List.cons_append, List.replicate, Nat.zero_add, Nat.reduceAdd, Nat.reduceSub, decide_true, decide_false, reduceIte, Nat.reduceLeDiff, Nat.reduceLT, Int.reduceLT, Int.reduceLE, Int.reduceNeg, Int.reducePow, and_self, or_self, and_true, true_and, or_true, true_or, Bool.not_true, Bool.not_false, pour_spend, spend_pour, lcD, hg, ih, last2, amtOf]
theorem filter_least {p : Nat → Bool} {n m : Nat} (hm : m < n) (h1 : p m = true) (h2 : ∀ k, k < m → p k = false) : ∃ r, (List.range n).filter p = m :: r := by
  have e : List.range n = List.range m ++ (List.range n).drop m := by
    have := List.take_append_drop m (List.range n)
    rw [List.take_range, Nat.min_eq_left (Nat.le_of_lt hm)] at this
    exact this.symm
  rw [e, List.filter_append, List.drop_eq_getElem_cons (by rw [List.length_range]; exact hm), List.getElem_range, List.filter_cons, if_pos h1]
  have : (List.range m).filter p = [] := List.filter_eq_nil_iff.mpr fun k hk => by
    rw [h2 k (List.mem_range.mp hk)]
    exact Bool.false_ne_true
  rw [this]
  exact ⟨_, rfl⟩
theorem shaped_nats (l : List Nat) : SeqAt.shaped (.list (l.map fun (i : Nat) => PyData.int (i : Int))) = true := by
  have e : (l.map fun (i : Nat) => PyData.int (i : Int)) = (l.map fun (i : Nat) => (i : Int)).map .int := by rw [List.map_map]; rfl
  rw [e]
  have h := depth_ints (l.map fun (i : Nat) => (i : Int))
  have h2 := canLay_ints (l.map fun (i : Nat) => (i : Int))
  simp only [SeqAt.shaped, PyData.canLay0, h2, PyData.depth, Bool.true_and]
  exact decide_eq_true (by omega)
theorem good_loop {caps lv w : List Int} {s : List Step} {k : Nat} {t : Step} (hc : caps.length ≤ 100) (hv : Lv caps lv) (hs : ∀ u ∈ s, StOk caps.length u) (hl : s.length ≤ 1000) (h : s[k]? = some t) (x5 x6 x8 x10 x11 x12 : Option Sl) : ∀ (l acc : List Nat) (y7 : Option Sl), acc.length + l.length ≤ 100000 → ∃ z7,
    forD (gSet 7) lp__law_right_1 (l.map fun (i : Nat) => PyData.int (i : Int)) [some (.val (eT caps)), some (.val (eT lv)), some (.val (eS s)), some (.val (.int k)), some (.val (eT w)), x5, x6, y7, x8, some (.own (acc.map fun (i : Nat) => PyData.int (i : Int))), x10, x11, x12]
      = some (.next [some (.val (eT caps)), some (.val (eT lv)), some (.val (eS s)), some (.val (.int k)), some (.val (eT w)), x5, x6, z7, x8, some (.own ((acc ++ l.filter fun (a : Nat) => fitB caps lv (withA s k (a : Int)) w).map fun (i : Nat) => PyData.int (i : Int))), x10, x11, x12])
  | [], acc, y7, _ => ⟨y7, by simp [forD]⟩
  | a :: l, acc, y7, hn => by
    have r1 := lwith_ok (a := (a : Int)) h hl
    have r2 := lfits_ok (w := w) hc hv.len (withA_ok (a := (a : Int)) h hs (Int.natCast_nonneg a))
    have hal : acc.length < 100000 := by simp at hn; omega
    rw [List.map_cons, List.filter_cons]
    by_cases e : fitB caps lv (withA s k (a : Int)) w = true
    · obtain ⟨z7, ih⟩ := good_loop (w := w) hc hv hs hl h x5 x6 x8 x10 x11 x12 l (acc ++ [a]) (some (.val (.int (a : Int)))) (by simp at hn ⊢; omega)
      refine ⟨z7, forD_step (e1 := [some (.val (eT caps)), some (.val (eT lv)), some (.val (eS s)), some (.val (.int k)), some (.val (eT w)), x5, x6, some (.val (.int (a : Int))), x8, some (.own (acc.map fun (i : Nat) => PyData.int (i : Int))), x10, x11, x12]) (e2 := [some (.val (eT caps)), some (.val (eT lv)), some (.val (eS s)), some (.val (.int k)), some (.val (eT w)), x5, x6, some (.val (.int (a : Int))), x8, some (.own ((acc ++ [a]).map fun (i : Nat) => PyData.int (i : Int))), x10, x11, x12]) rfl ?_ ?_⟩
      · rw [e] at r2
        rw [List.map_append]
        simp only [eT, eS] at r1 r2 ⊢
        generalize (withA s k (a : Int)).map eStep = W at r1 r2
        generalize s.map eStep = sS at r1 ⊢
        simp only [sSeq, sSet, sOwn, sPar, sParL,  sIf, sRet, sRetL, sRetO, sDrop, sAug, sApp, sFrz, frz, sAsg, gSet, gsNil, gsCons, gTupF, Fi.gSub, sFor, iL, iT, iR1, iR2, iZ, iEn, itemsK, eVar, eC, Fi.e2, Fi.e1, asB, eChain, tAndF, tOrF, tNotF, eAnd, eOr, eNot, eIf, aNil, aCons, eTup, lLst, eL, eCall, lCall, eCallF, lCallF, eSlT, lSl, oNone, oSome, ownIx, ownLen, lLc, wipeE, pYes, sNext, fnD, entry, fAdd_int, fSub, fMul_l, fMul_r, fDiv_ok, fMod_ok, fPow_ok, fLt, fLe, fGt, fGe, fEq_int, fEq_str, fEq_bool, fNe_int, fNe_str, fNe_bool, isN, fIs, fIsNot, fIx, fNeg, fLen, fMin, fMax, fTuple, fList, fIntB, fSum, fAll, fAny, at_0, at_1, at_2, eT, eS, eStep, eR, getInts_map, Option.bind_some, Option.map_some, List.getElem?_cons_succ, List.getElem?_cons_zero, List.set_cons_succ, List.set_cons_zero, List.length_cons, List.length_nil, List.length_map, List.map_cons, List.map_nil, List.nil_append, List.cons_append, List.replicate, Nat.zero_add, Nat.reduceAdd, Nat.reduceSub, decide_true, decide_false, reduceIte, Nat.reduceLeDiff, Nat.reduceLT, Int.reduceLT, Int.reduceLE, Int.reduceNeg, Int.reducePow, and_self, or_self, and_true, true_and, or_true, true_or, Bool.not_true, Bool.not_false, pour_spend, spend_pour, lp__law_right_1, r1, r2, hal]
      · rw [ih, if_pos e, List.append_assoc]
        rfl
    · obtain ⟨z7, ih⟩ := good_loop (w := w) hc hv hs hl h x5 x6 x8 x10 x11 x12 l acc (some (.val (.int (a : Int)))) (by simp at hn ⊢; omega)
      refine ⟨z7, forD_step (e1 := [some (.val (eT caps)), some (.val (eT lv)), some (.val (eS s)), some (.val (.int k)), some (.val (eT w)), x5, x6, some (.val (.int (a : Int))), x8, some (.own (acc.map fun (i : Nat) => PyData.int (i : Int))), x10, x11, x12]) (e2 := [some (.val (eT caps)), some (.val (eT lv)), some (.val (eS s)), some (.val (.int k)), some (.val (eT w)), x5, x6, some (.val (.int (a : Int))), x8, some (.own (acc.map fun (i : Nat) => PyData.int (i : Int))), x10, x11, x12]) rfl ?_ ?_⟩
      · rw [Bool.not_eq_true] at e
        rw [e] at r2
        simp only [eT, eS] at r1 r2 ⊢
        generalize (withA s k (a : Int)).map eStep = W at r1 r2
        generalize s.map eStep = sS at r1 ⊢
        simp only [sSeq, sSet, sOwn, sPar, sParL,  sIf, sRet, sRetL, sRetO, sDrop, sAug, sApp, sFrz, frz, sAsg, gSet, gsNil, gsCons, gTupF, Fi.gSub, sFor, iL, iT, iR1, iR2, iZ, iEn, itemsK, eVar, eC, Fi.e2, Fi.e1, asB, eChain, tAndF, tOrF, tNotF, eAnd, eOr, eNot, eIf, aNil, aCons, eTup, lLst, eL, eCall, lCall, eCallF, lCallF, eSlT, lSl, oNone, oSome, ownIx, ownLen, lLc, wipeE, pYes, sNext, fnD, entry, fAdd_int, fSub, fMul_l, fMul_r, fDiv_ok, fMod_ok, fPow_ok, fLt, fLe, fGt, fGe, fEq_int, fEq_str, fEq_bool, fNe_int, fNe_str, fNe_bool, isN, fIs, fIsNot, fIx, fNeg, fLen, fMin, fMax, fTuple, fList, fIntB, fSum, fAll, fAny, at_0, at_1, at_2, eT, eS, eStep, eR, getInts_map, Option.bind_some, Option.map_some, List.getElem?_cons_succ, List.getElem?_cons_zero, List.set_cons_succ, List.set_cons_zero, List.length_cons, List.length_nil, List.length_map, List.map_cons, List.map_nil, List.nil_append, List.cons_append, List.replicate, Nat.zero_add, Nat.reduceAdd, Nat.reduceSub, decide_true, decide_false, reduceIte, Nat.reduceLeDiff, Nat.reduceLT, Int.reduceLT, Int.reduceLE, Int.reduceNeg, Int.reducePow, and_self, or_self, and_true, true_and, or_true, true_or, Bool.not_true, Bool.not_false, pour_spend, spend_pour, lp__law_right_1, r1, r2, hal]
      · rw [ih, if_neg e]
theorem near_lc {caps lv w : List Int} {s : List Step} {k : Nat} {t : Step} (hc : caps.length ≤ 100) (hv : Lv caps lv) (hs : ∀ u ∈ s, StOk caps.length u) (hl : s.length ≤ 1000) (h : s[k]? = some t) (x5 x6 x8 x9 x10 x11 x12 : Option Sl) : ∀ l : List Int, (∀ a ∈ l, 0 ≤ a ∧ fitB caps lv (withA s k a) w = false) →
    lcD (gSet 7) (asB (eCallF F__law_fits (aCons (eVar 0) (aCons (eVar 1) (aCons (eCallF F__law_with (aCons (eVar 2) (aCons (eVar 3) (aCons (eVar 7) aNil)))) (aCons (eVar 4) aNil)))))) (eC (.int 1)) [some (.val (eT caps)), some (.val (eT lv)), some (.val (eS s)), some (.val (.int k)), some (.val (eT w)), x5, x6, none, x8, x9, x10, x11, x12] (l.map .int) = some []
  | [], _ => rfl
  | a :: l, hn => by
    have ih := near_lc hc hv hs hl h x5 x6 x8 x9 x10 x11 x12 l fun b hb => hn b (by simp [hb])
    have h1 := hn a (by simp)
    have r1 := lwith_ok (a := a) h hl
    have r2 := lfits_ok (w := w) hc hv.len (withA_ok (a := a) h hs h1.1)
    rw [h1.2] at r2
    rw [List.map_cons]
    simp only [eT, eS] at r1 r2 ih ⊢
    generalize (withA s k a).map eStep = W at r1 r2
    generalize s.map eStep = sS at r1 ih ⊢
    simp only [sSeq, sSet, sOwn, sPar, sParL,  sIf, sRet, sRetL, sRetO, sDrop, sAug, sApp, sFrz, frz, sAsg, gSet, gsNil, gsCons, gTupF, Fi.gSub, sFor, iL, iT, iR1, iR2, iZ, iEn, itemsK, eVar, eC, Fi.e2, Fi.e1, asB, eChain, tAndF, tOrF, tNotF, eAnd, eOr, eNot, eIf, aNil, aCons, eTup, lLst, eL, eCall, lCall, eCallF, lCallF, eSlT, lSl, oNone, oSome, ownIx, ownLen, lLc, wipeE, pYes, sNext, fnD, entry, fAdd_int, fSub, fMul_l, fMul_r, fDiv_ok, fMod_ok, fPow_ok, fLt, fLe, fGt, fGe, fEq_int, fEq_str, fEq_bool, fNe_int, fNe_str, fNe_bool, isN, fIs, fIsNot, fIx, fNeg, fLen, fMin, fMax, fTuple, fList, fIntB, fSum, fAll, fAny, at_0, at_1, at_2, eT, eS, eStep, eR, getInts_map, Option.bind_some, Option.map_some, List.getElem?_cons_succ, List.getElem?_cons_zero, List.set_cons_succ, List.set_cons_zero, List.length_cons, List.length_nil, List.length_map, List.map_cons, List.map_nil, List.nil_append, List.cons_append, List.replicate, Nat.zero_add, Nat.reduceAdd, Nat.reduceSub, decide_true, decide_false, reduceIte, Nat.reduceLeDiff, Nat.reduceLT, Int.reduceLT, Int.reduceLE, Int.reduceNeg, Int.reducePow, and_self, or_self, and_true, true_and, or_true, true_or, Bool.not_true, Bool.not_false, pour_spend, spend_pour, lcD, r1, r2, ih]
theorem fit_body {caps lv w : List Int} {s : List Step} {k : Nat} {t : Step} {a : Int} (hc : caps.length ≤ 100) (hv : Lv caps lv) (hs : ∀ u ∈ s, StOk caps.length u) (hl : s.length ≤ 1000) (h : s[k]? = some t) (ha : 0 ≤ a) (hf : fitB caps lv (withA s k a) w = true) (x5 x6 x8 x9 x10 x11 x12 : Option Sl) :
    lp__law_right_0 [some (.val (eT caps)), some (.val (eT lv)), some (.val (eS s)), some (.val (.int k)), some (.val (eT w)), x5, x6, some (.val (.int a)), x8, x9, x10, x11, x12] = some (.next [some (.val (eT caps)), some (.val (eT lv)), some (.val (eS s)), some (.val (.int k)), some (.val (eT w)), x5, x6, some (.val (.int a)), x8, x9, x10, x11, x12]) := by
  have r1 := lwith_ok (a := a) h hl
  have r2 := lfits_ok (w := w) hc hv.len (withA_ok (a := a) h hs ha)
  rw [hf] at r2
  simp only [eT, eS] at r1 r2 ⊢
  generalize (withA s k a).map eStep = W at r1 r2
  generalize s.map eStep = sS at r1 ⊢
  simp only [sSeq, sSet, sOwn, sPar, sParL,  sIf, sRet, sRetL, sRetO, sDrop, sAug, sApp, sFrz, frz, sAsg, gSet, gsNil, gsCons, gTupF, Fi.gSub, sFor, iL, iT, iR1, iR2, iZ, iEn, itemsK, eVar, eC, Fi.e2, Fi.e1, asB, eChain, tAndF, tOrF, tNotF, eAnd, eOr, eNot, eIf, aNil, aCons, eTup, lLst, eL, eCall, lCall, eCallF, lCallF, eSlT, lSl, oNone, oSome, ownIx, ownLen, lLc, wipeE, pYes, sNext, fnD, entry, fAdd_int, fSub, fMul_l, fMul_r, fDiv_ok, fMod_ok, fPow_ok, fLt, fLe, fGt, fGe, fEq_int, fEq_str, fEq_bool, fNe_int, fNe_str, fNe_bool, isN, fIs, fIsNot, fIx, fNeg, fLen, fMin, fMax, fTuple, fList, fIntB, fSum, fAll, fAny, at_0, at_1, at_2, eT, eS, eStep, eR, getInts_map, Option.bind_some, Option.map_some, List.getElem?_cons_succ, List.getElem?_cons_zero, List.set_cons_succ, List.set_cons_zero, List.length_cons, List.length_nil, List.length_map, List.map_cons, List.map_nil, List.nil_append, List.cons_append, List.replicate, Nat.zero_add, Nat.reduceAdd, Nat.reduceSub, decide_true, decide_false, reduceIte, Nat.reduceLeDiff, Nat.reduceLT, Int.reduceLT, Int.reduceLE, Int.reduceNeg, Int.reducePow, and_self, or_self, and_true, true_and, or_true, true_or, Bool.not_true, Bool.not_false, pour_spend, spend_pour, lp__law_right_0, r1, r2]
end Lw

namespace Lw
open PySem L2 Fi
def rp1 : FS := (sIf (asB (Fi.e2 fIsNot (eVar 6) (eC .none))) (sSeq (sAsg (eVar 6) (gTupF 2 (gsCons (gSet 10) (gsCons (gSet 11) gsNil))))
    (sSeq (sFor (iT (eTup (aCons (eVar 10) (aCons (eVar 11) (aCons (Fi.e2 fDiv (Fi.e2 fAdd (eVar 10) (eVar 11)) (eC (.int 2))) aNil))))) (gSet 7) lp__law_right_0)
    (sSeq (sSet 8 (eL (lCat (eL (lRep (lLst (aCons (Fi.e2 fSub (eVar 10) (eC (.int 1))) aNil)) (eCall fIntB (aCons (Fi.e2 fGt (eVar 10) (eC (.int 0))) aNil)))) (eL (lRep (lLst (aCons (Fi.e2 fAdd (eVar 11) (eC (.int 1))) aNil)) (eCall fIntB (aCons (Fi.e2 fLt (eVar 11) (Fi.e2 fPow (eC (.int 10)) (eC (.int 9)))) aNil)))))))
    (sIf (asB (Fi.e2 fNe (eL (lLc (iL (eVar 8)) (gSet 7) (asB (eCallF F__law_fits (aCons (eVar 0) (aCons (eVar 1) (aCons (eCallF F__law_with (aCons (eVar 2) (aCons (eVar 3) (aCons (eVar 7) aNil)))) (aCons (eVar 4) aNil)))))) (eC (.int 1)) [7])) (eL (lLst aNil)))) (sRet (eC (.bool false))) sNext)))) sNext)
def rp2 : FS := (sIf (asB (eVar 5)) (sSeq (sOwn 9 (lLst aNil))
    (sSeq (sFor (iR1 (aCons (Fi.e2 fAdd (Fi.e2 fAdd (eCall fSum (aCons (eVar 0) aNil)) (eCall fSum (aCons (eL (lLc (iT (eVar 2)) (gSet 12) pYes (Fi.e2 fIx (eVar 12) (Fi.e1 fNeg (eC (.int 1)))) [12])) aNil))) (eC (.int 2))) aNil)) (gSet 7) lp__law_right_1)
    (sFrz 9 (sIf (tOrF (asB (Fi.e2 fNe (Fi.e2 fIs (eVar 6) (eC .none)) (Fi.e2 fEq (eVar 9) (eL (lLst aNil))))) (tAndF (asB (Fi.e2 fNe (eVar 9) (eL (lLst aNil)))) (asB (Fi.e2 fNe (Fi.e2 fIx (eVar 6) (eC (.int 0))) (Fi.e2 fIx (eVar 9) (eC (.int 0))))))) (sRet (eC (.bool false))) sNext)))) sNext)
def rp3 : FS := (sSeq (sIf (asB (eCallF F__law_fits (aCons (eVar 0) (aCons (eVar 1) (aCons (eVar 2) (aCons (eVar 4) aNil)))))) (sRet (eAnd (Fi.e2 fIsNot (eVar 6) (eC .none)) (eChain fLe fLe (Fi.e2 fIx (eVar 6) (eC (.int 0))) (Fi.e2 fIx (Fi.e2 fIx (eVar 2) (eVar 3)) (Fi.e1 fNeg (eC (.int 1)))) (Fi.e2 fIx (eVar 6) (eC (.int 1)))))) sNext)
    (sRet (eC (.bool true))))
theorem right_cut : b__law_right = (sSeq (sSet 6 (eCallF F_fitting_amounts (aCons (eVar 0) (aCons (eVar 1) (aCons (eCallF F__law_with (aCons (eVar 2) (aCons (eVar 3) (aCons (eC (.int 7)) aNil)))) (aCons (eVar 3) (aCons (eVar 4) aNil))))))) (sSeq rp1 (sSeq rp2 rp3))) := rfl
def foundD (low high : Int) : PyData := if low ≤ high then .tuple [.int low, .int high] else .none
theorem ten9 : fPow (.int 10) (.int 9) = some (.int 1000000000) := rfl
/-! the found ends fit, their neighbours do not -/
theorem rp1_ok {caps lv w : List Int} {s : List Step} {k : Nat} {t : Step} (hc : caps.length ≤ 100) (hv : Lv caps lv) (hs : ∀ u ∈ s, StOk caps.length u) (hl : s.length ≤ 1000) (h : s[k]? = some t) {low high : Int} (h0 : 0 ≤ low) (hin : ∀ a, low ≤ a → a ≤ high → fitB caps lv (withA s k a) w = true) (hlo : 0 < low → low ≤ high → fitB caps lv (withA s k (low - 1)) w = false) (hhi : high < 1000000000 → low ≤ high → fitB caps lv (withA s k (high + 1)) w = false) (x5 x9 : Option Sl) : ∃ y7 y8 y10 y11,
    rp1 [some (.val (eT caps)), some (.val (eT lv)), some (.val (eS s)), some (.val (.int k)), some (.val (eT w)), x5, some (.val (foundD low high)), none, none, x9, none, none, none]
      = some (.next [some (.val (eT caps)), some (.val (eT lv)), some (.val (eS s)), some (.val (.int k)), some (.val (eT w)), x5, some (.val (foundD low high)), y7, y8, x9, y10, y11, none]) := by
  unfold foundD
  by_cases hlh : low ≤ high
  · rw [if_pos hlh]
    have hmid : low ≤ (low + high) / 2 ∧ (low + high) / 2 ≤ high := by omega
    have fb := fun (a : Int) (p : low ≤ a) (q : a ≤ high) => fit_body (a := a) hc hv hs hl h (by omega) (hin a p q) x5 (some (.val (.tuple [.int low, .int high]))) none x9 (some (.val (.int low))) (some (.val (.int high))) none
    have fl : forD (gSet 7) lp__law_right_0 [.int low, .int high, .int ((low + high) / 2)] [some (.val (eT caps)), some (.val (eT lv)), some (.val (eS s)), some (.val (.int k)), some (.val (eT w)), x5, some (.val (.tuple [.int low, .int high])), none, none, x9, some (.val (.int low)), some (.val (.int high)), none] = _ :=
      forD_step rfl (fb low (Int.le_refl _) hlh) (forD_step rfl (fb high hlh (Int.le_refl _)) (forD_step rfl (fb _ hmid.1 hmid.2) rfl))
    have n0 : fNe (.list []) (.list []) = some (.bool false) := fNe_self rfl
    have nl := fun (l : List Int) (q : ∀ a ∈ l, 0 ≤ a ∧ fitB caps lv (withA s k a) w = false) => near_lc hc hv hs hl h x5 (some (.val (.tuple [.int low, .int high]))) (some (.val (.list (l.map .int)))) x9 (some (.val (.int low))) (some (.val (.int high))) none l q
    by_cases a : 0 < low
    · by_cases b : high < 1000000000
      · have nn := nl [low - 1, high + 1] (by
          intro c hc
          simp only [List.mem_cons, List.not_mem_nil, or_false] at hc
          rcases hc with rfl | rfl
          · exact ⟨by omega, hlo a hlh⟩
          · exact ⟨by omega, hhi b hlh⟩)
        simp only [eT, eS, List.map_cons, List.map_nil] at fl nn ⊢
        generalize s.map eStep = sS at *
        repeat apply Exists.intro
        simp only [sSeq, sSet, sOwn, sPar, sParL,  sIf, sRet, sRetL, sRetO, sDrop, sAug, sApp, sFrz, frz, sAsg, gSet, gsNil, gsCons, gTupF, Fi.gSub, sFor, iL, iT, iR1, iR2, iZ, iEn, itemsK, eVar, eC, Fi.e2, Fi.e1, asB, eChain, tAndF, tOrF, tNotF, eAnd, eOr, eNot, eIf, aNil, aCons, eTup, lLst, eL, eCall, lCall, eCallF, lCallF, eSlT, lSl, oNone, oSome, ownIx, ownLen, lLc, wipeE, pYes, sNext, fnD, entry, fAdd_int, fSub, fMul_l, fMul_r, fDiv_ok, fMod_ok, fPow_ok, fLt, fLe, fGt, fGe, fEq_int, fEq_str, fEq_bool, fNe_int, fNe_str, fNe_bool, isN, fIs, fIsNot, fIx, fNeg, fLen, fMin, fMax, fTuple, fList, fIntB, fSum, fAll, fAny, at_0, at_1, at_2, eT, eS, eStep, eR, getInts_map, Option.bind_some, Option.map_some, List.getElem?_cons_succ, List.getElem?_cons_zero, List.set_cons_succ, List.set_cons_zero, List.length_cons, List.length_nil, List.length_map, List.map_cons, List.map_nil, List.nil_append, List.cons_append, List.replicate, Nat.zero_add, Nat.reduceAdd, Nat.reduceSub, decide_true, decide_false, reduceIte, Nat.reduceLeDiff, Nat.reduceLT, Int.reduceLT, Int.reduceLE, Int.reduceNeg, Int.reducePow, and_self, or_self, and_true, true_and, or_true, true_or, Bool.not_true, Bool.not_false, pour_spend, spend_pour, rp1, fl, forD_nil, lCat, lRep, ten9, a, b, n0, nn, gt_iff_lt, show (1 : Int).toNat = 1 from rfl, show (0 : Int).toNat = 0 from rfl, List.flatten_cons, List.flatten_nil, List.append_nil]
        rfl
      · have nn := nl [low - 1] (by
          intro c hc
          simp only [List.mem_cons, List.not_mem_nil, or_false] at hc
          subst hc
          exact ⟨by omega, hlo a hlh⟩)
        simp only [eT, eS, List.map_cons, List.map_nil] at fl nn ⊢
        generalize s.map eStep = sS at *
        repeat apply Exists.intro
        simp only [sSeq, sSet, sOwn, sPar, sParL,  sIf, sRet, sRetL, sRetO, sDrop, sAug, sApp, sFrz, frz, sAsg, gSet, gsNil, gsCons, gTupF, Fi.gSub, sFor, iL, iT, iR1, iR2, iZ, iEn, itemsK, eVar, eC, Fi.e2, Fi.e1, asB, eChain, tAndF, tOrF, tNotF, eAnd, eOr, eNot, eIf, aNil, aCons, eTup, lLst, eL, eCall, lCall, eCallF, lCallF, eSlT, lSl, oNone, oSome, ownIx, ownLen, lLc, wipeE, pYes, sNext, fnD, entry, fAdd_int, fSub, fMul_l, fMul_r, fDiv_ok, fMod_ok, fPow_ok, fLt, fLe, fGt, fGe, fEq_int, fEq_str, fEq_bool, fNe_int, fNe_str, fNe_bool, isN, fIs, fIsNot, fIx, fNeg, fLen, fMin, fMax, fTuple, fList, fIntB, fSum, fAll, fAny, at_0, at_1, at_2, eT, eS, eStep, eR, getInts_map, Option.bind_some, Option.map_some, List.getElem?_cons_succ, List.getElem?_cons_zero, List.set_cons_succ, List.set_cons_zero, List.length_cons, List.length_nil, List.length_map, List.map_cons, List.map_nil, List.nil_append, List.cons_append, List.replicate, Nat.zero_add, Nat.reduceAdd, Nat.reduceSub, decide_true, decide_false, reduceIte, Nat.reduceLeDiff, Nat.reduceLT, Int.reduceLT, Int.reduceLE, Int.reduceNeg, Int.reducePow, and_self, or_self, and_true, true_and, or_true, true_or, Bool.not_true, Bool.not_false, pour_spend, spend_pour, rp1, fl, forD_nil, lCat, lRep, ten9, a, b, n0, nn, gt_iff_lt, show (1 : Int).toNat = 1 from rfl, show (0 : Int).toNat = 0 from rfl, List.flatten_cons, List.flatten_nil, List.append_nil, Bool.false_eq_true]
        rfl
    · by_cases b : high < 1000000000
      · have nn := nl [high + 1] (by
          intro c hc
          simp only [List.mem_cons, List.not_mem_nil, or_false] at hc
          subst hc
          exact ⟨by omega, hhi b hlh⟩)
        simp only [eT, eS, List.map_cons, List.map_nil] at fl nn ⊢
        generalize s.map eStep = sS at *
        repeat apply Exists.intro
        simp only [sSeq, sSet, sOwn, sPar, sParL,  sIf, sRet, sRetL, sRetO, sDrop, sAug, sApp, sFrz, frz, sAsg, gSet, gsNil, gsCons, gTupF, Fi.gSub, sFor, iL, iT, iR1, iR2, iZ, iEn, itemsK, eVar, eC, Fi.e2, Fi.e1, asB, eChain, tAndF, tOrF, tNotF, eAnd, eOr, eNot, eIf, aNil, aCons, eTup, lLst, eL, eCall, lCall, eCallF, lCallF, eSlT, lSl, oNone, oSome, ownIx, ownLen, lLc, wipeE, pYes, sNext, fnD, entry, fAdd_int, fSub, fMul_l, fMul_r, fDiv_ok, fMod_ok, fPow_ok, fLt, fLe, fGt, fGe, fEq_int, fEq_str, fEq_bool, fNe_int, fNe_str, fNe_bool, isN, fIs, fIsNot, fIx, fNeg, fLen, fMin, fMax, fTuple, fList, fIntB, fSum, fAll, fAny, at_0, at_1, at_2, eT, eS, eStep, eR, getInts_map, Option.bind_some, Option.map_some, List.getElem?_cons_succ, List.getElem?_cons_zero, List.set_cons_succ, List.set_cons_zero, List.length_cons, List.length_nil, List.length_map, List.map_cons, List.map_nil, List.nil_append, List.cons_append, List.replicate, Nat.zero_add, Nat.reduceAdd, Nat.reduceSub, decide_true, decide_false, reduceIte, Nat.reduceLeDiff, Nat.reduceLT, Int.reduceLT, Int.reduceLE, Int.reduceNeg, Int.reducePow, and_self, or_self, and_true, true_and, or_true, true_or, Bool.not_true, Bool.not_false, pour_spend, spend_pour, rp1, fl, forD_nil, lCat, lRep, ten9, a, b, n0, nn, gt_iff_lt, show (1 : Int).toNat = 1 from rfl, show (0 : Int).toNat = 0 from rfl, List.flatten_cons, List.flatten_nil, List.append_nil, Bool.false_eq_true]
        rfl
      · have nn := nl [] (by simp)
        simp only [eT, eS, List.map_cons, List.map_nil] at fl nn ⊢
        generalize s.map eStep = sS at *
        repeat apply Exists.intro
        simp only [sSeq, sSet, sOwn, sPar, sParL,  sIf, sRet, sRetL, sRetO, sDrop, sAug, sApp, sFrz, frz, sAsg, gSet, gsNil, gsCons, gTupF, Fi.gSub, sFor, iL, iT, iR1, iR2, iZ, iEn, itemsK, eVar, eC, Fi.e2, Fi.e1, asB, eChain, tAndF, tOrF, tNotF, eAnd, eOr, eNot, eIf, aNil, aCons, eTup, lLst, eL, eCall, lCall, eCallF, lCallF, eSlT, lSl, oNone, oSome, ownIx, ownLen, lLc, wipeE, pYes, sNext, fnD, entry, fAdd_int, fSub, fMul_l, fMul_r, fDiv_ok, fMod_ok, fPow_ok, fLt, fLe, fGt, fGe, fEq_int, fEq_str, fEq_bool, fNe_int, fNe_str, fNe_bool, isN, fIs, fIsNot, fIx, fNeg, fLen, fMin, fMax, fTuple, fList, fIntB, fSum, fAll, fAny, at_0, at_1, at_2, eT, eS, eStep, eR, getInts_map, Option.bind_some, Option.map_some, List.getElem?_cons_succ, List.getElem?_cons_zero, List.set_cons_succ, List.set_cons_zero, List.length_cons, List.length_nil, List.length_map, List.map_cons, List.map_nil, List.nil_append, List.cons_append, List.replicate, Nat.zero_add, Nat.reduceAdd, Nat.reduceSub, decide_true, decide_false, reduceIte, Nat.reduceLeDiff, Nat.reduceLT, Int.reduceLT, Int.reduceLE, Int.reduceNeg, Int.reducePow, and_self, or_self, and_true, true_and, or_true, true_or, Bool.not_true, Bool.not_false, pour_spend, spend_pour, rp1, fl, forD_nil, lCat, lRep, ten9, a, b, n0, nn, gt_iff_lt, show (1 : Int).toNat = 1 from rfl, show (0 : Int).toNat = 0 from rfl, List.flatten_cons, List.flatten_nil, List.append_nil, Bool.false_eq_true]
        rfl
  · rw [if_neg hlh]
    simp only [eT, eS]
    repeat apply Exists.intro
    simp only [sSeq, sSet, sOwn, sPar, sParL,  sIf, sRet, sRetL, sRetO, sDrop, sAug, sApp, sFrz, frz, sAsg, gSet, gsNil, gsCons, gTupF, Fi.gSub, sFor, iL, iT, iR1, iR2, iZ, iEn, itemsK, eVar, eC, Fi.e2, Fi.e1, asB, eChain, tAndF, tOrF, tNotF, eAnd, eOr, eNot, eIf, aNil, aCons, eTup, lLst, eL, eCall, lCall, eCallF, lCallF, eSlT, lSl, oNone, oSome, ownIx, ownLen, lLc, wipeE, pYes, sNext, fnD, entry, fAdd_int, fSub, fMul_l, fMul_r, fDiv_ok, fMod_ok, fPow_ok, fLt, fLe, fGt, fGe, fEq_int, fEq_str, fEq_bool, fNe_int, fNe_str, fNe_bool, isN, fIs, fIsNot, fIx, fNeg, fLen, fMin, fMax, fTuple, fList, fIntB, fSum, fAll, fAny, at_0, at_1, at_2, eT, eS, eStep, eR, getInts_map, Option.bind_some, Option.map_some, List.getElem?_cons_succ, List.getElem?_cons_zero, List.set_cons_succ, List.set_cons_zero, List.length_cons, List.length_nil, List.length_map, List.map_cons, List.map_nil, List.nil_append, List.cons_append, List.replicate, Nat.zero_add, Nat.reduceAdd, Nat.reduceSub, decide_true, decide_false, reduceIte, Nat.reduceLeDiff, Nat.reduceLT, Int.reduceLT, Int.reduceLE, Int.reduceNeg, Int.reducePow, and_self, or_self, and_true, true_and, or_true, true_or, Bool.not_true, Bool.not_false, pour_spend, spend_pour, rp1]
    rfl
theorem rp2_ok {caps lv w : List Int} {s : List Step} {k : Nat} {t : Step} (hc : caps.length ≤ 100) (hv : Lv caps lv) (hs : ∀ u ∈ s, StOk caps.length u) (hl : s.length ≤ 1000) (h : s[k]? = some t) {low high : Int} (sm : Bool) (hN : sm = true → 0 ≤ caps.sum + (amtsL s).sum + 2 ∧ caps.sum + (amtsL s).sum + 2 < 100000) (h0 : 0 ≤ low)
    (hyes : sm = true → low ≤ high → low < caps.sum + (amtsL s).sum + 2 ∧ fitB caps lv (withA s k low) w = true ∧ ∀ a : Int, 0 ≤ a → a < low → fitB caps lv (withA s k a) w = false) (hno : sm = true → ¬ low ≤ high → ∀ a : Int, 0 ≤ a → a < 100000 → fitB caps lv (withA s k a) w = false) (x7 x8 x10 x11 : Option Sl) : ∃ y7 y9,
    rp2 [some (.val (eT caps)), some (.val (eT lv)), some (.val (eS s)), some (.val (.int k)), some (.val (eT w)), some (.val (.bool sm)), some (.val (foundD low high)), x7, x8, none, x10, x11, none]
      = some (.next [some (.val (eT caps)), some (.val (eT lv)), some (.val (eS s)), some (.val (.int k)), some (.val (eT w)), some (.val (.bool sm)), some (.val (foundD low high)), y7, x8, y9, x10, x11, none]) := by
  cases sm with
  | false =>
    simp only [eT, eS]
    repeat apply Exists.intro
    simp only [sSeq, sSet, sOwn, sPar, sParL,  sIf, sRet, sRetL, sRetO, sDrop, sAug, sApp, sFrz, frz, sAsg, gSet, gsNil, gsCons, gTupF, Fi.gSub, sFor, iL, iT, iR1, iR2, iZ, iEn, itemsK, eVar, eC, Fi.e2, Fi.e1, asB, eChain, tAndF, tOrF, tNotF, eAnd, eOr, eNot, eIf, aNil, aCons, eTup, lLst, eL, eCall, lCall, eCallF, lCallF, eSlT, lSl, oNone, oSome, ownIx, ownLen, lLc, wipeE, pYes, sNext, fnD, entry, fAdd_int, fSub, fMul_l, fMul_r, fDiv_ok, fMod_ok, fPow_ok, fLt, fLe, fGt, fGe, fEq_int, fEq_str, fEq_bool, fNe_int, fNe_str, fNe_bool, isN, fIs, fIsNot, fIx, fNeg, fLen, fMin, fMax, fTuple, fList, fIntB, fSum, fAll, fAny, at_0, at_1, at_2, eT, eS, eStep, eR, getInts_map, Option.bind_some, Option.map_some, List.getElem?_cons_succ, List.getElem?_cons_zero, List.set_cons_succ, List.set_cons_zero, List.length_cons, List.length_nil, List.length_map, List.map_cons, List.map_nil, List.nil_append, List.cons_append, List.replicate, Nat.zero_add, Nat.reduceAdd, Nat.reduceSub, decide_true, decide_false, reduceIte, Nat.reduceLeDiff, Nat.reduceLT, Int.reduceLT, Int.reduceLE, Int.reduceNeg, Int.reducePow, and_self, or_self, and_true, true_and, or_true, true_or, Bool.not_true, Bool.not_false, pour_spend, spend_pour, rp2]
    rfl
  | true =>
    obtain ⟨N0, N1⟩ := hN rfl
    have hls : s.length < 100000 := by omega
    have hnn : -100000 < caps.sum + (amtsL s).sum + 2 ∧ caps.sum + (amtsL s).sum + 2 < 100000 := ⟨by omega, N1⟩
    have lc := amts_lc (env := [some (.val (eT caps)), some (.val (eT lv)), some (.val (eS s)), some (.val (.int k)), some (.val (eT w)), some (.val (.bool true)), some (.val (foundD low high)), x7, x8, some (.own []), x10, x11, none]) (by simp) s
    obtain ⟨z7, gl⟩ := good_loop (w := w) hc hv hs hl h (some (.val (.bool true))) (some (.val (foundD low high))) x8 x10 x11 none (List.range (caps.sum + (amtsL s).sum + 2).toNat) [] x7 (by rw [List.length_range]; simp; omega)
    simp only [List.map_nil, List.nil_append] at gl
    have e0 : fEq (.list []) (.list []) = some (.bool true) := fEq_self rfl
    have n0 : fNe (.list []) (.list []) = some (.bool false) := fNe_self rfl
    by_cases hlh : low ≤ high
    · obtain ⟨q1, q2, q3⟩ := hyes rfl hlh
      obtain ⟨r, hr⟩ := filter_least (p := fun (a : Nat) => fitB caps lv (withA s k (a : Int)) w) (n := (caps.sum + (amtsL s).sum + 2).toNat) (m := low.toNat) (by omega) (by rw [show ((low.toNat : Nat) : Int) = low by omega]; exact q2) (fun j hj => q3 j (by omega) (by omega))
      rw [hr] at gl
      have hsh := shaped_nats (low.toNat :: r)
      have hlow : ((low.toNat : Nat) : Int) = low := by omega
      simp only [List.map_cons, hlow] at gl hsh
      generalize r.map (fun (i : Nat) => PyData.int (i : Int)) = R at gl hsh
      have e1 : fEq (.list (.int low :: R)) (.list []) = some (.bool false) := by
        show (if _ then _ else _) = _
        rw [if_pos ⟨hsh, rfl⟩]
        rfl
      have n1 : fNe (.list (.int low :: R)) (.list []) = some (.bool true) := by
        show (if _ then _ else _) = _
        rw [if_pos ⟨hsh, rfl⟩]
        rfl
      simp only [foundD, if_pos hlh] at gl lc ⊢
      simp only [eT, eS] at gl lc ⊢
      clear hyes hno hr
      have hsl : (s.map eStep).length < 100000 := by rw [List.length_map]; omega
      generalize s.map eStep = sS at *
      repeat apply Exists.intro
      simp only [sSeq, sSet, sOwn, sPar, sParL,  sIf, sRet, sRetL, sRetO, sDrop, sAug, sApp, sFrz, frz, sAsg, gSet, gsNil, gsCons, gTupF, Fi.gSub, sFor, iL, iT, iR1, iR2, iZ, iEn, itemsK, eVar, eC, Fi.e2, Fi.e1, asB, eChain, tAndF, tOrF, tNotF, eAnd, eOr, eNot, eIf, aNil, aCons, eTup, lLst, eL, eCall, lCall, eCallF, lCallF, eSlT, lSl, oNone, oSome, ownIx, ownLen, lLc, wipeE, pYes, sNext, fnD, entry, fAdd_int, fSub, fMul_l, fMul_r, fDiv_ok, fMod_ok, fPow_ok, fLt, fLe, fGt, fGe, fEq_int, fEq_str, fEq_bool, fNe_int, fNe_str, fNe_bool, isN, fIs, fIsNot, fIx, fNeg, fLen, fMin, fMax, fTuple, fList, fIntB, fSum, fAll, fAny, at_0, at_1, at_2, eT, eS, eStep, eR, getInts_map, Option.bind_some, Option.map_some, List.getElem?_cons_succ, List.getElem?_cons_zero, List.set_cons_succ, List.set_cons_zero, List.length_cons, List.length_nil, List.length_map, List.map_cons, List.map_nil, List.nil_append, List.cons_append, List.replicate, Nat.zero_add, Nat.reduceAdd, Nat.reduceSub, decide_true, decide_false, reduceIte, Nat.reduceLeDiff, Nat.reduceLT, Int.reduceLT, Int.reduceLE, Int.reduceNeg, Int.reducePow, and_self, or_self, and_true, true_and, or_true, true_or, Bool.not_true, Bool.not_false, pour_spend, spend_pour, rp2, lc, hls, hsl, hnn, gl, e1, n1]
      rfl
    · have hr : (List.range (caps.sum + (amtsL s).sum + 2).toNat).filter (fun (a : Nat) => fitB caps lv (withA s k (a : Int)) w) = [] := List.filter_eq_nil_iff.mpr fun j hj => by
        have hj := List.mem_range.mp hj
        rw [hno rfl hlh (j : Int) (by omega) (by omega)]
        exact Bool.false_ne_true
      rw [hr] at gl
      simp only [foundD, if_neg hlh, List.map_nil] at gl lc ⊢
      simp only [eT, eS] at gl lc ⊢
      repeat apply Exists.intro
      simp only [sSeq, sSet, sOwn, sPar, sParL,  sIf, sRet, sRetL, sRetO, sDrop, sAug, sApp, sFrz, frz, sAsg, gSet, gsNil, gsCons, gTupF, Fi.gSub, sFor, iL, iT, iR1, iR2, iZ, iEn, itemsK, eVar, eC, Fi.e2, Fi.e1, asB, eChain, tAndF, tOrF, tNotF, eAnd, eOr, eNot, eIf, aNil, aCons, eTup, lLst, eL, eCall, lCall, eCallF, lCallF, eSlT, lSl, oNone, oSome, ownIx, ownLen, lLc, wipeE, pYes, sNext, fnD, entry, fAdd_int, fSub, fMul_l, fMul_r, fDiv_ok, fMod_ok, fPow_ok, fLt, fLe, fGt, fGe, fEq_int, fEq_str, fEq_bool, fNe_int, fNe_str, fNe_bool, isN, fIs, fIsNot, fIx, fNeg, fLen, fMin, fMax, fTuple, fList, fIntB, fSum, fAll, fAny, at_0, at_1, at_2, eT, eS, eStep, eR, getInts_map, Option.bind_some, Option.map_some, List.getElem?_cons_succ, List.getElem?_cons_zero, List.set_cons_succ, List.set_cons_zero, List.length_cons, List.length_nil, List.length_map, List.map_cons, List.map_nil, List.nil_append, List.cons_append, List.replicate, Nat.zero_add, Nat.reduceAdd, Nat.reduceSub, decide_true, decide_false, reduceIte, Nat.reduceLeDiff, Nat.reduceLT, Int.reduceLT, Int.reduceLE, Int.reduceNeg, Int.reducePow, and_self, or_self, and_true, true_and, or_true, true_or, Bool.not_true, Bool.not_false, pour_spend, spend_pour, rp2, lc, hls, hnn, gl, e0, n0]
      rfl
theorem rp3_ok {caps lv w : List Int} {s : List Step} {k : Nat} {t : Step} (hc : caps.length ≤ 100) (hv : Lv caps lv) (hs : ∀ u ∈ s, StOk caps.length u) (h : s[k]? = some t) {low high : Int} (hf : fitB caps lv s w = true → low ≤ amtOf t ∧ amtOf t ≤ high) (x5 x7 x8 x9 x10 x11 x12 : Option Sl) :
    rp3 [some (.val (eT caps)), some (.val (eT lv)), some (.val (eS s)), some (.val (.int k)), some (.val (eT w)), x5, some (.val (foundD low high)), x7, x8, x9, x10, x11, x12] = some (.ret (.bool true)) := by
  have r := lfits_ok (w := w) hc hv.len hs
  have hat : atI (s.map eStep) (k : Int) = some (eStep t) := by
    refine atI_nat ?_
    rw [List.getElem?_map, h]
    rfl
  cases e : fitB caps lv s w with
  | false =>
    rw [e] at r
    simp only [eT, eS] at r ⊢
    simp only [sSeq, sSet, sOwn, sPar, sParL,  sIf, sRet, sRetL, sRetO, sDrop, sAug, sApp, sFrz, frz, sAsg, gSet, gsNil, gsCons, gTupF, Fi.gSub, sFor, iL, iT, iR1, iR2, iZ, iEn, itemsK, eVar, eC, Fi.e2, Fi.e1, asB, eChain, tAndF, tOrF, tNotF, eAnd, eOr, eNot, eIf, aNil, aCons, eTup, lLst, eL, eCall, lCall, eCallF, lCallF, eSlT, lSl, oNone, oSome, ownIx, ownLen, lLc, wipeE, pYes, sNext, fnD, entry, fAdd_int, fSub, fMul_l, fMul_r, fDiv_ok, fMod_ok, fPow_ok, fLt, fLe, fGt, fGe, fEq_int, fEq_str, fEq_bool, fNe_int, fNe_str, fNe_bool, isN, fIs, fIsNot, fIx, fNeg, fLen, fMin, fMax, fTuple, fList, fIntB, fSum, fAll, fAny, at_0, at_1, at_2, eT, eS, eStep, eR, getInts_map, Option.bind_some, Option.map_some, List.getElem?_cons_succ, List.getElem?_cons_zero, List.set_cons_succ, List.set_cons_zero, List.length_cons, List.length_nil, List.length_map, List.map_cons, List.map_nil, List.nil_append, List.cons_append, List.replicate, Nat.zero_add, Nat.reduceAdd, Nat.reduceSub, decide_true, decide_false, reduceIte, Nat.reduceLeDiff, Nat.reduceLT, Int.reduceLT, Int.reduceLE, Int.reduceNeg, Int.reducePow, and_self, or_self, and_true, true_and, or_true, true_or, Bool.not_true, Bool.not_false, pour_spend, spend_pour, rp3, r]
  | true =>
    rw [e] at r
    obtain ⟨q1, q2⟩ := hf e
    have hlh : low ≤ high := by omega
    unfold foundD
    rw [if_pos hlh]
    simp only [eT, eS] at r ⊢
    generalize s.map eStep = sS at *
    cases t with
    | pour x =>
      have q1 : low ≤ x := q1
      have q2 : x ≤ high := q2
      simp only [eStep] at hat
      simp only [sSeq, sSet, sOwn, sPar, sParL,  sIf, sRet, sRetL, sRetO, sDrop, sAug, sApp, sFrz, frz, sAsg, gSet, gsNil, gsCons, gTupF, Fi.gSub, sFor, iL, iT, iR1, iR2, iZ, iEn, itemsK, eVar, eC, Fi.e2, Fi.e1, asB, eChain, tAndF, tOrF, tNotF, eAnd, eOr, eNot, eIf, aNil, aCons, eTup, lLst, eL, eCall, lCall, eCallF, lCallF, eSlT, lSl, oNone, oSome, ownIx, ownLen, lLc, wipeE, pYes, sNext, fnD, entry, fAdd_int, fSub, fMul_l, fMul_r, fDiv_ok, fMod_ok, fPow_ok, fLt, fLe, fGt, fGe, fEq_int, fEq_str, fEq_bool, fNe_int, fNe_str, fNe_bool, isN, fIs, fIsNot, fIx, fNeg, fLen, fMin, fMax, fTuple, fList, fIntB, fSum, fAll, fAny, at_0, at_1, at_2, eT, eS, eStep, eR, getInts_map, Option.bind_some, Option.map_some, List.getElem?_cons_succ, List.getElem?_cons_zero, List.set_cons_succ, List.set_cons_zero, List.length_cons, List.length_nil, List.length_map, List.map_cons, List.map_nil, List.nil_append, List.cons_append, List.replicate, Nat.zero_add, Nat.reduceAdd, Nat.reduceSub, decide_true, decide_false, reduceIte, Nat.reduceLeDiff, Nat.reduceLT, Int.reduceLT, Int.reduceLE, Int.reduceNeg, Int.reducePow, and_self, or_self, and_true, true_and, or_true, true_or, Bool.not_true, Bool.not_false, pour_spend, spend_pour, rp3, r, hat, last1, q1, q2]
    | spend i x =>
      have q1 : low ≤ x := q1
      have q2 : x ≤ high := q2
      simp only [eStep] at hat
      simp only [sSeq, sSet, sOwn, sPar, sParL,  sIf, sRet, sRetL, sRetO, sDrop, sAug, sApp, sFrz, frz, sAsg, gSet, gsNil, gsCons, gTupF, Fi.gSub, sFor, iL, iT, iR1, iR2, iZ, iEn, itemsK, eVar, eC, Fi.e2, Fi.e1, asB, eChain, tAndF, tOrF, tNotF, eAnd, eOr, eNot, eIf, aNil, aCons, eTup, lLst, eL, eCall, lCall, eCallF, lCallF, eSlT, lSl, oNone, oSome, ownIx, ownLen, lLc, wipeE, pYes, sNext, fnD, entry, fAdd_int, fSub, fMul_l, fMul_r, fDiv_ok, fMod_ok, fPow_ok, fLt, fLe, fGt, fGe, fEq_int, fEq_str, fEq_bool, fNe_int, fNe_str, fNe_bool, isN, fIs, fIsNot, fIx, fNeg, fLen, fMin, fMax, fTuple, fList, fIntB, fSum, fAll, fAny, at_0, at_1, at_2, eT, eS, eStep, eR, getInts_map, Option.bind_some, Option.map_some, List.getElem?_cons_succ, List.getElem?_cons_zero, List.set_cons_succ, List.set_cons_zero, List.length_cons, List.length_nil, List.length_map, List.map_cons, List.map_nil, List.nil_append, List.cons_append, List.replicate, Nat.zero_add, Nat.reduceAdd, Nat.reduceSub, decide_true, decide_false, reduceIte, Nat.reduceLeDiff, Nat.reduceLT, Int.reduceLT, Int.reduceLE, Int.reduceNeg, Int.reducePow, and_self, or_self, and_true, true_and, or_true, true_or, Bool.not_true, Bool.not_false, pour_spend, spend_pour, rp3, r, hat, last2, q1, q2]
theorem get_le_sum : ∀ {l : List Int} {i : Nat}, (∀ c ∈ l, 0 ≤ c) → l.getD i 0 ≤ l.sum
  | [], i, _ => by simp
  | c :: l, 0, h => by
    have := sum_nonneg (l := l) fun x hx => h x (by simp [hx])
    simp only [List.getD_cons_zero, List.sum_cons]
    omega
  | c :: l, i + 1, h => by
    have h1 := h c (by simp)
    have := get_le_sum (l := l) (i := i) fun x hx => h x (by simp [hx])
    rw [List.getD_cons_succ, List.sum_cons]
    omega
theorem amt_nonneg {n : Nat} {t : Step} (h : StOk n t) : 0 ≤ amtOf t := by
  cases t with
  | pour a => exact h
  | spend i a => exact h.2
theorem amts_nonneg {n : Nat} {s : List Step} (h : ∀ u ∈ s, StOk n u) : 0 ≤ (amtsL s).sum := sum_nonneg fun c hc => by
  obtain ⟨t, ht, rfl⟩ := List.mem_map.mp hc
  exact amt_nonneg (h t ht)
theorem right_ok {caps lv w : List Int} {s : List Step} {k : Nat} (hc : caps.length ≤ 100) (hcp : ∀ c ∈ caps, 0 ≤ c ∧ c ≤ 20000) (hsum : caps.sum ≤ 1000000000) (hv : Lv caps lv) (hb : ∀ u ∈ s, StB caps u) (hl : s.length ≤ 1000) (hk : k < s.length) (hw : w.length = caps.length) (sm : Bool) (hN : sm = true → caps.sum + (amtsL s).sum + 2 < 100000) :
    F__law_right [eT caps, eT lv, eS s, .int k, eT w, .bool sm] = some (.val (.bool true)) := by
  have hs : ∀ u ∈ s, StOk caps.length u := fun u hu => (hb u hu).ok
  obtain ⟨t, h⟩ : ∃ t, s[k]? = some t := ⟨s[k], List.getElem?_eq_getElem hk⟩
  have hbt := hb t (List.mem_of_getElem? h)
  have hst := hs t (List.mem_of_getElem? h)
  have hsum0 : 0 ≤ caps.sum := sum_nonneg fun c hc => (hcp c hc).1
  have hams := amts_nonneg hs
  obtain ⟨low, high, h0, hL, hch, f⟩ := fitting_ok (s := withA s k 7) (w := w) hc hcp hv (withA_ok h hs (by decide)) (by rw [withA_len h]; exact hl) (withA_get h) hw
  have hLa : largest caps (amt 7 t) = largest caps t := by cases t <;> rfl
  rw [hLa] at hL hch
  have ch : ∀ a, 0 ≤ a → a ≤ largest caps t → (fitB caps lv (withA s k a) w = true ↔ low ≤ a ∧ a ≤ high) := fun a a0 a1 => by
    have := hch a a0 a1
    unfold fitsP at this
    rw [withA_withA h] at this
    exact fitB_iff.trans this
  have chn : ∀ a, 0 ≤ a → a ≤ largest caps t → ¬ (low ≤ a ∧ a ≤ high) → fitB caps lv (withA s k a) w = false := fun a a0 a1 q => by
    rw [← Bool.not_eq_true]
    exact fun z => q ((ch a a0 a1).mp z)
  have big : ∀ a, largest caps t < a → a ≤ 1000000000 → fitB caps lv (withA s k a) w = false := fun a a1 a2 => by
    cases t with
    | pour x => simp only [largest] at a1; omega
    | spend i x =>
      rw [← Bool.not_eq_true]
      exact fun z => spend_big hv hs h a1 (fitB_iff.mp z)
  have hin : ∀ a, low ≤ a → a ≤ high → fitB caps lv (withA s k a) w = true := fun a p q => (ch a (by omega) (by omega)).mpr ⟨p, q⟩
  have hlo : 0 < low → low ≤ high → fitB caps lv (withA s k (low - 1)) w = false := fun p q => chn _ (by omega) (by omega) (by omega)
  have hhi : high < 1000000000 → low ≤ high → fitB caps lv (withA s k (high + 1)) w = false := fun p q => by
    by_cases z : high + 1 ≤ largest caps t
    · exact chn _ (by omega) z (by omega)
    · exact big _ (by omega) (by omega)
  obtain ⟨y7, y8, y10, y11, p1⟩ := rp1_ok (w := w) (x5 := some (.val (.bool sm))) (x9 := none) hc hv hs hl h h0 hin hlo hhi
  obtain ⟨z7, z9, p2⟩ := rp2_ok (w := w) (low := low) (high := high) hc hv hs hl h sm (fun e => ⟨by omega, hN e⟩) h0 (fun e q => ⟨by
      have hle : low ≤ caps.sum := by
        cases t with
        | pour x =>
          by_cases z : caps.sum < low
          · have h1 := pour_big hv hs h (Int.le_of_lt z) (fitB_iff.mp (hin low (Int.le_refl _) q))
            have := ((ch caps.sum hsum0 hsum).mp (fitB_iff.mpr h1)).1
            omega
          · omega
        | spend i x =>
          have := get_le_sum (i := i) fun c hc => (hcp c hc).1
          simp only [largest] at hL
          omega
      omega, hin low (Int.le_refl _) q, fun a a0 a1 => chn a a0 (by omega) (by omega)⟩) (fun e q a a0 a1 => by
      by_cases z : a ≤ largest caps t
      · exact chn a a0 z (by omega)
      · exact big a (by omega) (by omega)) y7 y8 y10 y11
  have p3 := rp3_ok (w := w) (low := low) (high := high) hc hv hs h (fun e => by
      have a0 := amt_nonneg hst
      have e' : fitB caps lv (withA s k (amtOf t)) w = true := by rw [withA_self h]; exact e
      have a1 : amtOf t ≤ largest caps t := by
        cases t with
        | pour x =>
          have := hbt.2
          simp only [amtOf, largest]
          omega
        | spend i x => exact Int.not_lt.mp fun z => spend_big hv hs h z (fitB_iff.mp e')
      exact (ch _ a0 a1).mp e') (some (.val (.bool sm))) z7 y8 z9 y10 y11 none
  have r1 := lwith_ok (a := 7) h hl
  refine fn_ret ?_
  rw [right_cut]
  have f : F_fitting_amounts [eT caps, eT lv, eS (withA s k 7), .int k, eT w] = some (.val (foundD low high)) := f
  simp only [eT, eS] at r1 f p1 p2 p3 ⊢
  generalize (withA s k 7).map eStep = W at r1 f
  generalize s.map eStep = sS at r1 p1 p2 p3 ⊢
  generalize foundD low high = FD at f p1 p2 p3
  simp only [sSeq, sSet, sOwn, sPar, sParL,  sIf, sRet, sRetL, sRetO, sDrop, sAug, sApp, sFrz, frz, sAsg, gSet, gsNil, gsCons, gTupF, Fi.gSub, sFor, iL, iT, iR1, iR2, iZ, iEn, itemsK, eVar, eC, Fi.e2, Fi.e1, asB, eChain, tAndF, tOrF, tNotF, eAnd, eOr, eNot, eIf, aNil, aCons, eTup, lLst, eL, eCall, lCall, eCallF, lCallF, eSlT, lSl, oNone, oSome, ownIx, ownLen, lLc, wipeE, pYes, sNext, fnD, entry, fAdd_int, fSub, fMul_l, fMul_r, fDiv_ok, fMod_ok, fPow_ok, fLt, fLe, fGt, fGe, fEq_int, fEq_str, fEq_bool, fNe_int, fNe_str, fNe_bool, isN, fIs, fIsNot, fIx, fNeg, fLen, fMin, fMax, fTuple, fList, fIntB, fSum, fAll, fAny, at_0, at_1, at_2, eT, eS, eStep, eR, getInts_map, Option.bind_some, Option.map_some, List.getElem?_cons_succ, List.getElem?_cons_zero, List.set_cons_succ, List.set_cons_zero, List.length_cons, List.length_nil, List.length_map, List.map_cons, List.map_nil, List.nil_append, List.cons_append, List.replicate, Nat.zero_add, Nat.reduceAdd, Nat.reduceSub, decide_true, decide_false, reduceIte, Nat.reduceLeDiff, Nat.reduceLT, Int.reduceLT, Int.reduceLE, Int.reduceNeg, Int.reducePow, and_self, or_self, and_true, true_and, or_true, true_or, Bool.not_true, Bool.not_false, pour_spend, spend_pour, r1, f, p1, p2, p3]
end Lw

namespace Lw
open PySem L2 Fi
theorem less_lc {S B D T x4 x5 x6 x7 x8 x9 x10 : Option Sl} {ds : List Int} (hD : D = some (.val (.list (ds.map .int)))) (hd : ds.length = 160) : ∀ l : List Int,
    lcD (gSet 11) pYes (eCall fMax (aCons (eC (.int 0)) (aCons (Fi.e2 fSub (eVar 11) (Fi.e2 fMod (Fi.e2 fIx (eVar 2) (eC (.int 142))) (eC (.int 3)))) aNil))) [S, B, D, T, x4, x5, x6, x7, x8, x9, x10, none] (l.map .int) = some ((l.map fun x => max 0 (x - ds.getD 142 0 % 3)).map .int)
  | [] => rfl
  | a :: l => by
    have ih := less_lc (S := S) (B := B) (T := T) (x4 := x4) (x5 := x5) (x6 := x6) (x7 := x7) (x8 := x8) (x9 := x9) (x10 := x10) hD hd l
    subst hD
    have g : atI (ds.map PyData.int) 142 = some (.int (ds.getD 142 0)) := at_get (k := 142) (by omega)
    have m3 : fMod (.int (ds.getD 142 0)) (.int 3) = some (.int (ds.getD 142 0 % 3)) := fMod_ok (by decide)
    generalize ds.getD 142 0 = q at *
    generalize ds.map PyData.int = dd at *
    rw [List.map_cons, List.map_cons, List.map_cons]
    simp only [sSeq, sSet, sOwn, sPar, sParL,  sIf, sRet, sRetL, sRetO, sDrop, sAug, sApp, sFrz, frz, sAsg, gSet, gsNil, gsCons, gTupF, Fi.gSub, sFor, iL, iT, iR1, iR2, iZ, iEn, itemsK, eVar, eC, Fi.e2, Fi.e1, asB, eChain, tAndF, tOrF, tNotF, eAnd, eOr, eNot, eIf, aNil, aCons, eTup, lLst, eL, eCall, lCall, eCallF, lCallF, eSlT, lSl, oNone, oSome, ownIx, ownLen, lLc, wipeE, pYes, sNext, fnD, entry, fAdd_int, fSub, fMul_l, fMul_r, fDiv_ok, fMod_ok, fPow_ok, fLt, fLe, fGt, fGe, fEq_int, fEq_str, fEq_bool, fNe_int, fNe_str, fNe_bool, isN, fIs, fIsNot, fIx, fNeg, fLen, fMin, fMax, fTuple, fList, fIntB, fSum, fAll, fAny, at_0, at_1, at_2, eT, eS, eStep, eR, getInts_map, Option.bind_some, Option.map_some, List.getElem?_cons_succ, List.getElem?_cons_zero, List.set_cons_succ, List.set_cons_zero, List.length_cons, List.length_nil, List.length_map, List.map_cons, List.map_nil, List.nil_append, List.cons_append, List.replicate, Nat.zero_add, Nat.reduceAdd, Nat.reduceSub, decide_true, decide_false, reduceIte, Nat.reduceLeDiff, Nat.reduceLT, Int.reduceLT, Int.reduceLE, Int.reduceNeg, Int.reducePow, and_self, or_self, and_true, true_and, or_true, true_or, Bool.not_true, Bool.not_false, pour_spend, spend_pour, lcD, g, m3, ih]
theorem top_body (S B : Option Sl) (ds : List Int) (hd : ds.length = 160) (hp : ∀ d ∈ ds, 0 ≤ d ∧ d < 27720) (top : Int) (ht : top = 6 ∨ top = 20000) (x4 x5 x6 x7 x8 x9 x10 x11 : Option Sl) : ∃ y4 y5 y6 y7 y8 y9 y10 y11,
    lp_law_2 [S, B, some (.val (.list (ds.map .int))), some (.val (.int top)), x4, x5, x6, x7, x8, x9, x10, x11] = some (.next [S, B, some (.val (.list (ds.map .int))), some (.val (.int top)), y4, y5, y6, y7, y8, y9, y10, y11]) := by
  have ht0 : 0 < top := by omega
  obtain ⟨caps, c1, c4, cp, fC⟩ := caps_ok ds (fun d h => (hp d h).1) 4 top (by decide) (by decide) (by omega) (by omega) ht0
  have fC : F__law_caps [.list (ds.map .int), .int 4, .int top] = some (.val (eT caps)) := fC
  have hc : caps.length ≤ 100 := by omega
  obtain ⟨lv, hv, fL⟩ := levels_ok (ds.drop 9) caps (by rw [List.length_drop]; omega) (fun c hc => by have := (cp c hc).1; omega) hc
  have hl := hv.len
  have f15 : atI (ds.map PyData.int) 15 = some (.int (ds.getD 15 0)) := at_get (k := 15) (by omega)
  have r0 := Int.emod_nonneg (ds.getD 15 0) (show (2 : Int) ≠ 0 by decide)
  have r1 := Int.emod_lt_of_pos (ds.getD 15 0) (show (0 : Int) < 2 by decide)
  obtain ⟨size, z1, z2⟩ : ∃ size : Nat, atI [PyData.int 5, PyData.int 30] (ds.getD 15 0 % 2) = some (.int size) ∧ size ≤ 30 := by
    have hr : ds.getD 15 0 % 2 = 0 ∨ ds.getD 15 0 % 2 = 1 := by omega
    rcases hr with h | h
    · exact ⟨5, by rw [h]; exact at_0, by decide⟩
    · exact ⟨30, by rw [h]; exact at_1, by decide⟩
  obtain ⟨s0, sl0, sb0, fS⟩ := script_ok (ds.drop 16) caps size (fun d hd => (hp d (List.mem_of_mem_drop hd)).1) (by rw [List.length_drop]; omega) (by omega) (fun c hc => (cp c hc).1) c1 hc
  rw [List.map_drop] at fL fS
  obtain ⟨n, hn, hrun, _, fP⟩ := possible_ok hc hl (fun t h => (sb0 t h).ok) (show s0.length ≤ 1000 by omega)
  have sb : ∀ t ∈ s0.take n, StB caps t := fun t h => sb0 t (List.mem_of_mem_take h)
  have sl : (s0.take n).length ≤ 30 := by rw [List.length_take]; omega
  generalize s0.take n = s at hrun fP sb sl
  have hs : ∀ t ∈ s, StOk caps.length t := fun t h => (sb t h).ok
  cases er : runM caps lv s with
  | none => exact absurd er hrun
  | some p =>
  have fR := lrun_ok hc hl hs
  rw [er] at fR
  have hpl := run_len hv hs er
  have hcp : ∀ c ∈ caps, 0 ≤ c ∧ c ≤ 20000 := fun c hc => by have := cp c hc; omega
  have hsum1 : caps.sum ≤ top * caps.length := sum_le fun c hc => (cp c hc).2
  have hsum2 : caps.sum ≤ top * 4 := Int.le_trans hsum1 (Int.mul_le_mul_of_nonneg_left (by omega) (by omega))
  have hsum3 : caps.sum ≤ 1000000000 := by omega
  have hN : (decide (top = 6)) = true → caps.sum + (amtsL s).sum + 2 < 100000 := fun e => by
    have e : top = 6 := of_decide_eq_true e
    subst e
    have h1 : (amtsL s).sum ≤ 100 * (amtsL s).length := sum_le fun c hc => by
      obtain ⟨t, ht, rfl⟩ := List.mem_map.mp hc
      have := sb t ht
      cases t with
      | pour a => have := this.2; simp only [amtOf]; omega
      | spend i a =>
        have h2 := (cp _ (getD_mem this.1)).2
        have := this.2.2
        simp only [amtOf]
        omega
    have h2 : (amtsL s).length ≤ 30 := by unfold amtsL; rw [List.length_map]; exact sl
    have : (100 : Int) * (amtsL s).length ≤ 100 * 30 := Int.mul_le_mul_of_nonneg_left (by omega) (by decide)
    omega
  have dpos : ∀ i, i < 160 → 0 ≤ ds.getD i 0 := fun i hi => (hp _ (getD_mem (by omega))).1
  let E (final less wanted turn lvl : Option Sl) : En := [S, B, some (.val (.list (ds.map .int))), some (.val (.int top)), some (.val (eT caps)), some (.val (eT lv)), some (.val (eS s)), final, less, wanted, turn, lvl]
  have one : ∀ (w : List Int) (final less lvl y10 : Option Sl), w.length = caps.length → ∃ z10, lp_law_1 (E final less (some (.val (eT w))) y10 lvl) = some (.next (E final less (some (.val (eT w))) z10 lvl)) := fun w final less lvl y10 hw => by
    obtain ⟨e, g1, z10, rfl⟩ : ∃ e, forD (gSet 10) lp_law_0 ((List.range (min 2 s.length)).map fun (i : Nat) => PyData.int (i : Int)) (E final less (some (.val (eT w))) y10 lvl) = some (.next e) ∧ ∃ z10, e = E final less (some (.val (eT w))) z10 lvl := by
      refine forD_inv (fun _ e => ∃ z10, e = E final less (some (.val (eT w))) z10 lvl) _ 0 _ ⟨y10, rfl⟩ fun i dd e hdd he => ?_
      obtain ⟨z10, rfl⟩ := he
      obtain ⟨hi, rfl⟩ := range_get' hdd
      have hs0 : 0 < (s.length : Int) := by omega
      have g : atI (ds.map PyData.int) (140 + (i : Int)) = some (.int (ds.getD (140 + i) 0)) := at_get (k := 140 + i) (by omega)
      have q0 := Int.emod_nonneg (ds.getD (140 + i) 0) (show (s.length : Int) ≠ 0 by omega)
      have q1 := Int.emod_lt_of_pos (ds.getD (140 + i) 0) hs0
      obtain ⟨k, hk⟩ : ∃ k : Nat, ds.getD (140 + i) 0 % (s.length : Int) = k := ⟨(ds.getD (140 + i) 0 % (s.length : Int)).toNat, by omega⟩
      have fr := right_ok (w := w) (k := k) hc hcp hsum3 hv sb (by omega) (by omega) hw (decide (top = 6)) hN
      have md : fMod (.int (ds.getD (140 + i) 0)) (.int (s.length : Int)) = some (.int k) := by rw [← hk]; exact fMod_ok hs0
      have hlen : (s.map eStep).length = s.length := List.length_map _
      refine ⟨E final less (some (.val (eT w))) (some (.val (.int (i : Int)))) lvl, E final less (some (.val (eT w))) (some (.val (.int (i : Int)))) lvl, rfl, ?_, some (.val (.int (i : Int))), rfl⟩
      simp only [E, eT, eS] at fr ⊢
      generalize s.map eStep = sS at fr hlen ⊢
      simp only [sSeq, sSet, sOwn, sPar, sParL,  sIf, sRet, sRetL, sRetO, sDrop, sAug, sApp, sFrz, frz, sAsg, gSet, gsNil, gsCons, gTupF, Fi.gSub, sFor, iL, iT, iR1, iR2, iZ, iEn, itemsK, eVar, eC, Fi.e2, Fi.e1, asB, eChain, tAndF, tOrF, tNotF, eAnd, eOr, eNot, eIf, aNil, aCons, eTup, lLst, eL, eCall, lCall, eCallF, lCallF, eSlT, lSl, oNone, oSome, ownIx, ownLen, lLc, wipeE, pYes, sNext, fnD, entry, fAdd_int, fSub, fMul_l, fMul_r, fDiv_ok, fMod_ok, fPow_ok, fLt, fLe, fGt, fGe, fEq_int, fEq_str, fEq_bool, fNe_int, fNe_str, fNe_bool, isN, fIs, fIsNot, fIx, fNeg, fLen, fMin, fMax, fTuple, fList, fIntB, fSum, fAll, fAny, at_0, at_1, at_2, eT, eS, eStep, eR, getInts_map, Option.bind_some, Option.map_some, List.getElem?_cons_succ, List.getElem?_cons_zero, List.set_cons_succ, List.set_cons_zero, List.length_cons, List.length_nil, List.length_map, List.map_cons, List.map_nil, List.nil_append, List.cons_append, List.replicate, Nat.zero_add, Nat.reduceAdd, Nat.reduceSub, decide_true, decide_false, reduceIte, Nat.reduceLeDiff, Nat.reduceLT, Int.reduceLT, Int.reduceLE, Int.reduceNeg, Int.reducePow, and_self, or_self, and_true, true_and, or_true, true_or, Bool.not_true, Bool.not_false, pour_spend, spend_pour, lp_law_0, g, hlen, md, fr]
    refine ⟨z10, ?_⟩
    have hm : min 2 (s.length : Int) = ((min 2 s.length : Nat) : Int) := by omega
    have hm2 : -100000 < min 2 (s.length : Int) ∧ min 2 (s.length : Int) < 100000 := by omega
    have hm3 : (min 2 (s.length : Int)).toNat = min 2 s.length := by omega
    have hlen : (s.map eStep).length = s.length := List.length_map _
    simp only [E, eT, eS] at g1 ⊢
    generalize s.map eStep = sS at g1 hlen ⊢
    simp only [sSeq, sSet, sOwn, sPar, sParL,  sIf, sRet, sRetL, sRetO, sDrop, sAug, sApp, sFrz, frz, sAsg, gSet, gsNil, gsCons, gTupF, Fi.gSub, sFor, iL, iT, iR1, iR2, iZ, iEn, itemsK, eVar, eC, Fi.e2, Fi.e1, asB, eChain, tAndF, tOrF, tNotF, eAnd, eOr, eNot, eIf, aNil, aCons, eTup, lLst, eL, eCall, lCall, eCallF, lCallF, eSlT, lSl, oNone, oSome, ownIx, ownLen, lLc, wipeE, pYes, sNext, fnD, entry, fAdd_int, fSub, fMul_l, fMul_r, fDiv_ok, fMod_ok, fPow_ok, fLt, fLe, fGt, fGe, fEq_int, fEq_str, fEq_bool, fNe_int, fNe_str, fNe_bool, isN, fIs, fIsNot, fIx, fNeg, fLen, fMin, fMax, fTuple, fList, fIntB, fSum, fAll, fAny, at_0, at_1, at_2, eT, eS, eStep, eR, getInts_map, Option.bind_some, Option.map_some, List.getElem?_cons_succ, List.getElem?_cons_zero, List.set_cons_succ, List.set_cons_zero, List.length_cons, List.length_nil, List.length_map, List.map_cons, List.map_nil, List.nil_append, List.cons_append, List.replicate, Nat.zero_add, Nat.reduceAdd, Nat.reduceSub, decide_true, decide_false, reduceIte, Nat.reduceLeDiff, Nat.reduceLT, Int.reduceLT, Int.reduceLE, Int.reduceNeg, Int.reducePow, and_self, or_self, and_true, true_and, or_true, true_or, Bool.not_true, Bool.not_false, pour_spend, spend_pour, lp_law_1, hlen, hm2, hm3, g1]
  have lc := fun x4 x5 x6 x7 x8 x9 x10 => less_lc (S := S) (B := B) (T := some (.val (.int top))) (x4 := x4) (x5 := x5) (x6 := x6) (x7 := x7) (x8 := x8) (x9 := x9) (x10 := x10) (ds := ds) rfl hd p.1
  obtain ⟨lw, hlw⟩ : ∃ lw, lw = p.1.map fun x => max 0 (x - ds.getD 142 0 % 3) := ⟨_, rfl⟩
  have hlwl : lw.length = caps.length := by rw [hlw, List.length_map, hpl]
  rw [← hlw] at lc
  obtain ⟨a1, k1⟩ := one p.1 (some (.val (eT p.1))) (some (.val (eT lw))) x11 x10 hpl
  obtain ⟨a2, k2⟩ := one lw (some (.val (eT p.1))) (some (.val (eT lw))) x11 a1 hlwl
  obtain ⟨a3, k3⟩ := one caps (some (.val (eT p.1))) (some (.val (eT lw))) x11 a2 rfl
  obtain ⟨a4, k4⟩ := one lv (some (.val (eT p.1))) (some (.val (eT lw))) x11 a3 hl.symm
  have fl : forD (gSet 9) lp_law_1 [eT p.1, eT lw, eT caps, eT lv] (E (some (.val (eT p.1))) (some (.val (eT lw))) x9 x10 x11) = _ := forD_step rfl k1 (forD_step rfl k2 (forD_step rfl k3 (forD_step rfl k4 rfl)))
  have hp1 : p.1.length < 100000 := by omega
  simp only [E, eT, eS, eR] at fC fL fS fP fR fl lc ⊢
  clear one k1 k2 k3 k4
  generalize s.map eStep = sS at *
  generalize s0.map eStep = sS0 at *
  repeat apply Exists.intro
  simp only [sSeq, sSet, sOwn, sPar, sParL,  sIf, sRet, sRetL, sRetO, sDrop, sAug, sApp, sFrz, frz, sAsg, gSet, gsNil, gsCons, gTupF, Fi.gSub, sFor, iL, iT, iR1, iR2, iZ, iEn, itemsK, eVar, eC, Fi.e2, Fi.e1, asB, eChain, tAndF, tOrF, tNotF, eAnd, eOr, eNot, eIf, aNil, aCons, eTup, lLst, eL, eCall, lCall, eCallF, lCallF, eSlT, lSl, oNone, oSome, ownIx, ownLen, lLc, wipeE, pYes, sNext, fnD, entry, fAdd_int, fSub, fMul_l, fMul_r, fDiv_ok, fMod_ok, fPow_ok, fLt, fLe, fGt, fGe, fEq_int, fEq_str, fEq_bool, fNe_int, fNe_str, fNe_bool, isN, fIs, fIsNot, fIx, fNeg, fLen, fMin, fMax, fTuple, fList, fIntB, fSum, fAll, fAny, at_0, at_1, at_2, eT, eS, eStep, eR, getInts_map, Option.bind_some, Option.map_some, List.getElem?_cons_succ, List.getElem?_cons_zero, List.set_cons_succ, List.set_cons_zero, List.length_cons, List.length_nil, List.length_map, List.map_cons, List.map_nil, List.nil_append, List.cons_append, List.replicate, Nat.zero_add, Nat.reduceAdd, Nat.reduceSub, decide_true, decide_false, reduceIte, Nat.reduceLeDiff, Nat.reduceLT, Int.reduceLT, Int.reduceLE, Int.reduceNeg, Int.reducePow, and_self, or_self, and_true, true_and, or_true, true_or, Bool.not_true, Bool.not_false, pour_spend, spend_pour, lp_law_2, fC, fL, fS, fP, fR, f15, z1, cut9, cut16, lc, hp1, fl, forD_nil]
  rfl
theorem law_body (ns : List Int) (hl : ns.length ≤ 63) (k : Nat) (hk : k < 8) (x2 x3 x4 x5 x6 x7 x8 x9 x10 x11 : Option Sl) : ∃ y1 y2 y3 y4 y5 y6 y7 y8 y9 y10 y11,
    lp_law_3 [some (.val (.list (ns.map .int))), some (.val (.int k)), x2, x3, x4, x5, x6, x7, x8, x9, x10, x11] = some (.next [some (.val (.list (ns.map .int))), y1, y2, y3, y4, y5, y6, y7, y8, y9, y10, y11]) := by
  obtain ⟨ds, dl, dp, fD⟩ := digits_ok ns hl k (by omega) 160 (by decide) 27720 ⟨by decide, by decide⟩
  have fD : F__law_digits [.list (ns.map .int), .int k, .int 160, .int 27720] = some (.own (ds.map .int)) := fD
  obtain ⟨y4, y5, y6, y7, y8, y9, y10, y11, h1⟩ := top_body (some (.val (.list (ns.map .int)))) (some (.val (.int k))) ds dl dp 6 (.inl rfl) x4 x5 x6 x7 x8 x9 x10 x11
  obtain ⟨z4, z5, z6, z7, z8, z9, z10, z11, h2⟩ := top_body (some (.val (.list (ns.map .int)))) (some (.val (.int k))) ds dl dp 20000 (.inr rfl) y4 y5 y6 y7 y8 y9 y10 y11
  have g : forD (gSet 3) lp_law_2 [.int 6, .int 20000] [some (.val (.list (ns.map .int))), some (.val (.int k)), some (.val (.list (ds.map .int))), x3, x4, x5, x6, x7, x8, x9, x10, x11] = _ := forD_step rfl h1 (forD_step rfl h2 rfl)
  repeat apply Exists.intro
  simp only [sSeq, sSet, sOwn, sPar, sParL,  sIf, sRet, sRetL, sRetO, sDrop, sAug, sApp, sFrz, frz, sAsg, gSet, gsNil, gsCons, gTupF, Fi.gSub, sFor, iL, iT, iR1, iR2, iZ, iEn, itemsK, eVar, eC, Fi.e2, Fi.e1, asB, eChain, tAndF, tOrF, tNotF, eAnd, eOr, eNot, eIf, aNil, aCons, eTup, lLst, eL, eCall, lCall, eCallF, lCallF, eSlT, lSl, oNone, oSome, ownIx, ownLen, lLc, wipeE, pYes, sNext, fnD, entry, fAdd_int, fSub, fMul_l, fMul_r, fDiv_ok, fMod_ok, fPow_ok, fLt, fLe, fGt, fGe, fEq_int, fEq_str, fEq_bool, fNe_int, fNe_str, fNe_bool, isN, fIs, fIsNot, fIx, fNeg, fLen, fMin, fMax, fTuple, fList, fIntB, fSum, fAll, fAny, at_0, at_1, at_2, eT, eS, eStep, eR, getInts_map, Option.bind_some, Option.map_some, List.getElem?_cons_succ, List.getElem?_cons_zero, List.set_cons_succ, List.set_cons_zero, List.length_cons, List.length_nil, List.length_map, List.map_cons, List.map_nil, List.nil_append, List.cons_append, List.replicate, Nat.zero_add, Nat.reduceAdd, Nat.reduceSub, decide_true, decide_false, reduceIte, Nat.reduceLeDiff, Nat.reduceLT, Int.reduceLT, Int.reduceLE, Int.reduceNeg, Int.reducePow, and_self, or_self, and_true, true_and, or_true, true_or, Bool.not_true, Bool.not_false, pour_spend, spend_pour, lp_law_3, fD, g]
  rfl
theorem fits_end {caps lv w : List Int} {k : Nat} {s : List Step} {t : Step} {low high a b : Int} (L : Int) (hch : ∀ a, 0 ≤ a → a ≤ L → (fitsP caps lv s k w a ↔ low ≤ a ∧ a ≤ high)) (hlo : 0 ≤ low) (hL : high ≤ L) (hab : 0 ≤ a ∧ a ≤ b ∧ b ≤ L) (h1 : fitsP caps lv s k w a) (h2 : fitsP caps lv s k w b) (h3 : a = 0 ∨ ¬ fitsP caps lv s k w (a - 1)) (h4 : b = L ∨ ¬ fitsP caps lv s k w (b + 1)) : low = a ∧ high = b := by
  have e1 := (hch a hab.1 (by omega)).mp h1
  have e2 := (hch b (by omega) hab.2.2).mp h2
  constructor
  · rcases h3 with h | h
    · omega
    · by_cases z : low = a
      · exact z
      · exact absurd ((hch (a - 1) (by omega) (by omega)).mpr (by omega)) h
  · rcases h4 with h | h
    · omega
    · by_cases z : high = b
      · exact z
      · exact absurd ((hch (b + 1) (by omega) (by omega)).mpr (by omega)) h
theorem law_true (ns : List Int) (hl : ns.length ≤ 63) : F_law [.list (ns.map .int)] = some (.val (.bool true)) := by
  obtain ⟨e, f1, y1, y2, y3, y4, y5, y6, y7, y8, y9, y10, y11, rfl⟩ : ∃ e, forD (gSet 1) lp_law_3 ((List.range 8).map fun (i : Nat) => PyData.int (i : Int)) [some (.val (.list (ns.map .int))), none, none, none, none, none, none, none, none, none, none, none] = some (.next e) ∧ ∃ y1 y2 y3 y4 y5 y6 y7 y8 y9 y10 y11, e = [some (.val (.list (ns.map .int))), y1, y2, y3, y4, y5, y6, y7, y8, y9, y10, y11] := by
    refine forD_inv (fun _ e => ∃ y1 y2 y3 y4 y5 y6 y7 y8 y9 y10 y11, e = [some (.val (.list (ns.map .int))), y1, y2, y3, y4, y5, y6, y7, y8, y9, y10, y11]) _ 0 _ ⟨_, _, _, _, _, _, _, _, _, _, _, rfl⟩ fun i d e hd he => ?_
    obtain ⟨y1, y2, y3, y4, y5, y6, y7, y8, y9, y10, y11, rfl⟩ := he
    obtain ⟨hi, rfl⟩ := range_get' hd
    obtain ⟨z1, z2, z3, z4, z5, z6, z7, z8, z9, z10, z11, h⟩ := law_body ns hl i hi y2 y3 y4 y5 y6 y7 y8 y9 y10 y11
    exact ⟨_, _, rfl, h, _, _, _, _, _, _, _, _, _, _, _, rfl⟩
  have fb : ∀ (w : List Int) (a : Int), fitsP [5, 9] [1, 0] [.pour 0] 0 w a ↔ fitB [5, 9] [1, 0] [.pour a] w = true := fun w a => (fitB_iff (s := [.pour 0]) (k := 0)).symm
  have r1 : F_fitting_amounts [.tuple [.int 5, .int 9], .tuple [.int 1, .int 0], .tuple [.tuple [.str "pour", .int 0]], .int 0, .tuple [.int 5, .int 9]] = some (.val (.tuple [.int 13, .int 1000000000])) := by
    obtain ⟨low, high, h0, hL, hch, f⟩ := fitting_ok (caps := [5, 9]) (lv := [1, 0]) (s := [.pour 0]) (k := 0) (t := .pour 0) (w := [5, 9]) (by decide) (by decide) (by simp [Lv]) (by simp [StOk]) (by decide) rfl rfl
    obtain ⟨rfl, rfl⟩ := fits_end (t := .pour 0) (a := 13) (b := 1000000000) 1000000000 hch h0 hL (by decide) ((fb _ _).mpr (by decide +kernel)) ((fb _ _).mpr (by decide +kernel)) (.inr fun z => absurd ((fb _ _).mp z) (by decide +kernel)) (.inl rfl)
    exact f
  have r2 : F_fitting_amounts [.tuple [.int 5, .int 9], .tuple [.int 1, .int 0], .tuple [.tuple [.str "pour", .int 0]], .int 0, .tuple [.int 5, .int 2]] = some (.val (.tuple [.int 6, .int 6])) := by
    obtain ⟨low, high, h0, hL, hch, f⟩ := fitting_ok (caps := [5, 9]) (lv := [1, 0]) (s := [.pour 0]) (k := 0) (t := .pour 0) (w := [5, 2]) (by decide) (by decide) (by simp [Lv]) (by simp [StOk]) (by decide) rfl rfl
    obtain ⟨rfl, rfl⟩ := fits_end (t := .pour 0) (a := 6) (b := 6) 1000000000 hch h0 hL (by decide) ((fb _ _).mpr (by decide +kernel)) ((fb _ _).mpr (by decide +kernel)) (.inr fun z => absurd ((fb _ _).mp z) (by decide +kernel)) (.inr fun z => absurd ((fb _ _).mp z) (by decide +kernel))
    exact f
  have n1 : fNe (.tuple [.int 13, .int 1000000000]) (.tuple [.int 13, .int 1000000000]) = some (.bool false) := fNe_self rfl
  have n2 : fEq (.tuple [.int 6, .int 6]) (.tuple [.int 6, .int 6]) = some (.bool true) := fEq_self rfl
  refine fn_ret ?_
  unfold b_law
  simp only [sSeq, sSet, sOwn, sPar, sParL,  sIf, sRet, sRetL, sRetO, sDrop, sAug, sApp, sFrz, frz, sAsg, gSet, gsNil, gsCons, gTupF, Fi.gSub, sFor, iL, iT, iR1, iR2, iZ, iEn, itemsK, eVar, eC, Fi.e2, Fi.e1, asB, eChain, tAndF, tOrF, tNotF, eAnd, eOr, eNot, eIf, aNil, aCons, eTup, lLst, eL, eCall, lCall, eCallF, lCallF, eSlT, lSl, oNone, oSome, ownIx, ownLen, lLc, wipeE, pYes, sNext, fnD, entry, fAdd_int, fSub, fMul_l, fMul_r, fDiv_ok, fMod_ok, fPow_ok, fLt, fLe, fGt, fGe, fEq_int, fEq_str, fEq_bool, fNe_int, fNe_str, fNe_bool, isN, fIs, fIsNot, fIx, fNeg, fLen, fMin, fMax, fTuple, fList, fIntB, fSum, fAll, fAny, at_0, at_1, at_2, eT, eS, eStep, eR, getInts_map, Option.bind_some, Option.map_some, List.getElem?_cons_succ, List.getElem?_cons_zero, List.set_cons_succ, List.set_cons_zero, List.length_cons, List.length_nil, List.length_map, List.map_cons, List.map_nil, List.nil_append, List.cons_append, List.replicate, Nat.zero_add, Nat.reduceAdd, Nat.reduceSub, decide_true, decide_false, reduceIte, Nat.reduceLeDiff, Nat.reduceLT, Int.reduceLT, Int.reduceLE, Int.reduceNeg, Int.reducePow, and_self, or_self, and_true, true_and, or_true, true_or, Bool.not_true, Bool.not_false, pour_spend, spend_pour, f1, r1, r2, ten9, n1, n2, show (8 : Int).toNat = 8 from rfl]
end Lw

namespace Lw
open PySem PySem.Spec PyProof.Rows L2 Fi
def top (i : Nat) : Stmt := PySem.Challenge.pw_fillorder_k21_whole_unknown_amounts.main.body.getD i (.Pass ⟨0, 0, 0, 0⟩)
abbrev s_poured : Stmt := top 1
abbrev N_poured : List Str := ["caps", "levels", "amount", "result", "cap", "level", "taken"]
theorem sc_poured : FnScope N_poured ["caps", "levels", "amount"] (defScope s_poured) := ⟨rfl, rfl, rfl, by decide +kernel, rfl, by decide +kernel, by decide +kernel⟩
abbrev s_run : Stmt := top 2
abbrev N_run : List Str := ["caps", "levels", "script", "lost", "step", "left", "place", "amount"]
theorem sc_run : FnScope N_run ["caps", "levels", "script"] (defScope s_run) := ⟨rfl, rfl, rfl, by decide +kernel, rfl, by decide +kernel, by decide +kernel⟩
abbrev s_with_amount : Stmt := top 4
abbrev N_with_amount : List Str := ["script", "index", "amount"]
theorem sc_with_amount : FnScope N_with_amount ["script", "index", "amount"] (defScope s_with_amount) := ⟨rfl, rfl, rfl, by decide +kernel, rfl, by decide +kernel, by decide +kernel⟩
abbrev s_judged : Stmt := top 5
abbrev N_judged : List Str := ["caps", "levels", "script", "index", "final", "amount", "found", "pairs", "one", "other"]
theorem sc_judged : FnScope N_judged ["caps", "levels", "script", "index", "final", "amount"] (defScope s_judged) := ⟨rfl, rfl, rfl, by decide +kernel, rfl, by decide +kernel, by decide +kernel⟩
abbrev s_first_amount : Stmt := top 6
abbrev N_first_amount : List Str := ["caps", "levels", "script", "index", "final", "which", "wanted", "low", "high", "middle"]
theorem sc_first_amount : FnScope N_first_amount ["caps", "levels", "script", "index", "final", "which", "wanted"] (defScope s_first_amount) := ⟨rfl, rfl, rfl, by decide +kernel, rfl, by decide +kernel, by decide +kernel⟩
abbrev s_largest_amount : Stmt := top 7
abbrev N_largest_amount : List Str := ["caps", "script", "index"]
theorem sc_largest_amount : FnScope N_largest_amount ["caps", "script", "index"] (defScope s_largest_amount) := ⟨rfl, rfl, rfl, by decide +kernel, rfl, by decide +kernel, by decide +kernel⟩
abbrev s_fitting_amounts : Stmt := top 8
abbrev N_fitting_amounts : List Str := ["caps", "levels", "script", "index", "final", "poured", "low", "high"]
theorem sc_fitting_amounts : FnScope N_fitting_amounts ["caps", "levels", "script", "index", "final"] (defScope s_fitting_amounts) := ⟨rfl, rfl, rfl, by decide +kernel, rfl, by decide +kernel, by decide +kernel⟩
abbrev s__law_cell : Stmt := top 10
abbrev N__law_cell : List Str := ["script", "index"]
theorem sc__law_cell : FnScope N__law_cell ["script", "index"] (defScope s__law_cell) := ⟨rfl, rfl, rfl, by decide +kernel, rfl, by decide +kernel, by decide +kernel⟩
abbrev s__law_digits : Stmt := top 11
abbrev N__law_digits : List Str := ["script", "index", "count", "base", "primes", "cell", "rest", "digits", "k", "mixed"]
theorem sc__law_digits : FnScope N__law_digits ["script", "index", "count", "base"] (defScope s__law_digits) := ⟨rfl, rfl, rfl, by decide +kernel, rfl, by decide +kernel, by decide +kernel⟩
abbrev s__law_caps : Stmt := top 12
abbrev N__law_caps : List Str := ["digits", "most", "top", "digit"]
theorem sc__law_caps : FnScope N__law_caps ["digits", "most", "top"] (defScope s__law_caps) := ⟨rfl, rfl, rfl, by decide +kernel, rfl, by decide +kernel, by decide +kernel⟩
abbrev s__law_levels : Stmt := top 13
abbrev N__law_levels : List Str := ["digits", "caps", "levels", "cap", "digit", "way"]
theorem sc__law_levels : FnScope N__law_levels ["digits", "caps"] (defScope s__law_levels) := ⟨rfl, rfl, rfl, by decide +kernel, rfl, by decide +kernel, by decide +kernel⟩
abbrev s__law_script : Stmt := top 14
abbrev N__law_script : List Str := ["digits", "caps", "size", "script", "k", "place", "kind", "digit"]
theorem sc__law_script : FnScope N__law_script ["digits", "caps", "size"] (defScope s__law_script) := ⟨rfl, rfl, rfl, by decide +kernel, rfl, by decide +kernel, by decide +kernel⟩
abbrev s__law_run : Stmt := top 15
abbrev N__law_run : List Str := ["caps", "levels", "script", "step", "now", "lost", "rest", "place", "cap", "part"]
theorem sc__law_run : FnScope N__law_run ["caps", "levels", "script"] (defScope s__law_run) := ⟨rfl, rfl, rfl, by decide +kernel, rfl, by decide +kernel, by decide +kernel⟩
abbrev s__law_possible : Stmt := top 16
abbrev N__law_possible : List Str := ["caps", "levels", "script", "good", "step"]
theorem sc__law_possible : FnScope N__law_possible ["caps", "levels", "script"] (defScope s__law_possible) := ⟨rfl, rfl, rfl, by decide +kernel, rfl, by decide +kernel, by decide +kernel⟩
abbrev s__law_with : Stmt := top 17
abbrev N__law_with : List Str := ["steps", "index", "amount"]
theorem sc__law_with : FnScope N__law_with ["steps", "index", "amount"] (defScope s__law_with) := ⟨rfl, rfl, rfl, by decide +kernel, rfl, by decide +kernel, by decide +kernel⟩
abbrev s__law_fits : Stmt := top 18
abbrev N__law_fits : List Str := ["caps", "levels", "steps", "final", "found"]
theorem sc__law_fits : FnScope N__law_fits ["caps", "levels", "steps", "final"] (defScope s__law_fits) := ⟨rfl, rfl, rfl, by decide +kernel, rfl, by decide +kernel, by decide +kernel⟩
abbrev s__law_right : Stmt := top 19
abbrev N__law_right : List Str := ["caps", "levels", "steps", "k", "wanted", "small", "found", "amount", "near", "good", "low", "high", "step"]
theorem sc__law_right : FnScope N__law_right ["caps", "levels", "steps", "k", "wanted", "small"] (defScope s__law_right) := ⟨rfl, rfl, rfl, by decide +kernel, rfl, by decide +kernel, by decide +kernel⟩
abbrev s_law : Stmt := top 20
abbrev N_law : List Str := ["script", "index", "digits", "top", "caps", "levels", "steps", "final", "less", "wanted", "turn", "level"]
theorem sc_law : FnScope N_law ["script"] (defScope s_law) := ⟨rfl, rfl, rfl, by decide +kernel, rfl, by decide +kernel, by decide +kernel⟩
/-! ### what the top has left -/
structure Tx (K : PySem.W.Frag) (mg : Str → Option Value) : Prop where
  d_poured : ∃ fd, FnP K "poured" s_poured (He.ga K "poured") fd
  g_poured : mg "poured" = some (.ref (He.ga K "poured"))
  d_run : ∃ fd, FnP K "run" s_run (He.ga K "run") fd
  g_run : mg "run" = some (.ref (He.ga K "run"))
  d_with_amount : ∃ fd, FnP K "with_amount" s_with_amount (He.ga K "with_amount") fd
  g_with_amount : mg "with_amount" = some (.ref (He.ga K "with_amount"))
  d_judged : ∃ fd, FnP K "judged" s_judged (He.ga K "judged") fd
  g_judged : mg "judged" = some (.ref (He.ga K "judged"))
  d_first_amount : ∃ fd, FnP K "first_amount" s_first_amount (He.ga K "first_amount") fd
  g_first_amount : mg "first_amount" = some (.ref (He.ga K "first_amount"))
  d_largest_amount : ∃ fd, FnP K "largest_amount" s_largest_amount (He.ga K "largest_amount") fd
  g_largest_amount : mg "largest_amount" = some (.ref (He.ga K "largest_amount"))
  d_fitting_amounts : ∃ fd, FnP K "fitting_amounts" s_fitting_amounts (He.ga K "fitting_amounts") fd
  g_fitting_amounts : mg "fitting_amounts" = some (.ref (He.ga K "fitting_amounts"))
  d__law_cell : ∃ fd, FnP K "_law_cell" s__law_cell (He.ga K "_law_cell") fd
  g__law_cell : mg "_law_cell" = some (.ref (He.ga K "_law_cell"))
  d__law_digits : ∃ fd, FnP K "_law_digits" s__law_digits (He.ga K "_law_digits") fd
  g__law_digits : mg "_law_digits" = some (.ref (He.ga K "_law_digits"))
  d__law_caps : ∃ fd, FnP K "_law_caps" s__law_caps (He.ga K "_law_caps") fd
  g__law_caps : mg "_law_caps" = some (.ref (He.ga K "_law_caps"))
  d__law_levels : ∃ fd, FnP K "_law_levels" s__law_levels (He.ga K "_law_levels") fd
  g__law_levels : mg "_law_levels" = some (.ref (He.ga K "_law_levels"))
  d__law_script : ∃ fd, FnP K "_law_script" s__law_script (He.ga K "_law_script") fd
  g__law_script : mg "_law_script" = some (.ref (He.ga K "_law_script"))
  d__law_run : ∃ fd, FnP K "_law_run" s__law_run (He.ga K "_law_run") fd
  g__law_run : mg "_law_run" = some (.ref (He.ga K "_law_run"))
  d__law_possible : ∃ fd, FnP K "_law_possible" s__law_possible (He.ga K "_law_possible") fd
  g__law_possible : mg "_law_possible" = some (.ref (He.ga K "_law_possible"))
  d__law_with : ∃ fd, FnP K "_law_with" s__law_with (He.ga K "_law_with") fd
  g__law_with : mg "_law_with" = some (.ref (He.ga K "_law_with"))
  d__law_fits : ∃ fd, FnP K "_law_fits" s__law_fits (He.ga K "_law_fits") fd
  g__law_fits : mg "_law_fits" = some (.ref (He.ga K "_law_fits"))
  d__law_right : ∃ fd, FnP K "_law_right" s__law_right (He.ga K "_law_right") fd
  g__law_right : mg "_law_right" = some (.ref (He.ga K "_law_right"))
  d_law : ∃ fd, FnP K "law" s_law (He.ga K "law") fd
  g_law : mg "law" = some (.ref (He.ga K "law"))
  n_all : mg "all" = none
  n_enumerate : mg "enumerate" = none
  n_int : mg "int" = none
  n_len : mg "len" = none
  n_list : mg "list" = none
  n_max : mg "max" = none
  n_min : mg "min" = none
  n_range : mg "range" = none
  n_sum : mg "sum" = none
  n_tuple : mg "tuple" = none
  n_zip : mg "zip" = none
section
variable {P : Program} {w : World} {K : PySem.W.Frag} {mg : Str → Option Value} {base : Heap}
theorem k_poured (T : Tx K mg) : Known P w K mg base 1 "poured" 3 F_poured :=
  known_mk T.d_poured T.g_poured sc_poured rfl rfl (fun _ _ _ _ _ _ us hl => match us, hl with | [_, _, _], _ => rfl) fun cdv A outer s H E hr =>
    (s_cons (s_own 3 sc_poured.nd (l_lst a_nil))
    (s_cons (s_for PassesOwn.never rfl (i_zip .t .t rfl T.n_zip (a_cons (x_var 0) (a_cons (x_var 1) a_nil))) (g_tup rfl (gs_cons (g_name 4 sc_poured.nd) (gs_cons (g_name 5 sc_poured.nd) (gs_nil (m := false))))) (s_cons (s_set 6 sc_poured.nd (x_callB (cd_min rfl) rfl T.n_min (by decide +kernel) (a_cons (x_var 2) (a_cons (x_bin od_sub (x_var 4) (x_var 5)) a_nil))))
    (s_cons (s_app 3 (x_bin od_add (x_var 5) (x_var 6)))
    (s_one (s_aug 2 sc_poured.nd (x_var 6) ip_sub)))))
    (s_frz 3 (s_one (s_ret (x_tup (a_cons (x_callTy cd_tuple rfl T.n_tuple (by decide +kernel) (a_cons (x_var 3) a_nil)) (a_cons (x_var 2) a_nil))))))))
theorem k_with_amount (T : Tx K mg) : Known P w K mg base 1 "with_amount" 3 F_with_amount :=
  known_mk T.d_with_amount T.g_with_amount sc_with_amount rfl rfl (fun _ _ _ _ _ _ us hl => match us, hl with | [_, _, _], _ => rfl) fun cdv A outer s H E hr =>
    (s_one (s_ret (x_bin od_add (x_bin od_add (x_slT (x_var 0) o_none (o_some (x_var 1))) (x_tup (a_cons (x_bin od_add (x_slT (x_ix (x_var 0) (x_var 1) (fun _ _ => rfl)) o_none (o_some (x_neg x_int))) (x_tup (a_cons (x_var 2) a_nil))) a_nil))) (x_slT (x_var 0) (o_some (x_bin od_add (x_var 1) x_int)) o_none))))
theorem k_largest_amount (T : Tx K mg) : Known P w K mg base 1 "largest_amount" 3 F_largest_amount :=
  known_mk T.d_largest_amount T.g_largest_amount sc_largest_amount rfl rfl (fun _ _ _ _ _ _ us hl => match us, hl with | [_, _, _], _ => rfl) fun cdv A outer s H E hr =>
    (s_one (s_ret (x_if (t_cmp (od_eq hr.units) (x_ix (x_ix (x_var 1) (x_var 2) (fun _ _ => rfl)) x_int (fun _ _ => rfl)) x_str (nomark _)) x_int (x_ix (x_var 0) (x_ix (x_ix (x_var 1) (x_var 2) (fun _ _ => rfl)) x_int (fun _ _ => rfl)) (fun _ _ => rfl)))))
theorem k__law_cell (T : Tx K mg) : Known P w K mg base 1 "_law_cell" 2 F__law_cell :=
  known_mk T.d__law_cell T.g__law_cell sc__law_cell rfl rfl (fun _ _ _ _ _ _ us hl => match us, hl with | [_, _], _ => rfl) fun cdv A outer s H E hr =>
    (s_cons (s_if (t_cmp od_lt (x_var 1) (x_callB cd_len rfl T.n_len PySem.boot_len (a_cons (x_var 0) a_nil)) (nomark _)) (s_one (s_ret (x_ix (x_var 0) (x_var 1) (fun _ _ => rfl)))) s_nil)
    (s_cons (s_if (t_cmp (od_eq hr.units) (x_callB cd_len rfl T.n_len PySem.boot_len (a_cons (x_var 0) a_nil)) x_int (nomark _)) (s_one (s_ret (x_bin od_add (x_bin od_mul x_int (x_var 1)) x_int))) s_nil)
    (s_one (s_ret (x_bin od_add (x_bin od_mod (x_ix (x_var 0) (x_bin od_mod (x_var 1) (x_callB cd_len rfl T.n_len PySem.boot_len (a_cons (x_var 0) a_nil))) (fun _ _ => rfl)) x_int) (x_bin od_mul x_int (x_var 1)))))))
theorem k__law_caps (T : Tx K mg) : Known P w K mg base 1 "_law_caps" 3 F__law_caps :=
  known_mk T.d__law_caps T.g__law_caps sc__law_caps rfl rfl (fun _ _ _ _ _ _ us hl => match us, hl with | [_, _, _], _ => rfl) fun cdv A outer s H E hr =>
    (s_one (s_ret (x_callTy cd_tuple rfl T.n_tuple (by decide +kernel) (a_cons (x_L (l_lc rfl sc__law_caps.nd (i_list (x_L (l_sl (x_var 0) (o_some x_int) (o_some (x_bin od_add x_int (x_bin od_mod (x_ix (x_var 0) x_int (fun _ _ => rfl)) (x_var 1))))))) (blkOk_by (own := [("digit", 3)]) (N := N__law_caps) (sc := defScope s__law_caps) (by decide +kernel)) (fun _ _ _ _ _ => (g_name 3 sc__law_caps.nd)) (fun _ _ _ _ _ => q_nil) (fun _ _ _ _ _ => (x_bin od_add x_int (x_bin od_mod (x_var 3) (x_var 2)))))) a_nil))))
theorem k__law_levels (T : Tx K mg) : Known P w K mg base 1 "_law_levels" 2 F__law_levels :=
  known_mk T.d__law_levels T.g__law_levels sc__law_levels rfl rfl (fun _ _ _ _ _ _ us hl => match us, hl with | [_, _], _ => rfl) fun cdv A outer s H E hr =>
    (s_cons (s_set 2 sc__law_levels.nd (x_tup a_nil))
    (s_cons (s_for PassesOwn.never rfl (i_zip .t .l rfl T.n_zip (a_cons (x_var 1) (a_cons (x_var 0) a_nil))) (g_tup rfl (gs_cons (g_name 3 sc__law_levels.nd) (gs_cons (g_name 4 sc__law_levels.nd) (gs_nil (m := false))))) (s_cons (s_set 5 sc__law_levels.nd (x_bin od_mod (x_bin od_div (x_var 4) x_int) x_int))
    (s_one (s_if (t_cmp (od_eq hr.units) (x_var 5) x_int (nomark _)) (s_one (s_set 2 sc__law_levels.nd (x_bin od_add (x_var 2) (x_tup (a_cons (x_var 3) a_nil))))) (s_one (s_if (t_cmp (od_eq hr.units) (x_var 5) x_int (nomark _)) (s_one (s_set 2 sc__law_levels.nd (x_bin od_add (x_var 2) (x_tup (a_cons x_int a_nil))))) (s_one (s_set 2 sc__law_levels.nd (x_bin od_add (x_var 2) (x_tup (a_cons (x_bin od_mod (x_var 4) (x_bin od_add (x_var 3) x_int)) a_nil)))))))))))
    (s_one (s_ret (x_var 2)))))
theorem k__law_script (T : Tx K mg) : Known P w K mg base 1 "_law_script" 3 F__law_script :=
  known_mk T.d__law_script T.g__law_script sc__law_script rfl rfl (fun _ _ _ _ _ _ us hl => match us, hl with | [_, _, _], _ => rfl) fun cdv A outer s H E hr =>
    (s_cons (s_own 3 sc__law_script.nd (l_lst a_nil))
    (s_cons (s_for PassesOwn.never rfl (i_range1 rfl T.n_range (a_cons (x_bin od_mod (x_ix (x_var 0) x_int (fun _ _ => rfl)) (x_bin od_add (x_var 2) x_int)) a_nil)) (g_name 4 sc__law_script.nd) (s_cons (s_par 6 7 rfl sc__law_script.nd (a_cons (x_ix (x_var 0) (x_bin od_add x_int (x_bin od_mul x_int (x_var 4))) (fun _ _ => rfl)) (a_cons (x_ix (x_var 0) (x_bin od_add x_int (x_bin od_mul x_int (x_var 4))) (fun _ _ => rfl)) a_nil)))
    (s_cons (s_set 5 sc__law_script.nd (x_bin od_mod (x_ix (x_var 0) (x_bin od_add x_int (x_bin od_mul x_int (x_var 4))) (fun _ _ => rfl)) (x_callB cd_len rfl T.n_len PySem.boot_len (a_cons (x_var 1) a_nil))))
    (s_one (s_if (t_cmp (od_eq hr.units) (x_bin od_mod (x_var 6) x_int) x_int (nomark _)) (s_one (s_app 3 (x_tup (a_cons x_str (a_cons (x_bin od_mod (x_var 7) (x_bin od_add x_int (x_callB (cd_sum rfl) rfl T.n_sum (by decide +kernel) (a_cons (x_slT (x_var 1) o_none (o_some (x_bin od_add (x_var 5) x_int))) a_nil)))) a_nil))))) (s_one (s_app 3 (x_tup (a_cons x_str (a_cons (x_var 5) (a_cons (x_bin od_mod (x_var 7) (x_bin od_add x_int (x_ix (x_L (l_lst (a_cons (x_ix (x_var 1) (x_var 5) (fun _ _ => rfl)) (a_cons (x_bin od_add x_int (x_bin od_div (x_ix (x_var 1) (x_var 5) (fun _ _ => rfl)) x_int)) a_nil)))) (x_bin od_mod (x_bin od_div (x_var 6) x_int) x_int) (fun _ _ => rfl)))) a_nil)))))))))))
    (s_frz 3 (s_one (s_ret (x_callTy cd_tuple rfl T.n_tuple (by decide +kernel) (a_cons (x_var 3) a_nil)))))))
theorem k__law_run (T : Tx K mg) : Known P w K mg base 1 "_law_run" 3 F__law_run :=
  known_mk T.d__law_run T.g__law_run sc__law_run rfl rfl (fun _ _ _ _ _ _ us hl => match us, hl with | [_, _, _], _ => rfl) fun cdv A outer s H E hr =>
    (s_cons (s_parL 4 5 rfl sc__law_run.nd (l_callTy cl_list rfl T.n_list (by decide +kernel) (a_cons (x_var 1) a_nil)) x_int)
    (s_cons (s_for PassesOwn.never rfl (i_tup (x_var 2)) (g_name 3 sc__law_run.nd) (s_one (s_if (t_cmp (od_eq hr.units) (x_ix (x_var 3) x_int (fun _ _ => rfl)) x_str (nomark _)) (s_cons (s_if (t_cmp od_gt (x_ix (x_var 3) x_int (fun _ _ => rfl)) (x_ownIx 4 (x_ix (x_var 3) x_int (fun _ _ => rfl)) (fun _ _ => rfl)) (nomark _)) (s_one (s_ret x_non)) s_nil)
    (s_one (s_asg (x_bin od_sub (x_ownIx 4 (x_ix (x_var 3) x_int (fun _ _ => rfl)) (fun _ _ => rfl)) (x_ix (x_var 3) x_int (fun _ _ => rfl))) (g_sub 4 (he := (x_ix (x_var 3) x_int (fun _ _ => rfl))))))) (s_cons (s_set 6 sc__law_run.nd (x_ix (x_var 3) x_int (fun _ _ => rfl)))
    (s_cons (s_for PassesOwn.never rfl (i_enum .t rfl T.n_enumerate (a_cons (x_var 0) a_nil)) (g_tup rfl (gs_cons (g_name 7 sc__law_run.nd) (gs_cons (g_name 8 sc__law_run.nd) (gs_nil (m := false))))) (s_cons (s_set 9 sc__law_run.nd (x_if (t_cmp od_gt (x_var 6) (x_bin od_sub (x_var 8) (x_ownIx 4 (x_var 7) (fun _ _ => rfl))) (nomark _)) (x_bin od_sub (x_var 8) (x_ownIx 4 (x_var 7) (fun _ _ => rfl))) (x_var 6)))
    (s_one (s_asg (x_tup (a_cons (x_bin od_add (x_ownIx 4 (x_var 7) (fun _ _ => rfl)) (x_var 9)) (a_cons (x_bin od_sub (x_var 6) (x_var 9)) a_nil))) (g_tup rfl (gs_cons (g_sub 4 (he := (x_var 7))) (gs_cons (g_name 6 sc__law_run.nd) (gs_nil (m := false)))))))))
    (s_one (s_set 5 sc__law_run.nd (x_bin od_add (x_var 5) (x_var 6)))))))))
    (s_frz 4 (s_one (s_ret (x_tup (a_cons (x_callTy cd_tuple rfl T.n_tuple (by decide +kernel) (a_cons (x_var 4) a_nil)) (a_cons (x_var 5) a_nil))))))))
theorem k__law_with (T : Tx K mg) : Known P w K mg base 1 "_law_with" 3 F__law_with :=
  known_mk T.d__law_with T.g__law_with sc__law_with rfl rfl (fun _ _ _ _ _ _ us hl => match us, hl with | [_, _, _], _ => rfl) fun cdv A outer s H E hr =>
    (s_one (s_ret (x_bin od_add (x_bin od_add (x_slT (x_var 0) o_none (o_some (x_var 1))) (x_tup (a_cons (x_bin od_add (x_slT (x_ix (x_var 0) (x_var 1) (fun _ _ => rfl)) o_none (o_some (x_neg x_int))) (x_tup (a_cons (x_var 2) a_nil))) a_nil))) (x_slT (x_var 0) (o_some (x_bin od_add (x_var 1) x_int)) o_none))))
theorem k_run (T : Tx K mg) : Known P w K mg base 2 "run" 3 F_run :=
  known_mk T.d_run T.g_run sc_run rfl rfl (fun _ _ _ _ _ _ us hl => match us, hl with | [_, _, _], _ => rfl) fun cdv A outer s H E hr =>
    (s_cons (s_set 3 sc_run.nd x_int)
    (s_cons (s_for PassesOwn.never rfl (i_tup (x_var 2)) (g_name 4 sc_run.nd) (s_one (s_if (t_cmp (od_eq hr.units) (x_ix (x_var 4) x_int (fun _ _ => rfl)) x_str (nomark _)) (s_cons (s_asg (x_fn (k_poured T) hr (a_cons (x_var 0) (a_cons (x_var 1) (a_cons (x_ix (x_var 4) x_int (fun _ _ => rfl)) a_nil))) (ln_cons (ln_cons (ln_cons ln_nil)))) (g_tup rfl (gs_cons (g_name 1 sc_run.nd) (gs_cons (g_name 5 sc_run.nd) (gs_nil (m := false))))))
    (s_one (s_aug 3 sc_run.nd (x_var 5) ip_add))) (s_cons (s_par 6 7 rfl sc_run.nd (a_cons (x_ix (x_var 4) x_int (fun _ _ => rfl)) (a_cons (x_ix (x_var 4) x_int (fun _ _ => rfl)) a_nil)))
    (s_cons (s_if (t_cmp od_lt (x_ix (x_var 1) (x_var 6) (fun _ _ => rfl)) (x_var 7) (nomark _)) (s_one (s_ret x_non)) s_nil)
    (s_one (s_set 1 sc_run.nd (x_bin od_add (x_bin od_add (x_slT (x_var 1) o_none (o_some (x_var 6))) (x_tup (a_cons (x_bin od_sub (x_ix (x_var 1) (x_var 6) (fun _ _ => rfl)) (x_var 7)) a_nil))) (x_slT (x_var 1) (o_some (x_bin od_add (x_var 6) x_int)) o_none)))))))))
    (s_one (s_ret (x_tup (a_cons (x_var 1) (a_cons (x_var 3) a_nil)))))))
theorem k__law_digits (T : Tx K mg) : Known P w K mg base 2 "_law_digits" 4 F__law_digits :=
  known_mk T.d__law_digits T.g__law_digits sc__law_digits rfl rfl (fun _ _ _ _ _ _ us hl => match us, hl with | [_, _, _, _], _ => rfl) fun cdv A outer s H E hr =>
    (s_cons (s_set 4 sc__law_digits.nd (x_tup (a_cons x_int (a_cons x_int (a_cons x_int (a_cons x_int (a_cons x_int (a_cons x_int (a_cons x_int (a_cons x_int a_nil))))))))))
    (s_cons (s_set 5 sc__law_digits.nd (x_fn (k__law_cell T) hr (a_cons (x_var 0) (a_cons (x_var 1) a_nil)) (ln_cons (ln_cons ln_nil))))
    (s_cons (s_set 6 sc__law_digits.nd (x_if (t_cmp od_ge (x_var 5) (x_bin od_pow x_int x_int) (nomark _)) (x_var 5) x_int))
    (s_cons (s_own 7 sc__law_digits.nd (l_lst a_nil))
    (s_cons (s_for PassesOwn.never rfl (i_range1 rfl T.n_range (a_cons (x_var 2) a_nil)) (g_name 8 sc__law_digits.nd) (s_cons (s_set 9 sc__law_digits.nd (x_bin od_mul (x_bin od_mod (x_var 5) (x_ix (x_var 4) (x_bin od_mod (x_var 8) x_int) (fun _ _ => rfl))) (x_bin od_add x_int (x_bin od_mul (x_bin od_mul x_int (x_var 8)) (x_var 8)))))
    (s_cons (s_set 9 sc__law_digits.nd (x_bin od_add (x_bin od_add (x_var 9) (x_bin od_mul (x_bin od_mul x_int (x_bin od_add (x_var 8) x_int)) (x_bin od_add (x_var 8) x_int))) (x_bin od_mul x_int (x_var 1))))
    (s_cons (s_set 9 sc__law_digits.nd (x_bin od_mod (x_var 9) (x_ix (x_var 4) (x_bin od_mod (x_bin od_add (x_bin od_mul x_int (x_var 8)) (x_var 1)) x_int) (fun _ _ => rfl))))
    (s_cons (s_set 9 sc__law_digits.nd (x_bin od_mod (x_bin od_mul (x_bin od_mul (x_var 9) (x_var 9)) (x_var 9)) (x_ix (x_var 4) (x_bin od_mod (x_bin od_add (x_var 8) x_int) x_int) (fun _ _ => rfl))))
    (s_cons (s_if (t_cmp od_gt (x_var 6) x_int (nomark _)) (s_one (s_set 9 sc__law_digits.nd (x_var 6))) s_nil)
    (s_cons (s_app 7 (x_bin od_mod (x_var 9) (x_var 3)))
    (s_one (s_set 6 sc__law_digits.nd (x_bin od_div (x_var 6) (x_var 3)))))))))))
    (s_one (s_retO 7)))))))
theorem k__law_possible (T : Tx K mg) : Known P w K mg base 2 "_law_possible" 3 F__law_possible :=
  known_mk T.d__law_possible T.g__law_possible sc__law_possible rfl rfl (fun _ _ _ _ _ _ us hl => match us, hl with | [_, _, _], _ => rfl) fun cdv A outer s H E hr =>
    (s_cons (s_set 3 sc__law_possible.nd (x_tup a_nil))
    (s_cons (s_for PassesOwn.never rfl (i_tup (x_var 2)) (g_name 4 sc__law_possible.nd) (s_cons (s_if (t_cmp od_is (x_fn (k__law_run T) hr (a_cons (x_var 0) (a_cons (x_var 1) (a_cons (x_bin od_add (x_var 3) (x_tup (a_cons (x_var 4) a_nil))) a_nil))) (ln_cons (ln_cons (ln_cons ln_nil)))) x_non (nomark _)) (s_one (s_ret (x_var 3))) s_nil)
    (s_one (s_set 3 sc__law_possible.nd (x_bin od_add (x_var 3) (x_tup (a_cons (x_var 4) a_nil)))))))
    (s_one (s_ret (x_var 3)))))
theorem k__law_fits (T : Tx K mg) : Known P w K mg base 2 "_law_fits" 4 F__law_fits :=
  known_mk T.d__law_fits T.g__law_fits sc__law_fits rfl rfl (fun _ _ _ _ _ _ us hl => match us, hl with | [_, _, _, _], _ => rfl) fun cdv A outer s H E hr =>
    (s_cons (s_set 4 sc__law_fits.nd (x_fn (k__law_run T) hr (a_cons (x_var 0) (a_cons (x_var 1) (a_cons (x_var 2) a_nil))) (ln_cons (ln_cons (ln_cons ln_nil)))))
    (s_one (s_ret (x_and (x_cmp od_isNot (x_var 4) x_non (nomark _)) (x_one (x_cmp (od_eq hr.units) (x_ix (x_var 4) x_int (fun _ _ => rfl)) (x_var 3) (nomark _)))))))
theorem k_judged (T : Tx K mg) : Known P w K mg base 3 "judged" 6 F_judged :=
  known_mk T.d_judged T.g_judged sc_judged rfl rfl (fun _ _ _ _ _ _ us hl => match us, hl with | [_, _, _, _, _, _], _ => rfl) fun cdv A outer s H E hr =>
    (s_cons (s_set 6 sc_judged.nd (x_fn (k_run T) hr (a_cons (x_var 0) (a_cons (x_var 1) (a_cons (x_fn (k_with_amount T) hr (a_cons (x_var 2) (a_cons (x_var 3) (a_cons (x_var 5) a_nil))) (ln_cons (ln_cons (ln_cons ln_nil)))) a_nil))) (ln_cons (ln_cons (ln_cons ln_nil)))))
    (s_cons (s_if (t_cmp od_is (x_var 6) x_non (nomark _)) (s_one (s_ret (x_tup (a_cons x_bl (a_cons x_bl a_nil))))) s_nil)
    (s_cons (s_set 7 sc_judged.nd (x_L (l_listZip .t .t rfl rfl T.n_list rfl T.n_zip (a_cons (x_ix (x_var 6) x_int (fun _ _ => rfl)) (a_cons (x_var 4) a_nil)))))
    (s_one (s_ret (x_tup (a_cons (x_callB (cd_all rfl) rfl T.n_all (by decide +kernel) (a_cons (x_L (l_lc rfl sc_judged.nd (i_list (x_var 7)) (blkOk_by (own := [("one", 8), ("other", 9)]) (N := N_judged) (sc := defScope s_judged) (by decide +kernel)) (fun _ _ _ _ _ => (g_tup rfl (gs_cons (g_name 8 sc_judged.nd) (gs_cons (g_name 9 sc_judged.nd) (gs_nil (m := false)))))) (fun _ _ _ _ _ => q_nil) (fun _ _ _ _ _ => (x_cmp od_ge (x_var 8) (x_var 9) (nomark _))))) a_nil)) (a_cons (x_callB (cd_all rfl) rfl T.n_all (by decide +kernel) (a_cons (x_L (l_lc rfl sc_judged.nd (i_list (x_var 7)) (blkOk_by (own := [("one", 8), ("other", 9)]) (N := N_judged) (sc := defScope s_judged) (by decide +kernel)) (fun _ _ _ _ _ => (g_tup rfl (gs_cons (g_name 8 sc_judged.nd) (gs_cons (g_name 9 sc_judged.nd) (gs_nil (m := false)))))) (fun _ _ _ _ _ => q_nil) (fun _ _ _ _ _ => (x_cmp od_le (x_var 8) (x_var 9) (nomark _))))) a_nil)) a_nil))))))))
theorem k_first_amount (T : Tx K mg) : Known P w K mg base 4 "first_amount" 7 F_first_amount :=
  known_mk T.d_first_amount T.g_first_amount sc_first_amount rfl rfl (fun _ _ _ _ _ _ us hl => match us, hl with | [_, _, _, _, _, _, _], _ => rfl) fun cdv A outer s H E hr =>
    (s_cons (s_par 7 8 rfl sc_first_amount.nd (a_cons x_int (a_cons (x_bin od_add (x_fn (k_largest_amount T) hr (a_cons (x_var 0) (a_cons (x_var 2) (a_cons (x_var 3) a_nil))) (ln_cons (ln_cons (ln_cons ln_nil)))) x_int) a_nil)))
    (s_cons (s_while 64 PassesOwn.never (t_cmp od_lt (x_var 7) (x_var 8) (nomark _)) (s_cons (s_set 9 sc_first_amount.nd (x_bin od_div (x_bin od_add (x_var 7) (x_var 8)) x_int))
    (s_one (s_if (t_cmp (od_eq hr.units) (x_ix (x_fn (k_judged T) hr (a_cons (x_var 0) (a_cons (x_var 1) (a_cons (x_var 2) (a_cons (x_var 3) (a_cons (x_var 4) (a_cons (x_var 9) a_nil)))))) (ln_cons (ln_cons (ln_cons (ln_cons (ln_cons (ln_cons ln_nil))))))) (x_var 5) (fun _ _ => rfl)) (x_var 6) (nomark _)) (s_one (s_set 8 sc_first_amount.nd (x_var 9))) (s_one (s_set 7 sc_first_amount.nd (x_bin od_add (x_var 9) x_int)))))))
    (s_one (s_ret (x_var 7)))))
theorem k_fitting_amounts (T : Tx K mg) : Known P w K mg base 5 "fitting_amounts" 5 F_fitting_amounts :=
  known_mk T.d_fitting_amounts T.g_fitting_amounts sc_fitting_amounts rfl rfl (fun _ _ _ _ _ _ us hl => match us, hl with | [_, _, _, _, _], _ => rfl) fun cdv A outer s H E hr =>
    (s_cons (s_set 5 sc_fitting_amounts.nd (x_callTy cd_int rfl T.n_int (by decide +kernel) (a_cons (x_cmp (od_eq hr.units) (x_ix (x_ix (x_var 2) (x_var 3) (fun _ _ => rfl)) x_int (fun _ _ => rfl)) x_str (nomark _)) a_nil)))
    (s_cons (s_set 6 sc_fitting_amounts.nd (x_fn (k_first_amount T) hr (a_cons (x_var 0) (a_cons (x_var 1) (a_cons (x_var 2) (a_cons (x_var 3) (a_cons (x_var 4) (a_cons (x_bin od_sub x_int (x_var 5)) (a_cons x_bl a_nil))))))) (ln_cons (ln_cons (ln_cons (ln_cons (ln_cons (ln_cons (ln_cons ln_nil)))))))))
    (s_cons (s_set 7 sc_fitting_amounts.nd (x_bin od_sub (x_fn (k_first_amount T) hr (a_cons (x_var 0) (a_cons (x_var 1) (a_cons (x_var 2) (a_cons (x_var 3) (a_cons (x_var 4) (a_cons (x_var 5) (a_cons x_bl a_nil))))))) (ln_cons (ln_cons (ln_cons (ln_cons (ln_cons (ln_cons (ln_cons ln_nil)))))))) x_int))
    (s_one (s_ret (x_if (t_cmp od_le (x_var 6) (x_var 7) (nomark _)) (x_tup (a_cons (x_var 6) (a_cons (x_var 7) a_nil))) x_non))))))
theorem k__law_right (T : Tx K mg) : Known P w K mg base 6 "_law_right" 6 F__law_right :=
  known_mk T.d__law_right T.g__law_right sc__law_right rfl rfl (fun _ _ _ _ _ _ us hl => match us, hl with | [_, _, _, _, _, _], _ => rfl) fun cdv A outer s H E hr =>
    (s_cons (s_set 6 sc__law_right.nd (x_fn (k_fitting_amounts T) hr (a_cons (x_var 0) (a_cons (x_var 1) (a_cons (x_fn (k__law_with T) hr (a_cons (x_var 2) (a_cons (x_var 3) (a_cons x_int a_nil))) (ln_cons (ln_cons (ln_cons ln_nil)))) (a_cons (x_var 3) (a_cons (x_var 4) a_nil))))) (ln_cons (ln_cons (ln_cons (ln_cons (ln_cons ln_nil)))))))
    (s_cons (s_if (t_cmp od_isNot (x_var 6) x_non (nomark _)) (s_cons (s_asg (x_var 6) (g_tup rfl (gs_cons (g_name 10 sc__law_right.nd) (gs_cons (g_name 11 sc__law_right.nd) (gs_nil (m := false))))))
    (s_cons (s_for PassesOwn.never rfl (i_tup (x_tup (a_cons (x_var 10) (a_cons (x_var 11) (a_cons (x_bin od_div (x_bin od_add (x_var 10) (x_var 11)) x_int) a_nil))))) (g_name 7 sc__law_right.nd) (s_one (s_if (t_not (t_val (x_fn (k__law_fits T) hr (a_cons (x_var 0) (a_cons (x_var 1) (a_cons (x_fn (k__law_with T) hr (a_cons (x_var 2) (a_cons (x_var 3) (a_cons (x_var 7) a_nil))) (ln_cons (ln_cons (ln_cons ln_nil)))) (a_cons (x_var 4) a_nil)))) (ln_cons (ln_cons (ln_cons (ln_cons ln_nil))))))) (s_one (s_ret x_bl)) s_nil)))
    (s_cons (s_set 8 sc__law_right.nd (x_L (l_cat (x_L (l_rep (l_lst (a_cons (x_bin od_sub (x_var 10) x_int) a_nil)) (x_callTy cd_int rfl T.n_int (by decide +kernel) (a_cons (x_cmp od_gt (x_var 10) x_int (nomark _)) a_nil)))) (x_L (l_rep (l_lst (a_cons (x_bin od_add (x_var 11) x_int) a_nil)) (x_callTy cd_int rfl T.n_int (by decide +kernel) (a_cons (x_cmp od_lt (x_var 11) (x_bin od_pow x_int x_int) (nomark _)) a_nil)))))))
    (s_one (s_if (t_cmp (od_ne hr.units) (x_L (l_lc rfl sc__law_right.nd (i_list (x_var 8)) (blkOk_by (own := [("amount", 7)]) (N := N__law_right) (sc := defScope s__law_right) (by decide +kernel)) (fun _ _ _ _ _ => (g_name 7 sc__law_right.nd)) (fun _ _ _ _ _ => (q_one (t_val (x_fn (k__law_fits T) hr (a_cons (x_var 0) (a_cons (x_var 1) (a_cons (x_fn (k__law_with T) hr (a_cons (x_var 2) (a_cons (x_var 3) (a_cons (x_var 7) a_nil))) (ln_cons (ln_cons (ln_cons ln_nil)))) (a_cons (x_var 4) a_nil)))) (ln_cons (ln_cons (ln_cons (ln_cons ln_nil)))))))) (fun _ _ _ _ _ => x_int))) (x_L (l_lst a_nil)) (nomark _)) (s_one (s_ret x_bl)) s_nil))))) s_nil)
    (s_cons (s_if (t_val (x_var 5)) (s_cons (s_own 9 sc__law_right.nd (l_lst a_nil))
    (s_cons (s_for PassesOwn.never rfl (i_range1 rfl T.n_range (a_cons (x_bin od_add (x_bin od_add (x_callB (cd_sum rfl) rfl T.n_sum (by decide +kernel) (a_cons (x_var 0) a_nil)) (x_callB (cd_sum rfl) rfl T.n_sum (by decide +kernel) (a_cons (x_L (l_lc rfl sc__law_right.nd (i_tup (x_var 2)) (blkOk_by (own := [("step", 12)]) (N := N__law_right) (sc := defScope s__law_right) (by decide +kernel)) (fun _ _ _ _ _ => (g_name 12 sc__law_right.nd)) (fun _ _ _ _ _ => q_nil) (fun _ _ _ _ _ => (x_ix (x_var 12) (x_neg x_int) (fun _ _ => rfl))))) a_nil))) x_int) a_nil)) (g_name 7 sc__law_right.nd) (s_one (s_if (t_val (x_fn (k__law_fits T) hr (a_cons (x_var 0) (a_cons (x_var 1) (a_cons (x_fn (k__law_with T) hr (a_cons (x_var 2) (a_cons (x_var 3) (a_cons (x_var 7) a_nil))) (ln_cons (ln_cons (ln_cons ln_nil)))) (a_cons (x_var 4) a_nil)))) (ln_cons (ln_cons (ln_cons (ln_cons ln_nil)))))) (s_one (s_app 9 (x_var 7))) s_nil)))
    (s_frz 9 (s_one (s_if (PW.pt (w_or (t_cmp (od_ne hr.units) (x_cmp od_is (x_var 6) x_non (nomark _)) (x_cmp (od_eq hr.units) (x_var 9) (x_L (l_lst a_nil)) (nomark _)) (nomark _)) (pw_or1 (PW.pt (w_and (t_cmp (od_ne hr.units) (x_var 9) (x_L (l_lst a_nil)) (nomark _)) (pw_and1 (t_cmp (od_ne hr.units) (x_ix (x_var 6) x_int (fun _ _ => rfl)) (x_ix (x_var 9) x_int (fun _ _ => rfl)) (nomark _)))))))) (s_one (s_ret x_bl)) s_nil))))) s_nil)
    (s_cons (s_if (t_val (x_fn (k__law_fits T) hr (a_cons (x_var 0) (a_cons (x_var 1) (a_cons (x_var 2) (a_cons (x_var 4) a_nil)))) (ln_cons (ln_cons (ln_cons (ln_cons ln_nil)))))) (s_one (s_ret (x_and (x_cmp od_isNot (x_var 6) x_non (nomark _)) (x_one (x_chain od_le od_le (x_ix (x_var 6) x_int (fun _ _ => rfl)) (x_ix (x_ix (x_var 2) (x_var 3) (fun _ _ => rfl)) (x_neg x_int) (fun _ _ => rfl)) (x_ix (x_var 6) x_int (fun _ _ => rfl))))))) s_nil)
    (s_one (s_ret x_bl))))))
theorem k_law (T : Tx K mg) : Known P w K mg base 7 "law" 1 F_law :=
  known_mk T.d_law T.g_law sc_law rfl rfl (fun _ _ _ _ _ _ us hl => match us, hl with | [_], _ => rfl) fun cdv A outer s H E hr =>
    (s_cons (s_for PassesOwn.never rfl (i_range1 rfl T.n_range (a_cons x_int a_nil)) (g_name 1 sc_law.nd) (s_cons (s_set 2 sc_law.nd (x_L (l_fn (k__law_digits T) hr (a_cons (x_var 0) (a_cons (x_var 1) (a_cons x_int (a_cons x_int a_nil)))) (ln_cons (ln_cons (ln_cons (ln_cons ln_nil)))))))
    (s_one (s_for PassesOwn.never rfl (i_tup (x_tup (a_cons x_int (a_cons x_int a_nil)))) (g_name 3 sc_law.nd) (s_cons (s_set 4 sc_law.nd (x_fn (k__law_caps T) hr (a_cons (x_var 2) (a_cons x_int (a_cons (x_var 3) a_nil))) (ln_cons (ln_cons (ln_cons ln_nil)))))
    (s_cons (s_set 5 sc_law.nd (x_fn (k__law_levels T) hr (a_cons (x_L (l_sl (x_var 2) (o_some x_int) o_none)) (a_cons (x_var 4) a_nil)) (ln_cons (ln_cons ln_nil))))
    (s_cons (s_set 6 sc_law.nd (x_fn (k__law_possible T) hr (a_cons (x_var 4) (a_cons (x_var 5) (a_cons (x_fn (k__law_script T) hr (a_cons (x_L (l_sl (x_var 2) (o_some x_int) o_none)) (a_cons (x_var 4) (a_cons (x_ix (x_L (l_lst (a_cons x_int (a_cons x_int a_nil)))) (x_bin od_mod (x_ix (x_var 2) x_int (fun _ _ => rfl)) x_int) (fun _ _ => rfl)) a_nil))) (ln_cons (ln_cons (ln_cons ln_nil)))) a_nil))) (ln_cons (ln_cons (ln_cons ln_nil)))))
    (s_cons (s_set 7 sc_law.nd (x_ix (x_fn (k__law_run T) hr (a_cons (x_var 4) (a_cons (x_var 5) (a_cons (x_var 6) a_nil))) (ln_cons (ln_cons (ln_cons ln_nil)))) x_int (fun _ _ => rfl)))
    (s_cons (s_set 8 sc_law.nd (x_callTy cd_tuple rfl T.n_tuple (by decide +kernel) (a_cons (x_L (l_lc rfl sc_law.nd (i_tup (x_var 7)) (blkOk_by (own := [("level", 11)]) (N := N_law) (sc := defScope s_law) (by decide +kernel)) (fun _ _ _ _ _ => (g_name 11 sc_law.nd)) (fun _ _ _ _ _ => q_nil) (fun _ _ _ _ _ => (x_callB (cd_max rfl) rfl T.n_max (by decide +kernel) (a_cons x_int (a_cons (x_bin od_sub (x_var 11) (x_bin od_mod (x_ix (x_var 2) x_int (fun _ _ => rfl)) x_int)) a_nil)))))) a_nil)))
    (s_one (s_for PassesOwn.never rfl (i_tup (x_tup (a_cons (x_var 7) (a_cons (x_var 8) (a_cons (x_var 4) (a_cons (x_var 5) a_nil)))))) (g_name 9 sc_law.nd) (s_one (s_for PassesOwn.never rfl (i_range1 rfl T.n_range (a_cons (x_callB (cd_min rfl) rfl T.n_min (by decide +kernel) (a_cons x_int (a_cons (x_callB cd_len rfl T.n_len PySem.boot_len (a_cons (x_var 6) a_nil)) a_nil))) a_nil)) (g_name 10 sc_law.nd) (s_one (s_if (t_not (t_val (x_fn (k__law_right T) hr (a_cons (x_var 4) (a_cons (x_var 5) (a_cons (x_var 6) (a_cons (x_bin od_mod (x_ix (x_var 2) (x_bin od_add x_int (x_var 10)) (fun _ _ => rfl)) (x_callB cd_len rfl T.n_len PySem.boot_len (a_cons (x_var 6) a_nil))) (a_cons (x_var 9) (a_cons (x_cmp (od_eq hr.units) (x_var 3) x_int (nomark _)) a_nil)))))) (ln_cons (ln_cons (ln_cons (ln_cons (ln_cons (ln_cons ln_nil))))))))) (s_one (s_ret x_bl)) s_nil)))))))))))))))
    (s_cons (s_if (t_cmp (od_ne hr.units) (x_fn (k_fitting_amounts T) hr (a_cons (x_tup (a_cons x_int (a_cons x_int a_nil))) (a_cons (x_tup (a_cons x_int (a_cons x_int a_nil))) (a_cons (x_tup (a_cons (x_tup (a_cons x_str (a_cons x_int a_nil))) a_nil)) (a_cons x_int (a_cons (x_tup (a_cons x_int (a_cons x_int a_nil))) a_nil))))) (ln_cons (ln_cons (ln_cons (ln_cons (ln_cons ln_nil)))))) (x_tup (a_cons x_int (a_cons (x_bin od_pow x_int x_int) a_nil))) (nomark _)) (s_one (s_ret x_bl)) s_nil)
    (s_one (s_ret (x_cmp (od_eq hr.units) (x_fn (k_fitting_amounts T) hr (a_cons (x_tup (a_cons x_int (a_cons x_int a_nil))) (a_cons (x_tup (a_cons x_int (a_cons x_int a_nil))) (a_cons (x_tup (a_cons (x_tup (a_cons x_str (a_cons x_int a_nil))) a_nil)) (a_cons x_int (a_cons (x_tup (a_cons x_int (a_cons x_int a_nil))) a_nil))))) (ln_cons (ln_cons (ln_cons (ln_cons (ln_cons ln_nil)))))) (x_tup (a_cons x_int (a_cons x_int a_nil))) (nomark _))))))
end
/-! ### the head -/
def dd_poured : He.DefD := ⟨("poured", none), "poured", "poured", defArgs s_poured, defBody s_poured, defScope s_poured, [], []⟩
def dd_run : He.DefD := ⟨("run", none), "run", "run", defArgs s_run, defBody s_run, defScope s_run, [], []⟩
def dd_with_amount : He.DefD := ⟨("with_amount", none), "with_amount", "with_amount", defArgs s_with_amount, defBody s_with_amount, defScope s_with_amount, [], []⟩
def dd_judged : He.DefD := ⟨("judged", none), "judged", "judged", defArgs s_judged, defBody s_judged, defScope s_judged, [], []⟩
def dd_first_amount : He.DefD := ⟨("first_amount", none), "first_amount", "first_amount", defArgs s_first_amount, defBody s_first_amount, defScope s_first_amount, [], []⟩
def dd_largest_amount : He.DefD := ⟨("largest_amount", none), "largest_amount", "largest_amount", defArgs s_largest_amount, defBody s_largest_amount, defScope s_largest_amount, [], []⟩
def dd_fitting_amounts : He.DefD := ⟨("fitting_amounts", none), "fitting_amounts", "fitting_amounts", defArgs s_fitting_amounts, defBody s_fitting_amounts, defScope s_fitting_amounts, [], []⟩
def dd__law_cell : He.DefD := ⟨("_law_cell", none), "_law_cell", "_law_cell", defArgs s__law_cell, defBody s__law_cell, defScope s__law_cell, [], []⟩
def dd__law_digits : He.DefD := ⟨("_law_digits", none), "_law_digits", "_law_digits", defArgs s__law_digits, defBody s__law_digits, defScope s__law_digits, [], []⟩
def dd__law_caps : He.DefD := ⟨("_law_caps", none), "_law_caps", "_law_caps", defArgs s__law_caps, defBody s__law_caps, defScope s__law_caps, [], []⟩
def dd__law_levels : He.DefD := ⟨("_law_levels", none), "_law_levels", "_law_levels", defArgs s__law_levels, defBody s__law_levels, defScope s__law_levels, [], []⟩
def dd__law_script : He.DefD := ⟨("_law_script", none), "_law_script", "_law_script", defArgs s__law_script, defBody s__law_script, defScope s__law_script, [], []⟩
def dd__law_run : He.DefD := ⟨("_law_run", none), "_law_run", "_law_run", defArgs s__law_run, defBody s__law_run, defScope s__law_run, [], []⟩
def dd__law_possible : He.DefD := ⟨("_law_possible", none), "_law_possible", "_law_possible", defArgs s__law_possible, defBody s__law_possible, defScope s__law_possible, [], []⟩
def dd__law_with : He.DefD := ⟨("_law_with", none), "_law_with", "_law_with", defArgs s__law_with, defBody s__law_with, defScope s__law_with, [], []⟩
def dd__law_fits : He.DefD := ⟨("_law_fits", none), "_law_fits", "_law_fits", defArgs s__law_fits, defBody s__law_fits, defScope s__law_fits, [], []⟩
def dd__law_right : He.DefD := ⟨("_law_right", none), "_law_right", "_law_right", defArgs s__law_right, defBody s__law_right, defScope s__law_right, [], []⟩
def dd_law : He.DefD := ⟨("law", none), "law", "law", defArgs s_law, defBody s_law, defScope s_law, [], []⟩
def fn : List He.DefD := [dd_poured, dd_run, dd_with_amount, dd_judged, dd_first_amount, dd_largest_amount, dd_fitting_amounts, dd__law_cell, dd__law_digits, dd__law_caps, dd__law_levels, dd__law_script, dd__law_run, dd__law_possible, dd__law_with, dd__law_fits, dd__law_right, dd_law]
def fa : List He.Fa := [.glo "poured", .glo "run", .glo "with_amount", .glo "judged", .glo "first_amount", .glo "largest_amount", .glo "fitting_amounts", .glo "_law_cell", .glo "_law_digits", .glo "_law_caps", .glo "_law_levels", .glo "_law_script", .glo "_law_run", .glo "_law_possible", .glo "_law_with", .glo "_law_fits", .glo "_law_right", .glo "law", .free "all", .free "enumerate", .free "int", .free "len", .free "list", .free "max", .free "min", .free "range", .free "sum", .free "tuple", .free "zip"]
abbrev R : PySem.W.OpenRow := PySem.W.OpenLaw.row PySem.Challenge.rw_fillorder_k21_whole_unknown_amounts
abbrev hk : PySem.W.Hook := He.hookD 4 fa fn
def ob (s : PySem.W.SharedT) : He.AlD := He.obsDG 4 fa fn (HandSHeadRun.getT s)
theorem ob_eq (s : PySem.W.SharedT) : ob s = hk.obs s.abs := He.obsDG_eq (HandSHeadRun.getT_eq s)
theorem run (w : World) : HandSHeadRun.RunEq R (PySem.W.view R.prog [20]) hk ob 4000 ["poured", "run", "with_amount", "judged", "first_amount", "largest_amount", "fitting_amounts", "_law_cell", "_law_digits", "_law_caps", "_law_levels", "_law_script", "_law_run", "_law_possible", "_law_with", "_law_fits", "_law_right"] w := by
  intro os
  kernel_rfl
theorem tx {K : PySem.W.Frag} {h : Heap} {mg : Str → Option Value} (X : K.In h) (G : h.Ns mainGlobals mg) (c : He.SaysD fa fn K) : Tx K mg where
  d_poured := c.def_ 0 (d := dd_poured) rfl
  g_poured := He.glo_ok X G (c.fact 0 (f := .glo "poured") rfl)
  d_run := c.def_ 1 (d := dd_run) rfl
  g_run := He.glo_ok X G (c.fact 1 (f := .glo "run") rfl)
  d_with_amount := c.def_ 2 (d := dd_with_amount) rfl
  g_with_amount := He.glo_ok X G (c.fact 2 (f := .glo "with_amount") rfl)
  d_judged := c.def_ 3 (d := dd_judged) rfl
  g_judged := He.glo_ok X G (c.fact 3 (f := .glo "judged") rfl)
  d_first_amount := c.def_ 4 (d := dd_first_amount) rfl
  g_first_amount := He.glo_ok X G (c.fact 4 (f := .glo "first_amount") rfl)
  d_largest_amount := c.def_ 5 (d := dd_largest_amount) rfl
  g_largest_amount := He.glo_ok X G (c.fact 5 (f := .glo "largest_amount") rfl)
  d_fitting_amounts := c.def_ 6 (d := dd_fitting_amounts) rfl
  g_fitting_amounts := He.glo_ok X G (c.fact 6 (f := .glo "fitting_amounts") rfl)
  d__law_cell := c.def_ 7 (d := dd__law_cell) rfl
  g__law_cell := He.glo_ok X G (c.fact 7 (f := .glo "_law_cell") rfl)
  d__law_digits := c.def_ 8 (d := dd__law_digits) rfl
  g__law_digits := He.glo_ok X G (c.fact 8 (f := .glo "_law_digits") rfl)
  d__law_caps := c.def_ 9 (d := dd__law_caps) rfl
  g__law_caps := He.glo_ok X G (c.fact 9 (f := .glo "_law_caps") rfl)
  d__law_levels := c.def_ 10 (d := dd__law_levels) rfl
  g__law_levels := He.glo_ok X G (c.fact 10 (f := .glo "_law_levels") rfl)
  d__law_script := c.def_ 11 (d := dd__law_script) rfl
  g__law_script := He.glo_ok X G (c.fact 11 (f := .glo "_law_script") rfl)
  d__law_run := c.def_ 12 (d := dd__law_run) rfl
  g__law_run := He.glo_ok X G (c.fact 12 (f := .glo "_law_run") rfl)
  d__law_possible := c.def_ 13 (d := dd__law_possible) rfl
  g__law_possible := He.glo_ok X G (c.fact 13 (f := .glo "_law_possible") rfl)
  d__law_with := c.def_ 14 (d := dd__law_with) rfl
  g__law_with := He.glo_ok X G (c.fact 14 (f := .glo "_law_with") rfl)
  d__law_fits := c.def_ 15 (d := dd__law_fits) rfl
  g__law_fits := He.glo_ok X G (c.fact 15 (f := .glo "_law_fits") rfl)
  d__law_right := c.def_ 16 (d := dd__law_right) rfl
  g__law_right := He.glo_ok X G (c.fact 16 (f := .glo "_law_right") rfl)
  d_law := c.def_ 17 (d := dd_law) rfl
  g_law := He.glo_ok X G (c.fact 17 (f := .glo "law") rfl)
  n_all := He.free_ok X G (c.fact 18 (f := .free "all") rfl)
  n_enumerate := He.free_ok X G (c.fact 19 (f := .free "enumerate") rfl)
  n_int := He.free_ok X G (c.fact 20 (f := .free "int") rfl)
  n_len := He.free_ok X G (c.fact 21 (f := .free "len") rfl)
  n_list := He.free_ok X G (c.fact 22 (f := .free "list") rfl)
  n_max := He.free_ok X G (c.fact 23 (f := .free "max") rfl)
  n_min := He.free_ok X G (c.fact 24 (f := .free "min") rfl)
  n_range := He.free_ok X G (c.fact 25 (f := .free "range") rfl)
  n_sum := He.free_ok X G (c.fact 26 (f := .free "sum") rfl)
  n_tuple := He.free_ok X G (c.fact 27 (f := .free "tuple") rfl)
  n_zip := He.free_ok X G (c.fact 28 (f := .free "zip") rfl)
theorem facts {P : Program} {w : World} {K : PySem.W.Frag} {h : Heap} {mg : Str → Option Value} {f : Addr} (X : K.In h) (G : h.Ns mainGlobals mg) (hfa : mg ("law" : Str) = some (.ref f)) (c : He.SaysD fa fn K) :
    ∃ fd : FuncData, (∀ (s : Shared) (v : Value), BindsTo s fd ⟨[v], []⟩ [("script", v)]) ∧ ∀ base : Heap, K.In base → base.Ns mainGlobals mg → FnOk P w K mg base CX0 7 f fd ["script"] (spD K 1 F_law) := by
  have T := tx X G c
  obtain ⟨fd, F⟩ := T.d_law
  have e := hfa.symm.trans T.g_law
  cases e
  have b := FunD.bindsA (ps := ["script"]) F fun _ _ _ _ _ _ us hl => match us, hl with | [_], _ => rfl
  refine ⟨fd, fun s v => b s [v] rfl, fun base _ _ => ?_⟩
  exact fnOk_mk F sc_law rfl rfl fun cdv A outer s H E hr =>
    (s_cons (s_for PassesOwn.never rfl (i_range1 rfl T.n_range (a_cons x_int a_nil)) (g_name 1 sc_law.nd) (s_cons (s_set 2 sc_law.nd (x_L (l_fn (k__law_digits T) hr (a_cons (x_var 0) (a_cons (x_var 1) (a_cons x_int (a_cons x_int a_nil)))) (ln_cons (ln_cons (ln_cons (ln_cons ln_nil)))))))
    (s_one (s_for PassesOwn.never rfl (i_tup (x_tup (a_cons x_int (a_cons x_int a_nil)))) (g_name 3 sc_law.nd) (s_cons (s_set 4 sc_law.nd (x_fn (k__law_caps T) hr (a_cons (x_var 2) (a_cons x_int (a_cons (x_var 3) a_nil))) (ln_cons (ln_cons (ln_cons ln_nil)))))
    (s_cons (s_set 5 sc_law.nd (x_fn (k__law_levels T) hr (a_cons (x_L (l_sl (x_var 2) (o_some x_int) o_none)) (a_cons (x_var 4) a_nil)) (ln_cons (ln_cons ln_nil))))
    (s_cons (s_set 6 sc_law.nd (x_fn (k__law_possible T) hr (a_cons (x_var 4) (a_cons (x_var 5) (a_cons (x_fn (k__law_script T) hr (a_cons (x_L (l_sl (x_var 2) (o_some x_int) o_none)) (a_cons (x_var 4) (a_cons (x_ix (x_L (l_lst (a_cons x_int (a_cons x_int a_nil)))) (x_bin od_mod (x_ix (x_var 2) x_int (fun _ _ => rfl)) x_int) (fun _ _ => rfl)) a_nil))) (ln_cons (ln_cons (ln_cons ln_nil)))) a_nil))) (ln_cons (ln_cons (ln_cons ln_nil)))))
    (s_cons (s_set 7 sc_law.nd (x_ix (x_fn (k__law_run T) hr (a_cons (x_var 4) (a_cons (x_var 5) (a_cons (x_var 6) a_nil))) (ln_cons (ln_cons (ln_cons ln_nil)))) x_int (fun _ _ => rfl)))
    (s_cons (s_set 8 sc_law.nd (x_callTy cd_tuple rfl T.n_tuple (by decide +kernel) (a_cons (x_L (l_lc rfl sc_law.nd (i_tup (x_var 7)) (blkOk_by (own := [("level", 11)]) (N := N_law) (sc := defScope s_law) (by decide +kernel)) (fun _ _ _ _ _ => (g_name 11 sc_law.nd)) (fun _ _ _ _ _ => q_nil) (fun _ _ _ _ _ => (x_callB (cd_max rfl) rfl T.n_max (by decide +kernel) (a_cons x_int (a_cons (x_bin od_sub (x_var 11) (x_bin od_mod (x_ix (x_var 2) x_int (fun _ _ => rfl)) x_int)) a_nil)))))) a_nil)))
    (s_one (s_for PassesOwn.never rfl (i_tup (x_tup (a_cons (x_var 7) (a_cons (x_var 8) (a_cons (x_var 4) (a_cons (x_var 5) a_nil)))))) (g_name 9 sc_law.nd) (s_one (s_for PassesOwn.never rfl (i_range1 rfl T.n_range (a_cons (x_callB (cd_min rfl) rfl T.n_min (by decide +kernel) (a_cons x_int (a_cons (x_callB cd_len rfl T.n_len PySem.boot_len (a_cons (x_var 6) a_nil)) a_nil))) a_nil)) (g_name 10 sc_law.nd) (s_one (s_if (t_not (t_val (x_fn (k__law_right T) hr (a_cons (x_var 4) (a_cons (x_var 5) (a_cons (x_var 6) (a_cons (x_bin od_mod (x_ix (x_var 2) (x_bin od_add x_int (x_var 10)) (fun _ _ => rfl)) (x_callB cd_len rfl T.n_len PySem.boot_len (a_cons (x_var 6) a_nil))) (a_cons (x_var 9) (a_cons (x_cmp (od_eq hr.units) (x_var 3) x_int (nomark _)) a_nil)))))) (ln_cons (ln_cons (ln_cons (ln_cons (ln_cons (ln_cons ln_nil))))))))) (s_one (s_ret x_bl)) s_nil)))))))))))))))
    (s_cons (s_if (t_cmp (od_ne hr.units) (x_fn (k_fitting_amounts T) hr (a_cons (x_tup (a_cons x_int (a_cons x_int a_nil))) (a_cons (x_tup (a_cons x_int (a_cons x_int a_nil))) (a_cons (x_tup (a_cons (x_tup (a_cons x_str (a_cons x_int a_nil))) a_nil)) (a_cons x_int (a_cons (x_tup (a_cons x_int (a_cons x_int a_nil))) a_nil))))) (ln_cons (ln_cons (ln_cons (ln_cons (ln_cons ln_nil)))))) (x_tup (a_cons x_int (a_cons (x_bin od_pow x_int x_int) a_nil))) (nomark _)) (s_one (s_ret x_bl)) s_nil)
    (s_one (s_ret (x_cmp (od_eq hr.units) (x_fn (k_fitting_amounts T) hr (a_cons (x_tup (a_cons x_int (a_cons x_int a_nil))) (a_cons (x_tup (a_cons x_int (a_cons x_int a_nil))) (a_cons (x_tup (a_cons (x_tup (a_cons x_str (a_cons x_int a_nil))) a_nil)) (a_cons x_int (a_cons (x_tup (a_cons x_int (a_cons x_int a_nil))) a_nil))))) (ln_cons (ln_cons (ln_cons (ln_cons (ln_cons ln_nil)))))) (x_tup (a_cons x_int (a_cons x_int a_nil))) (nomark _))))))
end Lw
open PySem PySem.W PySem.Calls PyProof.Rows
set_option maxRecDepth 100000 in
set_option maxHeartbeats 0 in
theorem PySem.Challenge.cw_fillorder_k21_whole_unknown_amounts_holds : PySem.Challenge.rw_fillorder_k21_whole_unknown_amounts.Holds := by
  w_on; o_law
  refine HandSHeadRun.head_any (r := OpenLaw.row PySem.Challenge.rw_fillorder_k21_whole_unknown_amounts) (q := view (OpenLaw.row PySem.Challenge.rw_fillorder_k21_whole_unknown_amounts).prog [20]) (H := Lw.hk) (ob := Lw.ob) (M := 4000) (loose := ["poured", "run", "with_amount", "judged", "first_amount", "largest_amount", "fitting_amounts", "_law_cell", "_law_digits", "_law_caps", "_law_levels", "_law_script", "_law_run", "_law_possible", "_law_with", "_law_fits", "_law_right"]) (d := HandSHeadRun.topDef (OpenLaw.row PySem.Challenge.rw_fillorder_k21_whole_unknown_amounts).prog 20) (kwd := []) Lw.ob_eq
    (by kernel_rfl) (fun s => by kernel_rfl) Lw.run (by kernel_rfl) (by kernel_rfl) (by kernel_rfl) (by rfl) (by first | assumption | decide +kernel) (by decide +kernel) ⟨rfl, rfl, rfl, rfl, rfl, by decide +kernel⟩ ?hw ?hc
  case hw => w_witness2
  case hc =>
    refine L2.walk_ofE (l := PySem.Challenge.rw_fillorder_k21_whole_unknown_amounts) (n := 63) (k := 7) (x := "script") (CX := L2.CX0) rfl (by decide) (by kernel_rfl) ⟨rfl, by decide, by decide⟩ ?F (fun _ _ _ _ z => z)
    intro w mg fa h Y G hmg0
    obtain ⟨K, KX, c⟩ := Y
    have hmg : mg ("law" : PySem.Str) = some (.ref fa) := by
      have e : (HandSHeadRun.topDef (OpenLaw.row PySem.Challenge.rw_fillorder_k21_whole_unknown_amounts).prog 20).name = ("law" : PySem.Str) := by kernel_rfl
      rw [← e]
      exact hmg0
    obtain ⟨fd, hb, hF⟩ := Lw.facts (P := (PySem.Challenge.rw_fillorder_k21_whole_unknown_amounts).prog) (w := w) KX G hmg c
    exact ⟨K, fd, Fi.spD K 1 Lw.F_law, KX, hb, fun H a ns hl _ hS => Fi.law_sp hS (Lw.law_true ns hl), hF⟩
