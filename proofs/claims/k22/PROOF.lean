import PyProof.Rows.All
import Wide.All
import OpenK.AllK
import Wide.FinOn
import HandS.ForMost
import HandS.Walk
import HandS.Zip
import HandS.TupAny
import HandS.TupLe
import KE.GoesMore
import KE.GoesZip
import KE.GoesEnum
import HandS.More
import HandS.WordsExc
import HandS.Defaults
import HandS.Head0
import HandS.Head1
import HandS.Head2
import HandS.HeadEnd
import HandS.HeadHook1
import HandS.HeadHook2
import HandS.Deep
import HandS.IsInst
import HandS.SortInts
import HandS.Style
import HandS.TupMul
import HandS.Conv
import HandS.DictComp
import PyProof.Rows.TupDisplay
import PySem.Challenge.RW_fillorder_k22_whole_fewest_steps
set_option Elab.async false
set_option linter.all false
set_option maxRecDepth 100000
set_option maxHeartbeats 4000000
namespace Fi
open PySem L2

theorem sqT_up {K : PySem.W.Frag} {H H' : Hp} {a : Addr} {xs : List V} (e : Same H H') (h : SqT K H a xs) : SqT K H' a xs := by
  rcases h with h | h
  · rcases h with h | ⟨o, h⟩
    · exact .inl (.inl (e a _ h))
    · exact .inl (.inr ⟨o, e a _ h⟩)
  · exact .inr h
mutual
theorem Dp_up {K : PySem.W.Frag} {H H' : Hp} (e : Same H H') : ∀ {v : V} {d : PyData}, Dp K H v d → Dp K H' v d
  | _, _, .non => .non
  | _, _, .bl b => .bl b
  | _, _, .int i => .int i
  | _, _, .str x => .str x
  | _, _, .lst hs ha => .lst (e.seq hs) (DpAll_up e ha)
  | _, _, .tup hs ha => .tup (sqT_up e hs) (DpAll_up e ha)
theorem DpAll_up {K : PySem.W.Frag} {H H' : Hp} (e : Same H H') : ∀ {vs : List V} {ds : List PyData}, DpAll K H vs ds → DpAll K H' vs ds
  | _, _, .nil => .nil
  | _, _, .cons h t => .cons (Dp_up e h) (DpAll_up e t)
end
end Fi
namespace L2
open PySem
section
variable {K : PySem.W.Frag} {H : Hp}
theorem DpAll.len : ∀ {vs : List V} {ds : List PyData}, DpAll K H vs ds → vs.length = ds.length
  | _, _, .nil => rfl
  | _, _, .cons _ t => by rw [List.length_cons, List.length_cons, DpAll.len t]
theorem DpAll.get : ∀ {vs : List V} {ds : List PyData} {i : Nat} {v : V}, DpAll K H vs ds → vs[i]? = some v → ∃ d, ds[i]? = some d ∧ Dp K H v d
  | _, _, _, _, .nil, e => by simp at e
  | _, _, 0, _, .cons h _, e => by
    simp at e
    subst e
    exact ⟨_, rfl, h⟩
  | _, _, i + 1, v, .cons _ t, e => by
    obtain ⟨d, h1, h2⟩ := DpAll.get (i := i) (v := v) t (by simpa using e)
    exact ⟨d, by simpa using h1, h2⟩
theorem DpAll.at : ∀ {vs : List V} {ds : List PyData} {i : Nat} {d : PyData}, DpAll K H vs ds → ds[i]? = some d → ∃ v, vs[i]? = some v ∧ Dp K H v d
  | _, _, _, _, .nil, e => by simp at e
  | _, _, 0, _, .cons h _, e => by
    simp at e
    subst e
    exact ⟨_, rfl, h⟩
  | _, _, i + 1, v, .cons _ t, e => by
    obtain ⟨d, h1, h2⟩ := DpAll.at (i := i) t (by simpa using e)
    exact ⟨d, by simpa using h1, h2⟩
theorem DpAll.app : ∀ {vs us : List V} {ds es : List PyData}, DpAll K H vs ds → DpAll K H us es → DpAll K H (vs ++ us) (ds ++ es)
  | _, _, _, _, .nil, h => h
  | _, _, _, _, .cons h t, q => .cons h (DpAll.app t q)
theorem DpAll.tk : ∀ {vs : List V} {ds : List PyData} (n : Nat), DpAll K H vs ds → DpAll K H (vs.take n) (ds.take n)
  | _, _, 0, _ => .nil
  | _, _, _ + 1, .nil => .nil
  | _, _, n + 1, .cons h t => .cons h (DpAll.tk n t)
theorem DpAll.dr : ∀ {vs : List V} {ds : List PyData} (n : Nat), DpAll K H vs ds → DpAll K H (vs.drop n) (ds.drop n)
  | _, _, 0, h => h
  | _, _, _ + 1, .nil => .nil
  | _, _, n + 1, .cons _ t => DpAll.dr n t
theorem DpAll.set {v : V} {d : PyData} (h : Dp K H v d) : ∀ {vs : List V} {ds : List PyData} (i : Nat), DpAll K H vs ds → DpAll K H (vs.set i v) (ds.set i d)
  | _, _, _, .nil => .nil
  | _, _, 0, .cons _ t => .cons h t
  | _, _, i + 1, .cons q t => .cons q (DpAll.set h i t)
theorem Dp.int_eq {v : V} {i : Int} (h : Dp K H v (.int i)) : v = .int i := by cases h; rfl
theorem Dp.bl_eq {v : V} {b : Bool} (h : Dp K H v (.bool b)) : v = .bl b := by cases h; rfl
theorem Dp.str_eq {v : V} {x : Str} (h : Dp K H v (.str x)) : v = .str x := by cases h; rfl
theorem Dp.non_eq {v : V} (h : Dp K H v .none) : v = .non := by cases h; rfl
theorem Dp.tup_of {v : V} {ds : List PyData} (h : Dp K H v (.tuple ds)) : ∃ a xs, v = .ref a ∧ SqT K H a xs ∧ DpAll K H xs ds := by
  cases h with
  | tup hs ha => exact ⟨_, _, rfl, hs, ha⟩
theorem Dp.lst_of {v : V} {ds : List PyData} (h : Dp K H v (.list ds)) : ∃ a xs, v = .ref a ∧ SqL K H a xs ∧ DpAll K H xs ds := by
  cases h with
  | lst hs ha => exact ⟨_, _, rfl, hs, ha⟩
theorem DpAll.ints : ∀ {ns : List Int} {vs : List V}, DpAll K H vs (ns.map PyData.int) → vs = ns.map V.int
  | [], vs, h => by cases h; rfl
  | n :: ns, vs, h => by
    cases h with
    | cons h t => rw [h.int_eq, DpAll.ints t]; rfl
theorem DpAll.bools : ∀ {ns : List Bool} {vs : List V}, DpAll K H vs (ns.map PyData.bool) → vs = ns.map V.bl
  | [], vs, h => by cases h; rfl
  | n :: ns, vs, h => by
    cases h with
    | cons h t => rw [h.bl_eq, DpAll.bools t]; rfl
theorem DpAll.one {vs : List V} {d : PyData} (h : DpAll K H vs [d]) : ∃ v, vs = [v] ∧ Dp K H v d := by
  cases h with
  | cons h t => cases t; exact ⟨_, rfl, h⟩
theorem DpAll.two {vs : List V} {d e : PyData} (h : DpAll K H vs [d, e]) : ∃ v w, vs = [v, w] ∧ Dp K H v d ∧ Dp K H w e := by
  cases h with
  | cons h t =>
    obtain ⟨w, rfl, q⟩ := t.one
    exact ⟨_, w, rfl, h, q⟩
end

end L2
namespace Fi
open PySem L2
inductive Sl where
  | val (d : PyData)
  | own (ds : List PyData)
  | dct (kvs : List (List Int × PyData))
/-- what this def alone points to -/
def Sl.hid : Sl → Bool
  | .val _ => false
  | _ => true
abbrev En := List (Option Sl)
inductive Out where
  | next (e : En) | brk (e : En) | cont (e : En) | ret (d : PyData) | retL (ds : List PyData) | retD (kvs : List (List Int × PyData))
abbrev FE := En → Option PyData
abbrev FL := En → Option (List PyData)
abbrev FT := En → Option Bool
abbrev FS := En → Option Out

/-- the heap steps on: Hf what may be pointed to, H all that is tracked -/
structure Stp (Hf H Hf' H' : Hp) : Prop where
  f : Same Hf Hf'
  i : Same Hf' H'
  h : Same H H'
  n : ∀ a o, H a = some o → Hf a = none → Hf' a = none
theorem Stp.refl {Hf H : Hp} (i : Same Hf H) : Stp Hf H Hf H := ⟨Same.refl _, i, Same.refl _, fun _ _ _ h => h⟩
theorem Stp.trans {A B C E F G : Hp} (a : Stp A B C E) (b : Stp C E F G) : Stp A B F G :=
  ⟨a.f.trans b.f, b.i, a.h.trans b.h, fun x o h1 h2 => b.n x o (a.h x o h1) (a.n x o h1 h2)⟩
theorem same_new {H : Hp} {p : Addr} {o : HO} (h : H p = none) : Same H (upd H p o) := fun b x e => by
  rw [upd_ne (ne_of_none e h)]
  exact e
theorem same_both {Hf H : Hp} {p : Addr} {o : HO} (i : Same Hf H) : Same (upd Hf p o) (upd H p o) := fun b x e => by
  by_cases hb : b = p
  · subst hb
    rw [upd_same] at e ⊢
    exact e
  · rw [upd_ne hb] at e ⊢
    exact i b x e
theorem Stp.new {Hf H : Hp} {p : Addr} {o : HO} (i : Same Hf H) (h : H p = none) : Stp Hf H (upd Hf p o) (upd H p o) :=
  ⟨same_new (i.free h), same_both i, same_new h, fun a x e q => by
    rw [upd_ne (ne_of_none e h)]
    exact q⟩
theorem Stp.hid {Hf H : Hp} {p : Addr} {o : HO} (i : Same Hf H) (h : H p = none) : Stp Hf H Hf (upd H p o) :=
  ⟨Same.refl _, i.trans (same_new h), same_new h, fun a x e q => q⟩
/-- what was hidden and new may be pointed to -/
theorem Stp.show {Hf H Hf' H' : Hp} {p : Addr} {o : HO} (s : Stp Hf H Hf' H') (h : H p = none) (h1 : Hf' p = none) (h2 : H' p = some o) : Stp Hf H (upd Hf' p o) H' :=
  ⟨s.f.trans (same_new h1), fun b x e => by
    by_cases hb : b = p
    · subst hb
      rw [upd_same] at e
      rw [h2, e]
    · rw [upd_ne hb] at e
      exact s.i b x e, s.h, fun a x e q => by
    rw [upd_ne (ne_of_none e h)]
    exact s.n a x e q⟩

def hI (ks : List Int) : Int := reduceHash (Builtin.Tuple.tupleHashOf (ks.map hashInt))
def eI (x : List Int × Addr × Value) : DictEntry := ⟨hI x.1, .ref x.2.1, x.2.2⟩
def DI (p : Addr) (xs : List (List Int × Addr × Value)) : Heap → Prop := fun h => ∃ o es ep, h.get? p = some o ∧ o.ExactDict ∧ o.data = .dict es ep ∧ es.toList = xs.map eI
def KeyOk (K : PySem.W.Frag) (Hf : Hp) (x : List Int × Addr × Value) (kv : List Int × PyData) : Prop := x.1 = kv.1 ∧ SqT K Hf x.2.1 (x.1.map V.int) ∧ ∃ w, RelV w x.2.2 ∧ Dp K Hf w kv.2
def DctOk (K : PySem.W.Frag) (Hf : Hp) (xs : List (List Int × Addr × Value)) (kvs : List (List Int × PyData)) : Prop := (xs.map (·.1)).Nodup ∧ xs.length ≤ 100000 ∧ Paired (KeyOk K Hf) xs kvs
theorem DctOk.up {K : PySem.W.Frag} {Hf Hf' : Hp} {xs : List (List Int × Addr × Value)} {kvs : List (List Int × PyData)} (h : DctOk K Hf xs kvs) (e : Same Hf Hf') : DctOk K Hf' xs kvs :=
  ⟨h.1, h.2.1, Paired.mapP h.2.2 fun _ _ z => ⟨z.1, sqT_up e z.2.1, z.2.2.imp fun _ q => ⟨q.1, Dp_up e q.2⟩⟩⟩
def SlOk (K : PySem.W.Frag) (H0 Hf H : Hp) (v : V) : Sl → Prop
  | .val d => Dp K Hf v d
  | .own ds => ∃ p vs, v = .ref p ∧ H0 p = none ∧ Hf p = none ∧ H p = some (.lst vs) ∧ DpAll K Hf vs ds
  | .dct kvs => ∃ p xs, v = .ref p ∧ H0 p = none ∧ Hf p = none ∧ H p = some (.ext (DI p xs)) ∧ (p == sysModules) = false ∧ DctOk K Hf xs kvs
/-- Z: the two heaps at the def's entry -/
structure Rel (K : PySem.W.Frag) (Z : Hp × Hp) (Hf H : Hp) (env : En) (σ : L2.St) : Prop where
  st : Stp Z.1 Z.2 Hf H
  len : env.length = σ.length
  sl : ∀ (i : Nat) (s : Sl), env[i]? = some (some s) → ∃ v, σ[i]? = some (some v) ∧ SlOk K Z.2 Hf H v s
  ds : ∀ (i j : Nat) (x y : List PyData) (p : Addr), env[i]? = some (some (.own x)) → env[j]? = some (some (.own y)) → σ[i]? = some (some (.ref p)) → σ[j]? = some (some (.ref p)) → i = j
section
variable {K : PySem.W.Frag} {Z : Hp × Hp} {Hf H Hf' H' : Hp} {env : En} {σ : L2.St}
theorem Rel.step (R : Rel K Z Hf H env σ) (s : Stp Hf H Hf' H') : Rel K Z Hf' H' env σ := by
  refine ⟨R.st.trans s, R.len, fun i x e => ?_, R.ds⟩
  obtain ⟨v, h1, h2⟩ := R.sl i x e
  refine ⟨v, h1, ?_⟩
  cases x with
  | val d => exact Dp_up s.f h2
  | own l =>
    obtain ⟨p, vs, a, b, c, d, e⟩ := h2
    exact ⟨p, vs, a, b, s.n p _ d c, s.h p _ d, DpAll_up s.f e⟩
  | dct l =>
    obtain ⟨p, xs, a, b, c, d, e, f⟩ := h2
    exact ⟨p, xs, a, b, s.n p _ d c, s.h p _ d, e, f.up s.f⟩
theorem set_cases {α : Type} {l : List (Option α)} {i j : Nat} {x : Option α} {y : α} (h : (l.set i x)[j]? = some (some y)) : (i = j ∧ x = some y) ∨ (i ≠ j ∧ l[j]? = some (some y)) := by
  by_cases e : i = j
  · subst e
    by_cases hl : i < l.length
    · rw [List.getElem?_set_self hl] at h
      exact .inl ⟨rfl, Option.some.inj h⟩
    · rw [List.getElem?_eq_none (by rw [List.length_set]; omega)] at h
      cases h
  · rw [List.getElem?_set_ne e] at h
    exact .inr ⟨e, h⟩
theorem set_some_lt {α : Type} {l : List (Option α)} {i : Nat} {x y : Option α} (h : (l.set i x)[i]? = some y) : i < l.length := by
  by_cases hl : i < l.length
  · exact hl
  · rw [List.getElem?_eq_none (by rw [List.length_set]; omega)] at h
    cases h
/-- a value is stored -/
theorem Rel.set {v : V} {d : PyData} (R : Rel K Z Hf H env σ) (i : Nat) (h : Dp K Hf v d) : Rel K Z Hf H (env.set i (some (.val d))) (σ.set i (some v)) := by
  refine ⟨R.st, by rw [List.length_set, List.length_set, R.len], fun j s e => ?_, fun j k x y p ej ek hj hk => ?_⟩
  · rcases set_cases e with ⟨rfl, q⟩ | ⟨hn, q⟩
    · cases q
      have hl := set_some_lt e
      refine ⟨v, List.getElem?_set_self (by rw [← R.len]; exact hl), h⟩
    · obtain ⟨w, h1, h2⟩ := R.sl j s q
      exact ⟨w, by rw [List.getElem?_set_ne hn]; exact h1, h2⟩
  · rcases set_cases ej with ⟨rfl, q⟩ | ⟨hn, q⟩
    · cases q
    · rcases set_cases ek with ⟨rfl, q2⟩ | ⟨hn2, q2⟩
      · cases q2
      · rw [List.getElem?_set_ne hn] at hj
        rw [List.getElem?_set_ne hn2] at hk
        exact R.ds j k x y p q q2 hj hk
/-- a slot is forgotten, in the functions' view -/
theorem Rel.drop (R : Rel K Z Hf H env σ) (i : Nat) (o : Option V) : Rel K Z Hf H (env.set i none) (σ.set i o) := by
  refine ⟨R.st, by rw [List.length_set, List.length_set, R.len], fun j s e => ?_, fun j k x y p ej ek hj hk => ?_⟩
  · rcases set_cases e with ⟨rfl, q⟩ | ⟨hn, q⟩
    · cases q
    · obtain ⟨w, h1, h2⟩ := R.sl j s q
      exact ⟨w, by rw [List.getElem?_set_ne hn]; exact h1, h2⟩
  · rcases set_cases ej with ⟨rfl, q⟩ | ⟨hn, q⟩
    · cases q
    · rcases set_cases ek with ⟨rfl, q2⟩ | ⟨hn2, q2⟩
      · cases q2
      · rw [List.getElem?_set_ne hn] at hj
        rw [List.getElem?_set_ne hn2] at hk
        exact R.ds j k x y p q q2 hj hk
/-- a new list is stored, to be changed here alone -/
theorem Rel.setOwn {p : Addr} {vs : List V} {ds : List PyData} (R : Rel K Z Hf H env σ) (s : Stp Hf H Hf' H') (i : Nat) (h0 : H p = none) (h1 : Hf' p = none) (h2 : H' p = some (.lst vs)) (h3 : DpAll K Hf' vs ds) :
    Rel K Z Hf' H' (env.set i (some (.own ds))) (σ.set i (some (.ref p))) := by
  have R' := R.step s
  have hz : Z.2 p = none := R.st.h.free h0
  -- an own slot of before stands elsewhere
  have ne : ∀ (j : Nat) (x : List PyData) (q : Addr), env[j]? = some (some (Sl.own x)) → σ[j]? = some (some (V.ref q)) → q ≠ p := fun j x q e1 e2 => by
    obtain ⟨v, g1, g2⟩ := R.sl j _ e1
    obtain ⟨r, ws, rfl, _, _, g3, _⟩ := g2
    rw [e2] at g1
    cases g1
    exact ne_of_none g3 h0
  refine ⟨R'.st, by rw [List.length_set, List.length_set, R.len], fun j t e => ?_, fun j k x y q ej ek hj hk => ?_⟩
  · rcases set_cases e with ⟨rfl, z⟩ | ⟨hn, z⟩
    · cases z
      have hl := set_some_lt e
      exact ⟨.ref p, List.getElem?_set_self (by rw [← R.len]; exact hl), p, vs, rfl, hz, h1, h2, h3⟩
    · obtain ⟨w, g1, g2⟩ := R'.sl j t z
      exact ⟨w, by rw [List.getElem?_set_ne hn]; exact g1, g2⟩
  · rcases set_cases ej with ⟨rfl, z⟩ | ⟨hn, z⟩
    · rcases set_cases ek with ⟨rfl, z2⟩ | ⟨hn2, z2⟩
      · rfl
      · have hl := set_some_lt ej
        rw [List.getElem?_set_self (by rw [← R.len]; exact hl)] at hj
        cases hj
        rw [List.getElem?_set_ne hn2] at hk
        exact absurd rfl (ne k y _ z2 hk)
    · rcases set_cases ek with ⟨rfl, z2⟩ | ⟨hn2, z2⟩
      · have hl := set_some_lt ek
        rw [List.getElem?_set_self (by rw [← R.len]; exact hl)] at hk
        cases hk
        rw [List.getElem?_set_ne hn] at hj
        exact absurd rfl (ne j x _ z hj)
      · rw [List.getElem?_set_ne hn] at hj
        rw [List.getElem?_set_ne hn2] at hk
        exact R.ds j k x y q z z2 hj hk
/-- the list of an own slot is changed -/
theorem Rel.mut {i : Nat} {l l' : List PyData} {p : Addr} {vs' : List V} (R : Rel K Z Hf H env σ) (he : env[i]? = some (some (.own l))) (hs : σ[i]? = some (some (.ref p))) (h3 : DpAll K Hf vs' l') :
    Rel K Z Hf (upd H p (.lst vs')) (env.set i (some (.own l'))) σ := by
  obtain ⟨v, g1, q, vs, rfl, hz, hf, hp, hd⟩ := R.sl i _ he
  rw [hs] at g1
  cases g1
  have hi : i < env.length := (List.getElem?_eq_some_iff.mp he).1
  refine ⟨⟨R.st.f, fun b o e => ?_, fun b o e => ?_, R.st.n⟩, by rw [List.length_set, R.len], fun j t e => ?_, fun j k x y q ej ek hj hk => ?_⟩
  · rw [upd_ne (ne_of_none e hf)]
    exact R.st.i b o e
  · rw [upd_ne (ne_of_none e hz)]
    exact R.st.h b o e
  · rcases set_cases e with ⟨rfl, z⟩ | ⟨hn, z⟩
    · cases z
      exact ⟨.ref p, hs, p, vs', rfl, hz, hf, upd_same, h3⟩
    · obtain ⟨w, g1, g2⟩ := R.sl j t z
      refine ⟨w, g1, ?_⟩
      cases t with
      | val d => exact g2
      | own m =>
        obtain ⟨r, ws, rfl, a, b, c, d⟩ := g2
        refine ⟨r, ws, rfl, a, b, ?_, d⟩
        have hr : r ≠ p := fun q => hn (R.ds i j l m p he z hs (by rw [g1, q]))
        rw [upd_ne hr]
        exact c
      | dct m =>
        obtain ⟨r, xs, rfl, a, b, c, d⟩ := g2
        exact ⟨r, xs, rfl, a, b, by rw [upd_ne (ne_of c hp (fun z => nomatch z))]; exact c, d⟩
  · have e1 : ∃ x', env[j]? = some (some (.own x')) := by
      rcases set_cases ej with ⟨rfl, z⟩ | ⟨hn, z⟩
      · exact ⟨l, he⟩
      · exact ⟨x, z⟩
    have e2 : ∃ y', env[k]? = some (some (.own y')) := by
      rcases set_cases ek with ⟨rfl, z⟩ | ⟨hn, z⟩
      · exact ⟨l, he⟩
      · exact ⟨y, z⟩
    obtain ⟨x', e1⟩ := e1
    obtain ⟨y', e2⟩ := e2
    exact R.ds j k x' y' q e1 e2 hj hk
/-- an own slot becomes a value: from here on it is read alone -/
def frz (i : Nat) (env : En) : En := match env[i]? with
  | some (some (.own l)) => env.set i (some (.val (.list l)))
  | _ => env
theorem Rel.frz (R : Rel K Z Hf H env σ) (i : Nat) : ∃ Hf', Same Hf Hf' ∧ Rel K Z Hf' H (frz i env) σ := by
  unfold Fi.frz
  split
  · rename_i l he
    obtain ⟨v, hs, p, vs, rfl, hz, hf, hp, hd⟩ := R.sl i _ he
    have hsm : Same Hf (upd Hf p (.lst vs)) := same_new hf
    refine ⟨upd Hf p (.lst vs), hsm, ⟨⟨R.st.f.trans hsm, fun b o e => ?_, R.st.h, fun a o e q => ?_⟩, by rw [List.length_set, R.len], fun j t e => ?_, fun j k x y q ej ek hj hk => ?_⟩⟩
    · by_cases hb : b = p
      · subst hb
        rw [upd_same] at e
        rw [hp, e]
      · rw [upd_ne hb] at e
        exact R.st.i b o e
    · rw [upd_ne (ne_of_none e hz)]
      exact R.st.n a o e q
    · rcases set_cases e with ⟨rfl, z⟩ | ⟨hn, z⟩
      · cases z
        exact ⟨.ref p, hs, .lst (SqL.of upd_same) (DpAll_up hsm hd)⟩
      · obtain ⟨w, g1, g2⟩ := R.sl j t z
        refine ⟨w, g1, ?_⟩
        cases t with
        | val d => exact Dp_up hsm g2
        | own m =>
          obtain ⟨r, ws, rfl, a, b, c, d⟩ := g2
          have hr : r ≠ p := fun q => hn (R.ds i j l m p he z hs (by rw [g1, q]))
          exact ⟨r, ws, rfl, a, by rw [upd_ne hr]; exact b, c, DpAll_up hsm d⟩
        | dct m =>
          obtain ⟨r, xs, rfl, a, b, c, d, f⟩ := g2
          exact ⟨r, xs, rfl, a, by rw [upd_ne (ne_of c hp (fun z => nomatch z))]; exact b, c, d, f.up hsm⟩
    · rcases set_cases ej with ⟨rfl, z⟩ | ⟨hn, z⟩
      · cases z
      · rcases set_cases ek with ⟨rfl, z2⟩ | ⟨hn2, z2⟩
        · cases z2
        · exact R.ds j k x y q z z2 hj hk
  · exact ⟨Hf, Same.refl _, R⟩
end

def tE (K : PySem.W.Frag) (f : FE) : TE := fun σ H Q => ∃ (Z : Hp × Hp) (Hf : Hp) (env : En) (d : PyData), Rel K Z Hf H env σ ∧ f env = some d ∧ ∀ v H' Hf', Stp Hf H Hf' H' → Dp K Hf' v d → Q v H'
/-- a new list, hidden as yet -/
def tL (K : PySem.W.Frag) (f : FL) : TE := fun σ H Q => ∃ (Z : Hp × Hp) (Hf : Hp) (env : En) (ds : List PyData), Rel K Z Hf H env σ ∧ f env = some ds ∧
  ∀ p vs H' Hf', Stp Hf H Hf' H' → H p = none → Hf' p = none → H' p = some (.lst vs) → DpAll K Hf' vs ds → Q (.ref p) H'
def tA (K : PySem.W.Frag) (f : FL) : TA := fun σ H Q => ∃ (Z : Hp × Hp) (Hf : Hp) (env : En) (ds : List PyData), Rel K Z Hf H env σ ∧ f env = some ds ∧ ∀ vs H' Hf', Stp Hf H Hf' H' → DpAll K Hf' vs ds → Q vs H'
def tT (K : PySem.W.Frag) (f : FT) : TT := fun σ H Q => ∃ (Z : Hp × Hp) (Hf : Hp) (env : En) (b : Bool), Rel K Z Hf H env σ ∧ f env = some b ∧ ∀ H' Hf', Stp Hf H Hf' H' → Q b H'
def tO (K : PySem.W.Frag) (f : En → Option (Option Int)) : TO := fun σ H Q => ∃ (Z : Hp × Hp) (Hf : Hp) (env : En) (o : Option Int), Rel K Z Hf H env σ ∧ f env = some o ∧ ∀ H' Hf', Stp Hf H Hf' H' → Q o H'
def Fin (K : PySem.W.Frag) (Z : Hp × Hp) (Hf : Hp) (D : Ends) : Out → Prop
  | .next e => ∀ σ' H' Hf', Same Hf Hf' → Rel K Z Hf' H' e σ' → D.nx σ' H'
  | .brk e => ∀ σ' H' Hf', Same Hf Hf' → Rel K Z Hf' H' e σ' → D.bk σ' H'
  | .cont e => ∀ σ' H' Hf', Same Hf Hf' → Rel K Z Hf' H' e σ' → D.ct σ' H'
  | .ret d => ∀ v H' Hf', Stp Z.1 Z.2 Hf' H' → Dp K Hf' v d → D.rt v H'
  | .retL ds => ∀ p vs H' Hf', Stp Z.1 Z.2 Hf' H' → Z.2 p = none → Hf' p = none → H' p = some (.lst vs) → DpAll K Hf' vs ds → D.rt (.ref p) H'
  | .retD kvs => ∀ p xs H' Hf', Stp Z.1 Z.2 Hf' H' → Z.2 p = none → Hf' p = none → H' p = some (.ext (DI p xs)) → (p == sysModules) = false → DctOk K Hf' xs kvs → D.rt (.ref p) H'
theorem Fin.up {K : PySem.W.Frag} {Z : Hp × Hp} {Hf Hf' : Hp} {D : Ends} (e : Same Hf Hf') : ∀ {o : Out}, Fin K Z Hf D o → Fin K Z Hf' D o
  | .next _, h => fun σ' H' Hg s R => h σ' H' Hg (e.trans s) R
  | .brk _, h => fun σ' H' Hg s R => h σ' H' Hg (e.trans s) R
  | .cont _, h => fun σ' H' Hg s R => h σ' H' Hg (e.trans s) R
  | .ret _, h => h
  | .retL _, h => h
  | .retD _, h => h
def tS (K : PySem.W.Frag) (f : FS) : TS := fun D σ H => ∃ (Z : Hp × Hp) (Hf : Hp) (env : En) (o : Out), Rel K Z Hf H env σ ∧ f env = some o ∧ Fin K Z Hf D o
section
variable {X : Cx}
theorem pe_le {e : Expr} {t t' : TE} (h : PE X e t) (hm : ∀ σ H Q, t' σ H Q → t σ H Q) : PE X e t' := ⟨fun pins s σ H Q I q => h.run pins s σ H Q I (hm σ H Q q)⟩
theorem pt_le {e : Expr} {t t' : TT} (h : PT X e t) (hm : ∀ σ H Q, t' σ H Q → t σ H Q) : PT X e t' := ⟨fun pins s σ H Q I q => h.run pins s σ H Q I (hm σ H Q q)⟩
theorem pa_le {e : List Expr} {t t' : TA} (h : PA X e t) (hm : ∀ σ H Q, t' σ H Q → t σ H Q) : PA X e t' := ⟨fun pos pins s σ H Q I q => h.run pos pins s σ H Q I (hm σ H Q q)⟩
theorem po_le {e : Option Expr} {t t' : TO} (h : PO X e t) (hm : ∀ σ H Q, t' σ H Q → t σ H Q) : PO X e t' := ⟨fun pins s σ H Q I q => h.run pins s σ H Q I (hm σ H Q q)⟩
theorem ps_le {e : Stmt} {t t' : TS} (h : PS X e t) (hm : ∀ D σ H, t' D σ H → t D σ H) : PS X e t' := ⟨fun pins s σ H D I q => h.run pins s σ H D I (hm D σ H q)⟩
theorem pss_le {e : List Stmt} {t t' : TS} (h : PSs X e t) (hm : ∀ D σ H, t' D σ H → t D σ H) : PSs X e t' := ⟨fun pins s σ H D I q => h.run pins s σ H D I (hm D σ H q)⟩
theorem pi_le {tg e : Expr} {t t' : TI} (h : PI X tg e t) (hm : ∀ σ H R, t' σ H R → t σ H R) : PI X tg e t' := ⟨fun pins s σ H R I q => h.run pins s σ H R I (hm σ H R q)⟩
theorem pg_le {e : Expr} {t t' : TG} (h : PG X e t) (hm : ∀ v σ H Q, t' v σ H Q → t v σ H Q) : PG X e t' := ⟨fun pins s σ H v u Q I r q => h.run pins s σ H v u Q I r (hm v σ H Q q)⟩
end
end Fi

namespace Fi
open PySem L2

def rD2 (K : PySem.W.Frag) (F : PyData → PyData → Option PyData) : R2 := fun x y H Q => ∃ (Hf : Hp) (dx dy dz : PyData), Same Hf H ∧ Dp K Hf x dx ∧ Dp K Hf y dy ∧ F dx dy = some dz ∧ ∀ v H' Hf', Stp Hf H Hf' H' → Dp K Hf' v dz → Q v H'
abbrev OpD (X : Cx) (f : Value → Value → Sem Value) (F : PyData → PyData → Option PyData) : Prop := OpR X f (rD2 X.K F)
def rD1 (K : PySem.W.Frag) (F : PyData → Option PyData) : V → Hp → VK → Prop := fun x H Q => ∃ (Hf : Hp) (dx dz : PyData), Same Hf H ∧ Dp K Hf x dx ∧ F dx = some dz ∧ ∀ v H' Hf', Stp Hf H Hf' H' → Dp K Hf' v dz → Q v H'
def rDc (K : PySem.W.Frag) (F : List PyData → Option PyData) : List V → Hp → VK → Prop := fun vs H Q => ∃ (Hf : Hp) (ds : List PyData) (dz : PyData), Same Hf H ∧ DpAll K Hf vs ds ∧ F ds = some dz ∧ ∀ v H' Hf', Stp Hf H Hf' H' → Dp K Hf' v dz → Q v H'
abbrev CallD (X : Cx) (f : Value) (F : List PyData → Option PyData) : Prop := CallR X f (rDc X.K F)
/-- a new list comes of it -/
def rDcL (K : PySem.W.Frag) (F : List PyData → Option (List PyData)) : List V → Hp → VK → Prop := fun vs H Q => ∃ (Hf : Hp) (ds dz : List PyData), Same Hf H ∧ DpAll K Hf vs ds ∧ F ds = some dz ∧ ∀ p us H' Hf', Stp Hf H Hf' H' → H p = none → Hf' p = none → H' p = some (.lst us) → DpAll K Hf' us dz → Q (.ref p) H'
abbrev CallL (X : Cx) (f : Value) (F : List PyData → Option (List PyData)) : Prop := CallR X f (rDcL X.K F)

def fAdd : PyData → PyData → Option PyData
  | .int a, .int b => some (.int (a + b))
  | .tuple a, .tuple b => if a.length + b.length ≤ 100000 then some (.tuple (a ++ b)) else none
  | .str a, .str b => if a.length + b.length ≤ 100000 then some (.str (a ++ b)) else none
  | _, _ => none
def fSub : PyData → PyData → Option PyData
  | .int a, .int b => some (.int (a - b))
  | _, _ => none
def fMul : PyData → PyData → Option PyData
  | .int a, .int b => if (-(2 ^ 64) < a ∧ a < 2 ^ 64) ∨ (-(2 ^ 64) < b ∧ b < 2 ^ 64) then some (.int (a * b)) else none
  | _, _ => none
def fDiv : PyData → PyData → Option PyData
  | .int a, .int b => if 0 < b ∧ b < 1073741824 then some (.int (a / b)) else none
  | _, _ => none
def fMod : PyData → PyData → Option PyData
  | .int a, .int b => if 0 < b then some (.int (a % b)) else none
  | _, _ => none
def fPow : PyData → PyData → Option PyData
  | .int a, .int b => if 0 ≤ b ∧ b ≤ 1000000 ∧ a.natAbs < 2 ^ 64 then some (.int (a ^ b.toNat)) else none
  | _, _ => none
def fLt : PyData → PyData → Option PyData
  | .int a, .int b => some (.bool (decide (a < b)))
  | _, _ => none
def fLe : PyData → PyData → Option PyData
  | .int a, .int b => some (.bool (decide (a ≤ b)))
  | _, _ => none
def fGt : PyData → PyData → Option PyData
  | .int a, .int b => some (.bool (decide (b < a)))
  | _, _ => none
def fGe : PyData → PyData → Option PyData
  | .int a, .int b => some (.bool (decide (b ≤ a)))
  | _, _ => none
def fEq : PyData → PyData → Option PyData
  | .int a, .int b => some (.bool (decide (a = b)))
  | .str a, .str b => some (.bool (decide (a = b)))
  | .bool a, .bool b => some (.bool (decide (a = b)))
  | a, b => if SeqAt.shaped a = true ∧ SeqAt.shaped b = true then some (.bool (PyData.eqv a b)) else none
def fNe : PyData → PyData → Option PyData
  | .int a, .int b => some (.bool (!decide (a = b)))
  | .str a, .str b => some (.bool (!decide (a = b)))
  | .bool a, .bool b => some (.bool (!decide (a = b)))
  | a, b => if SeqAt.shaped a = true ∧ SeqAt.shaped b = true then some (.bool (!PyData.eqv a b)) else none
def isN : PyData → Bool
  | .none => true
  | _ => false
def fIs : PyData → PyData → Option PyData
  | a, .none => some (.bool (isN a))
  | .bool a, .bool b => some (.bool (decide (a = b)))
  | _, _ => none
def fIsNot : PyData → PyData → Option PyData
  | a, .none => some (.bool (!isN a))
  | .bool a, .bool b => some (.bool (!decide (a = b)))
  | _, _ => none
def fIx : PyData → PyData → Option PyData
  | .list l, .int i => atI l i
  | .tuple l, .int i => atI l i
  | _, _ => none
def fNeg : PyData → Option PyData
  | .int i => some (.int (-i))
  | _ => none
section
variable {X : Cx}
theorem od_sub : OpD X (binaryOp .Sub) fSub := by
  intro pins s σ H x y v u Q I rx ry ⟨Hf, dx, dy, dz, hi, hx, hy, hf, k⟩
  unfold fSub at hf
  split at hf
  · cases hf
    cases hx.int_eq
    cases hy.int_eq
    exact op_sub pins s σ H _ _ v u Q I rx ry ⟨_, _, rfl, rfl, k _ _ _ (.refl hi) (.int _)⟩
  · cases hf
theorem od_mul : OpD X (binaryOp .Mult) fMul := by
  intro pins s σ H x y v u Q I rx ry ⟨Hf, dx, dy, dz, hi, hx, hy, hf, k⟩
  unfold fMul at hf
  split at hf
  · split at hf
    · rename_i hc
      cases hf
      cases hx.int_eq
      cases hy.int_eq
      exact op_mul pins s σ H _ _ v u Q I rx ry ⟨_, _, rfl, rfl, hc, k _ _ _ (.refl hi) (.int _)⟩
    · cases hf
  · cases hf
theorem od_div : OpD X (binaryOp .FloorDiv) fDiv := by
  intro pins s σ H x y v u Q I rx ry ⟨Hf, dx, dy, dz, hi, hx, hy, hf, k⟩
  unfold fDiv at hf
  split at hf
  · split at hf
    · rename_i hc
      cases hf
      cases hx.int_eq
      cases hy.int_eq
      exact op_fdiv pins s σ H _ _ v u Q I rx ry ⟨_, _, rfl, rfl, hc, k _ _ _ (.refl hi) (.int _)⟩
    · cases hf
  · cases hf
theorem od_mod : OpD X (binaryOp .Mod) fMod := by
  intro pins s σ H x y v u Q I rx ry ⟨Hf, dx, dy, dz, hi, hx, hy, hf, k⟩
  unfold fMod at hf
  split at hf
  · split at hf
    · rename_i hc
      cases hf
      cases hx.int_eq
      cases hy.int_eq
      exact op_mod pins s σ H _ _ v u Q I rx ry ⟨_, _, rfl, rfl, hc, k _ _ _ (.refl hi) (.int _)⟩
    · cases hf
  · cases hf
theorem od_pow : OpD X (binaryOp .Pow) fPow := by
  intro pins s σ H x y v u Q I rx ry ⟨Hf, dx, dy, dz, hi, hx, hy, hf, k⟩
  unfold fPow at hf
  split at hf
  · split at hf
    · rename_i hc
      cases hf
      cases hx.int_eq
      cases hy.int_eq
      exact op_pow pins s σ H _ _ v u Q I rx ry ⟨_, _, rfl, rfl, hc, k _ _ _ (.refl hi) (.int _)⟩
    · cases hf
  · cases hf
theorem size_le {n : Nat} (h : n ≤ 100000) : n ≤ sizeLine := Nat.le_trans h (by decide)
theorem od_add : OpD X (binaryOp .Add) fAdd := by
  intro pins s σ H x y v u Q I rx ry ⟨Hf, dx, dy, dz, hi, hx, hy, hf, k⟩
  unfold fAdd at hf
  split at hf
  · cases hf
    cases hx.int_eq
    cases hy.int_eq
    exact op_add pins s σ H _ _ v u Q I rx ry ⟨_, _, rfl, rfl, k _ _ _ (.refl hi) (.int _)⟩
  · split at hf
    · rename_i a b hc
      cases hf
      obtain ⟨p, xs, rfl, hp, ha⟩ := hx.tup_of
      obtain ⟨q, ys, rfl, hq, hb⟩ := hy.tup_of
      refine op_catA pins s σ H _ _ v u Q I rx ry ⟨p, q, xs, ys, rfl, rfl, sqT_up hi hp, sqT_up hi hq, size_le (by rw [ha.len, hb.len]; exact hc), fun e => ?_, fun e e2 => ?_, fun e e2 r hr => ?_⟩
      · subst e
        cases ha
        exact k _ _ _ (.refl hi) hy
      · subst e2
        cases hb
        refine k _ _ _ (.refl hi) ?_
        rw [List.append_nil]
        exact hx
      · have st := Stp.new (o := .tup (xs ++ ys)) hi hr
        exact k _ _ _ st (.tup (SqT.of upd_same) (DpAll_up st.f (ha.app hb)))
    · cases hf
  · split at hf
    · rename_i a b hc
      cases hf
      cases hx.str_eq
      cases hy.str_eq
      exact op_add_str pins s σ H _ _ v u Q I rx ry ⟨_, _, rfl, rfl, size_le hc, k _ _ _ (.refl hi) (.str _)⟩
    · cases hf
  · cases hf
theorem od_lt : OpD X (compareOp .Lt) fLt := by
  intro pins s σ H x y v u Q I rx ry ⟨Hf, dx, dy, dz, hi, hx, hy, hf, k⟩
  unfold fLt at hf
  split at hf
  · cases hf
    cases hx.int_eq
    cases hy.int_eq
    exact op_lt pins s σ H _ _ v u Q I rx ry ⟨_, _, rfl, rfl, k _ _ _ (.refl hi) (.bl _)⟩
  · cases hf
theorem od_le : OpD X (compareOp .LtE) fLe := by
  intro pins s σ H x y v u Q I rx ry ⟨Hf, dx, dy, dz, hi, hx, hy, hf, k⟩
  unfold fLe at hf
  split at hf
  · cases hf
    cases hx.int_eq
    cases hy.int_eq
    exact op_le pins s σ H _ _ v u Q I rx ry ⟨_, _, rfl, rfl, k _ _ _ (.refl hi) (.bl _)⟩
  · cases hf
theorem od_gt : OpD X (compareOp .Gt) fGt := by
  intro pins s σ H x y v u Q I rx ry ⟨Hf, dx, dy, dz, hi, hx, hy, hf, k⟩
  unfold fGt at hf
  split at hf
  · cases hf
    cases hx.int_eq
    cases hy.int_eq
    exact op_gt pins s σ H _ _ v u Q I rx ry ⟨_, _, rfl, rfl, k _ _ _ (.refl hi) (.bl _)⟩
  · cases hf
theorem od_ge : OpD X (compareOp .GtE) fGe := by
  intro pins s σ H x y v u Q I rx ry ⟨Hf, dx, dy, dz, hi, hx, hy, hf, k⟩
  unfold fGe at hf
  split at hf
  · cases hf
    cases hx.int_eq
    cases hy.int_eq
    exact op_ge pins s σ H _ _ v u Q I rx ry ⟨_, _, rfl, rfl, k _ _ _ (.refl hi) (.bl _)⟩
  · cases hf
theorem dec_vi {a b : Int} : decide (V.int a = V.int b) = decide (a = b) := by simp
theorem dec_vs {a b : Str} : decide (V.str a = V.str b) = decide (a = b) := by simp
theorem dec_vb {a b : Bool} : decide (V.bl a = V.bl b) = decide (a = b) := by simp
theorem od_eq (hu : X.A.units + 64 < cLine) : OpD X (compareOp .Eq) fEq := by
  intro pins s σ H x y v u Q I rx ry ⟨Hf, dx, dy, dz, hi, hx, hy, hf, k⟩
  unfold fEq at hf
  split at hf
  · cases hf
    cases hx.int_eq
    cases hy.int_eq
    exact op_eq pins s σ H _ _ v u Q I rx ry ⟨rfl, by rw [dec_vi]; exact k _ _ _ (.refl hi) (.bl _)⟩
  · cases hf
    cases hx.str_eq
    cases hy.str_eq
    exact op_eq pins s σ H _ _ v u Q I rx ry ⟨rfl, by rw [dec_vs]; exact k _ _ _ (.refl hi) (.bl _)⟩
  · cases hf
    cases hx.bl_eq
    cases hy.bl_eq
    exact op_eq pins s σ H _ _ v u Q I rx ry ⟨rfl, by rw [dec_vb]; exact k _ _ _ (.refl hi) (.bl _)⟩
  · split at hf
    · rename_i hc
      cases hf
      exact op_eqD hu pins s σ H _ _ v u Q I rx ry ⟨_, _, Dp_up hi hx, Dp_up hi hy, hc.1, hc.2, k _ _ _ (.refl hi) (.bl _)⟩
    · cases hf
theorem od_ne (hu : X.A.units + 64 < cLine) : OpD X (compareOp .NotEq) fNe := by
  intro pins s σ H x y v u Q I rx ry ⟨Hf, dx, dy, dz, hi, hx, hy, hf, k⟩
  unfold fNe at hf
  split at hf
  · cases hf
    cases hx.int_eq
    cases hy.int_eq
    exact op_ne pins s σ H _ _ v u Q I rx ry ⟨rfl, by rw [dec_vi]; exact k _ _ _ (.refl hi) (.bl _)⟩
  · cases hf
    cases hx.str_eq
    cases hy.str_eq
    exact op_ne pins s σ H _ _ v u Q I rx ry ⟨rfl, by rw [dec_vs]; exact k _ _ _ (.refl hi) (.bl _)⟩
  · cases hf
    cases hx.bl_eq
    cases hy.bl_eq
    exact op_ne pins s σ H _ _ v u Q I rx ry ⟨rfl, by rw [dec_vb]; exact k _ _ _ (.refl hi) (.bl _)⟩
  · split at hf
    · rename_i hc
      cases hf
      exact op_neD hu pins s σ H _ _ v u Q I rx ry ⟨_, _, Dp_up hi hx, Dp_up hi hy, hc.1, hc.2, k _ _ _ (.refl hi) (.bl _)⟩
    · cases hf
theorem isN_dec {K : PySem.W.Frag} {H : Hp} {v : V} {d : PyData} (h : Dp K H v d) : decide (v = .non) = isN d := by
  cases h <;> simp [isN]
theorem od_is : OpD X (compareOp .Is) fIs := by
  intro pins s σ H x y v u Q I rx ry ⟨Hf, dx, dy, dz, hi, hx, hy, hf, k⟩
  unfold fIs at hf
  split at hf
  · cases hf
    cases hy.non_eq
    exact op_isN pins s σ H _ _ v u Q I rx ry ⟨rfl, by rw [isN_dec hx]; exact k _ _ _ (.refl hi) (.bl _)⟩
  · cases hf
    cases hx.bl_eq
    cases hy.bl_eq
    exact op_is_bl pins s σ H _ _ v u Q I rx ry ⟨_, _, rfl, rfl, k _ _ _ (.refl hi) (.bl _)⟩
  · cases hf
theorem od_isNot : OpD X (compareOp .IsNot) fIsNot := by
  intro pins s σ H x y v u Q I rx ry ⟨Hf, dx, dy, dz, hi, hx, hy, hf, k⟩
  unfold fIsNot at hf
  split at hf
  · cases hf
    cases hy.non_eq
    exact op_notN pins s σ H _ _ v u Q I rx ry ⟨rfl, by rw [isN_dec hx]; exact k _ _ _ (.refl hi) (.bl _)⟩
  · cases hf
    cases hx.bl_eq
    cases hy.bl_eq
    exact op_isnot_bl pins s σ H _ _ v u Q I rx ry ⟨_, _, rfl, rfl, k _ _ _ (.refl hi) (.bl _)⟩
  · cases hf
theorem atI_dp {K : PySem.W.Frag} {H : Hp} {vs : List V} {ds : List PyData} {i : Int} {d : PyData} (h : DpAll K H vs ds) (e : atI ds i = some d) : ∃ v, atI vs i = some v ∧ Dp K H v d := by
  unfold atI at e ⊢
  rw [h.len]
  cases q : ixN ds.length i with
  | none =>
    rw [q] at e
    cases e
  | some j =>
    rw [q] at e
    exact h.at e
theorem od_ix : IxR X (rD2 X.K fIx) := by
  intro value slice pins s σ H x y v u Q I rx ry ⟨Hf, dx, dy, dz, hi, hx, hy, hf, k⟩ hs
  unfold fIx at hf
  split at hf
  · obtain ⟨p, xs, rfl, hp, ha⟩ := hx.lst_of
    cases hy.int_eq
    obtain ⟨w, e, hw⟩ := atI_dp ha hf
    exact ix_list value slice pins s σ H _ _ v u Q I rx ry ⟨p, xs, _, w, rfl, rfl, hi.seq hp, e, k _ _ _ (.refl hi) hw⟩ hs
  · obtain ⟨p, xs, rfl, hp, ha⟩ := hx.tup_of
    cases hy.int_eq
    obtain ⟨w, e, hw⟩ := atI_dp ha hf
    exact ix_tup value slice pins s σ H _ _ v u Q I rx ry ⟨p, xs, _, w, rfl, rfl, sqT_up hi hp, e, k _ _ _ (.refl hi) hw⟩ hs
  · cases hf
theorem od_neg : UnR X (unaryOp .USub) (rD1 X.K fNeg) := by
  intro pins s σ H x v Q I rx ⟨Hf, dx, dz, hi, hx, hf, k⟩
  unfold fNeg at hf
  split at hf
  · cases hf
    cases hx.int_eq
    exact un_neg pins s σ H _ v Q I rx ⟨_, rfl, k _ _ _ (.refl hi) (.int _)⟩
  · cases hf

def eVar (i : Nat) : FE := fun env => match env[i]? with
  | some (some (.val d)) => some d
  | _ => none
def eC (d : PyData) : FE := fun _ => some d
def e2 (F : PyData → PyData → Option PyData) (f g : FE) : FE := fun env => (f env).bind fun x => (g env).bind fun y => F x y
def e1 (F : PyData → Option PyData) (f : FE) : FE := fun env => (f env).bind F
variable {a b c e : Expr} {f g h : FE} {pos : Pos} {F : PyData → PyData → Option PyData}
theorem Option_bind_some {α β : Type} {o : Option α} {q : α → Option β} {y : β} (h : o.bind q = some y) : ∃ x, o = some x ∧ q x = some y := by
  cases o with
  | none => cases h
  | some x => exact ⟨x, rfl, h⟩
theorem x_var (i : Nat) {x : Str} (hN : X.N[i]? = some x := by rfl) (hv : Vis X.env.scope x := by first | exact Or.inl rfl | exact Or.inr (Or.inl rfl) | exact Or.inr (Or.inr rfl)) (hd : (x == ("__debug__" : Str)) = false := by decide)
    (hcd : (x == ("__classdict__" : Str)) = false := by decide) : PE X (.Name x pos) (tE X.K (eVar i)) := by
  refine pe_le (pe_var hN hv hd hcd) fun σ H Q ⟨Z, Hf, env, d, R, hf, k⟩ => ?_
  unfold eVar at hf
  split at hf
  · rename_i d' he
    cases hf
    obtain ⟨v, hs, hv⟩ := R.sl i _ he
    exact ⟨v, hs, k v H Hf (.refl R.st.i) hv⟩
  · cases hf
theorem x_int {i j} : PE X (.Constant (.int i) j pos) (tE X.K (eC (.int i))) := pe_le pe_int fun σ H Q ⟨Z, Hf, env, d, R, hf, k⟩ => by
  cases hf
  exact k _ _ _ (.refl R.st.i) (.int i)
theorem x_str {x j} : PE X (.Constant (.str x) j pos) (tE X.K (eC (.str x))) := pe_le pe_str fun σ H Q ⟨Z, Hf, env, d, R, hf, k⟩ => by
  cases hf
  exact k _ _ _ (.refl R.st.i) (.str x)
theorem x_bl {x j} : PE X (.Constant (.bool x) j pos) (tE X.K (eC (.bool x))) := pe_le pe_bl fun σ H Q ⟨Z, Hf, env, d, R, hf, k⟩ => by
  cases hf
  exact k _ _ _ (.refl R.st.i) (.bl x)
theorem x_non {j} : PE X (.Constant .none j pos) (tE X.K (eC .none)) := pe_le pe_non fun σ H Q ⟨Z, Hf, env, d, R, hf, k⟩ => by
  cases hf
  exact k _ _ _ (.refl R.st.i) .non
theorem tOp_of {K : PySem.W.Frag} {σ : L2.St} {H : Hp} {Q : VK} (q : tE K (e2 F f g) σ H Q) : tOp (rD2 K F) (tE K f) (tE K g) σ H Q := by
  obtain ⟨Z, Hf, env, d, R, hf, k⟩ := q
  obtain ⟨x, hx, hf⟩ := Option_bind_some hf
  obtain ⟨y, hy, hf⟩ := Option_bind_some hf
  exact ⟨Z, Hf, env, x, R, hx, fun v H1 Hf1 s1 d1 => ⟨Z, Hf1, env, y, R.step s1, hy, fun u H2 Hf2 s2 d2 => ⟨Hf2, x, y, d, s2.i, Dp_up s2.f d1, d2, hf, fun r H3 Hf3 s3 d3 => k r H3 Hf3 (s1.trans (s2.trans s3)) d3⟩⟩⟩
theorem x_bin {op : Operator} (ho : OpD X (binaryOp op) F) (ha : PE X a (tE X.K f)) (hb : PE X b (tE X.K g)) : PE X (.BinOp a op b pos) (tE X.K (e2 F f g)) :=
  pe_le (pe_op ho ha hb) fun _ _ _ q => tOp_of q
theorem x_cmp {op : CmpOp} (ho : OpD X (compareOp op) F) (ha : PE X a (tE X.K f)) (hb : PE X b (tE X.K g)) (hm : behindInMarks op b = false) : PE X (.Compare a [op] [b] pos) (tE X.K (e2 F f g)) :=
  pe_le (pe_cmpR ho ha hb hm) fun _ _ _ q => tOp_of q
theorem x_ix (ha : PE X a (tE X.K f)) (hb : PE X b (tE X.K g)) (hs : PlainIx b) : PE X (.Subscript a b pos) (tE X.K (e2 fIx f g)) :=
  pe_le (pe_ix od_ix ha hb hs) fun _ _ _ q => tOp_of q
theorem x_neg (ha : PE X a (tE X.K f)) : PE X (.UnaryOp .USub a pos) (tE X.K (e1 fNeg f)) :=
  pe_le (pe_un od_neg ha) fun σ H Q ⟨Z, Hf, env, d, R, hf, k⟩ => by
    obtain ⟨x, hx, hf⟩ := Option_bind_some hf
    exact ⟨Z, Hf, env, x, R, hx, fun v H1 Hf1 s1 d1 => ⟨Hf1, x, d, s1.i, d1, hf, fun r H3 Hf3 s3 d3 => k r H3 Hf3 (s1.trans s3) d3⟩⟩
def asB (f : FE) : FT := fun env => match f env with
  | some (.bool b) => some b
  | _ => none
theorem asB_some {f : FE} {env : En} {b : Bool} (h : asB f env = some b) : f env = some (.bool b) := by
  unfold asB at h
  split at h
  · rename_i q
    cases h
    exact q
  · cases h
theorem t_val (ha : PE X a (tE X.K f)) (he : ∀ whole, isTrue a X.env whole = (do let v ← whole; standAt a.pos; holding [v] (truthy v)) := by intro _; rfl) : PT X a (tT X.K (asB f)) :=
  pt_le (pt_val ha he) fun σ H Q ⟨Z, Hf, env, d, R, hf, k⟩ => ⟨Z, Hf, env, .bool d, R, asB_some hf, fun v H1 Hf1 s1 d1 => ⟨d, d1.bl_eq, k H1 Hf1 s1⟩⟩
theorem t_cmp {op : CmpOp} (ho : OpD X (compareOp op) F) (ha : PE X a (tE X.K f)) (hb : PE X b (tE X.K g)) (hm : behindInMarks op b = false) : PT X (.Compare a [op] [b] pos) (tT X.K (asB (e2 F f g))) :=
  pt_le (pt_cmpR ho ha hb hm) fun σ H Q ⟨Z, Hf, env, d, R, hf, k⟩ => by
    have q : tE X.K (e2 F f g) σ H (fun x H' => ∃ k, x = .bl k ∧ Q k H') := ⟨Z, Hf, env, .bool d, R, asB_some hf, fun v H1 Hf1 s1 d1 => ⟨d, d1.bl_eq, k H1 Hf1 s1⟩⟩
    exact tOp_of q
/-- a op1 b op2 c -/
def eChain (F G : PyData → PyData → Option PyData) (f g h : FE) : FE := fun env => (f env).bind fun x => (g env).bind fun y => (F x y).bind fun r => match r with
  | .bool true => (h env).bind fun z => G y z
  | .bool false => some (.bool false)
  | _ => none
theorem tChain_of {G : PyData → PyData → Option PyData} {K : PySem.W.Frag} {σ : L2.St} {H : Hp} {Q : VK} (q : tE K (eChain F G f g h) σ H Q) : tChain (rD2 K F) (rD2 K G) (tE K f) (tE K g) (tE K h) σ H Q := by
  obtain ⟨Z, Hf, env, d, R, hf, k⟩ := q
  obtain ⟨x, hx, hf⟩ := Option_bind_some hf
  obtain ⟨y, hy, hf⟩ := Option_bind_some hf
  obtain ⟨r, hr, hf⟩ := Option_bind_some hf
  refine ⟨Z, Hf, env, x, R, hx, fun v H1 Hf1 s1 d1 => ⟨Z, Hf1, env, y, R.step s1, hy, fun u H2 Hf2 s2 d2 => ⟨Hf2, x, y, r, s2.i, Dp_up s2.f d1, d2, hr, fun w H3 Hf3 s3 d3 => ?_⟩⟩⟩
  split at hf
  · refine ⟨true, d3.bl_eq, ?_⟩
    obtain ⟨z, hz, hf⟩ := Option_bind_some hf
    exact iteT ⟨Z, Hf3, env, z, R.step (s1.trans (s2.trans s3)), hz, fun w' H4 Hf4 s4 d4 => ⟨Hf4, y, z, d, s4.i, Dp_up (s3.f.trans s4.f) d2, d4, hf, fun r' H5 Hf5 s5 d5 => k r' H5 Hf5 (s1.trans (s2.trans (s3.trans (s4.trans s5)))) d5⟩⟩
  · refine ⟨false, d3.bl_eq, ?_⟩
    cases hf
    exact iteF (k _ _ _ (s1.trans (s2.trans s3)) (.bl false))
  · cases hf
theorem x_chain {op op' : CmpOp} {G : PyData → PyData → Option PyData} (ho : OpD X (compareOp op) F) (ho' : OpD X (compareOp op') G) (ha : PE X a (tE X.K f)) (hb : PE X b (tE X.K g)) (hc : PE X c (tE X.K h))
    (hm : lastMarks [op, op'] [b, c] = false := by with_unfolding_all rfl) : PE X (.Compare a [op, op'] [b, c] pos) (tE X.K (eChain F G f g h)) := pe_le (pe_chain ho ho' ha hb hc hm) fun _ _ _ q => tChain_of q
theorem t_chain {op op' : CmpOp} {G : PyData → PyData → Option PyData} (ho : OpD X (compareOp op) F) (ho' : OpD X (compareOp op') G) (ha : PE X a (tE X.K f)) (hb : PE X b (tE X.K g)) (hc : PE X c (tE X.K h))
    (hm : lastMarks [op, op'] [b, c] = false := by with_unfolding_all rfl) : PT X (.Compare a [op, op'] [b, c] pos) (tT X.K (asB (eChain F G f g h))) :=
  pt_le (pt_chain ho ho' ha hb hc hm) fun σ H Q ⟨Z, Hf, env, d, R, hf, k⟩ => by
    have q : tE X.K (eChain F G f g h) σ H (fun x H' => ∃ k, x = .bl k ∧ Q k H') := ⟨Z, Hf, env, .bool d, R, asB_some hf, fun v H1 Hf1 s1 d1 => ⟨d, d1.bl_eq, k H1 Hf1 s1⟩⟩
    exact tChain_of q
def tAndF (p q : FT) : FT := fun env => match p env with
  | some true => q env
  | some false => some false
  | none => none
def tOrF (p q : FT) : FT := fun env => match p env with
  | some true => some true
  | some false => q env
  | none => none
def tNotF (p : FT) : FT := fun env => (p env).map (!·)
variable {p q : FT} {rest : List Expr}
theorem tAnd_of {K : PySem.W.Frag} {σ : L2.St} {H : Hp} {Q : Bool → Hp → Prop} (w : tT K (tAndF p q) σ H Q) : tAnd (tT K p) (tT K q) σ H Q := by
  obtain ⟨Z, Hf, env, d, R, hf, k⟩ := w
  unfold tAndF at hf
  split at hf
  · rename_i hp
    exact ⟨Z, Hf, env, true, R, hp, fun H1 Hf1 s1 => iteT ⟨Z, Hf1, env, d, R.step s1, hf, fun H2 Hf2 s2 => k H2 Hf2 (s1.trans s2)⟩⟩
  · rename_i hp
    cases hf
    exact ⟨Z, Hf, env, false, R, hp, fun H1 Hf1 s1 => iteF (k H1 Hf1 s1)⟩
  · cases hf
theorem tOr_of {K : PySem.W.Frag} {σ : L2.St} {H : Hp} {Q : Bool → Hp → Prop} (w : tT K (tOrF p q) σ H Q) : tOr (tT K p) (tT K q) σ H Q := by
  obtain ⟨Z, Hf, env, d, R, hf, k⟩ := w
  unfold tOrF at hf
  split at hf
  · rename_i hp
    cases hf
    exact ⟨Z, Hf, env, true, R, hp, fun H1 Hf1 s1 => iteT (k H1 Hf1 s1)⟩
  · rename_i hp
    exact ⟨Z, Hf, env, false, R, hp, fun H1 Hf1 s1 => iteF ⟨Z, Hf1, env, d, R.step s1, hf, fun H2 Hf2 s2 => k H2 Hf2 (s1.trans s2)⟩⟩
  · cases hf
theorem pw_le {e : Expr} {t t' : TT} (h : PW X e t) (hm : ∀ σ H Q, t' σ H Q → t σ H Q) : PW X e t' := ⟨fun wh pins s σ H Q I q => h.run wh pins s σ H Q I (hm σ H Q q)⟩
theorem w_and (ha : PT X a (tT X.K p)) (hb : PW X (.BoolOp .And (b :: rest) pos) (tT X.K q)) : PW X (.BoolOp .And (a :: b :: rest) pos) (tT X.K (tAndF p q)) := pw_le (pw_and ha hb) fun _ _ _ w => tAnd_of w
theorem w_or (ha : PT X a (tT X.K p)) (hb : PW X (.BoolOp .Or (b :: rest) pos) (tT X.K q)) : PW X (.BoolOp .Or (a :: b :: rest) pos) (tT X.K (tOrF p q)) := pw_le (pw_or ha hb) fun _ _ _ w => tOr_of w
theorem t_not (ha : PT X a (tT X.K p)) : PT X (.UnaryOp .Not a pos) (tT X.K (tNotF p)) := pt_le (pt_not ha) fun σ H Q ⟨Z, Hf, env, d, R, hf, k⟩ => by
  unfold tNotF at hf
  obtain ⟨x, hx, rfl⟩ := Option.map_eq_some_iff.mp hf
  exact ⟨Z, Hf, env, x, R, hx, fun H1 Hf1 s1 => k H1 Hf1 s1⟩
/-- and, or, not as values (bools) -/
def eAnd (f g : FE) : FE := fun env => match f env with
  | some (.bool true) => g env
  | some (.bool false) => some (.bool false)
  | _ => none
def eOr (f g : FE) : FE := fun env => match f env with
  | some (.bool true) => some (.bool true)
  | some (.bool false) => g env
  | _ => none
def eNot (f : FE) : FE := fun env => match f env with
  | some (.bool b) => some (.bool (!b))
  | _ => none
theorem x_one {op} (ha : PE X a (tE X.K f)) : PE X (.BoolOp op [a] pos) (tE X.K f) := pe_one ha
theorem x_and (ha : PE X a (tE X.K f)) (hb : PE X (.BoolOp .And (b :: rest) pos) (tE X.K g)) : PE X (.BoolOp .And (a :: b :: rest) pos) (tE X.K (eAnd f g)) := pe_le (pe_and ha hb) fun σ H Q ⟨Z, Hf, env, d, R, hf, k⟩ => by
  unfold eAnd at hf
  split at hf
  · rename_i hp
    exact ⟨Z, Hf, env, _, R, hp, fun v H1 Hf1 s1 d1 => ⟨true, d1.bl_eq, iteT ⟨Z, Hf1, env, d, R.step s1, hf, fun u H2 Hf2 s2 d2 => k u H2 Hf2 (s1.trans s2) d2⟩⟩⟩
  · rename_i hp
    cases hf
    exact ⟨Z, Hf, env, _, R, hp, fun v H1 Hf1 s1 d1 => ⟨false, d1.bl_eq, iteF (k _ H1 Hf1 s1 (.bl false))⟩⟩
  · cases hf
theorem x_or (ha : PE X a (tE X.K f)) (hb : PE X (.BoolOp .Or (b :: rest) pos) (tE X.K g)) : PE X (.BoolOp .Or (a :: b :: rest) pos) (tE X.K (eOr f g)) := pe_le (pe_or ha hb) fun σ H Q ⟨Z, Hf, env, d, R, hf, k⟩ => by
  unfold eOr at hf
  split at hf
  · rename_i hp
    cases hf
    exact ⟨Z, Hf, env, _, R, hp, fun v H1 Hf1 s1 d1 => ⟨true, d1.bl_eq, iteT (k _ H1 Hf1 s1 (.bl true))⟩⟩
  · rename_i hp
    exact ⟨Z, Hf, env, _, R, hp, fun v H1 Hf1 s1 d1 => ⟨false, d1.bl_eq, iteF ⟨Z, Hf1, env, d, R.step s1, hf, fun u H2 Hf2 s2 d2 => k u H2 Hf2 (s1.trans s2) d2⟩⟩⟩
  · cases hf
theorem x_not (ha : PE X a (tE X.K f)) : PE X (.UnaryOp .Not a pos) (tE X.K (eNot f)) := pe_le (pe_not ha) fun σ H Q ⟨Z, Hf, env, d, R, hf, k⟩ => by
  unfold eNot at hf
  split at hf
  · rename_i hp
    cases hf
    exact ⟨Z, Hf, env, _, R, hp, fun v H1 Hf1 s1 d1 => ⟨_, d1.bl_eq, k _ H1 Hf1 s1 (.bl _)⟩⟩
  · cases hf
def eIf (p : FT) (f g : FE) : FE := fun env => match p env with
  | some true => f env
  | some false => g env
  | none => none
theorem x_if {t : Expr} (ht : PT X t (tT X.K p)) (ha : PE X a (tE X.K f)) (hb : PE X b (tE X.K g)) : PE X (.IfExp t a b pos) (tE X.K (eIf p f g)) := pe_le (pe_ifExp ht ha hb) fun σ H Q ⟨Z, Hf, env, d, R, hf, k⟩ => by
  unfold eIf at hf
  split at hf
  · rename_i hp
    exact ⟨Z, Hf, env, true, R, hp, fun H1 Hf1 s1 => iteT ⟨Z, Hf1, env, d, R.step s1, hf, fun u H2 Hf2 s2 d2 => k u H2 Hf2 (s1.trans s2) d2⟩⟩
  · rename_i hp
    exact ⟨Z, Hf, env, false, R, hp, fun H1 Hf1 s1 => iteF ⟨Z, Hf1, env, d, R.step s1, hf, fun u H2 Hf2 s2 d2 => k u H2 Hf2 (s1.trans s2) d2⟩⟩
  · cases hf

def aNil : FL := fun _ => some []
def aCons (f : FE) (r : FL) : FL := fun env => (f env).bind fun x => (r env).bind fun xs => some (x :: xs)
variable {es : List Expr} {r : FL}
theorem a_nil : PA X [] (tA X.K aNil) := pa_le pa_nil fun σ H Q ⟨Z, Hf, env, d, R, hf, k⟩ => by
  cases hf
  exact k [] H Hf (.refl R.st.i) .nil
theorem a_cons (ha : PE X e (tE X.K f)) (hr : PA X es (tA X.K r)) (hs : starEach (e :: es) X.env = (false, eval e X.env) :: starEach es X.env := by rfl) : PA X (e :: es) (tA X.K (aCons f r)) :=
  pa_le (pa_cons ha hr hs) fun σ H Q ⟨Z, Hf, env, d, R, hf, k⟩ => by
    obtain ⟨x, hx, hf⟩ := Option_bind_some hf
    obtain ⟨xs, hxs, hf⟩ := Option_bind_some hf
    cases hf
    exact ⟨Z, Hf, env, x, R, hx, fun v H1 Hf1 s1 d1 => ⟨Z, Hf1, env, xs, R.step s1, hxs, fun vs H2 Hf2 s2 d2 => k (v :: vs) H2 Hf2 (s1.trans s2) (.cons (Dp_up s2.f d1) d2)⟩⟩
def eTup (r : FL) : FE := fun env => (r env).bind fun xs => if xs.length ≤ 100000 then some (.tuple xs) else none
def lLst (r : FL) : FL := fun env => (r env).bind fun xs => if xs.length ≤ 100000 then some xs else none
theorem x_tup {x1} (h : PA X es (tA X.K r)) : PE X (.Tuple es x1 pos) (tE X.K (eTup r)) := pe_le (pe_tup h) fun σ H Q ⟨Z, Hf, env, d, R, hf, k⟩ => by
  obtain ⟨xs, hxs, hf⟩ := Option_bind_some hf
  split at hf
  · rename_i hl
    cases hf
    refine ⟨Z, Hf, env, xs, R, hxs, fun vs H1 Hf1 s1 d1 => ⟨size_le (by rw [d1.len]; exact hl), fun p hp => ?_⟩⟩
    have s2 := Stp.new (o := .tup vs) s1.i hp
    exact k _ _ _ (s1.trans s2) (.tup (SqT.of upd_same) (DpAll_up s2.f d1))
  · cases hf
theorem l_lst (h : PA X es (tA X.K r)) : PE X (.List es pos) (tL X.K (lLst r)) := pe_le (pe_lst h) fun σ H Q ⟨Z, Hf, env, d, R, hf, k⟩ => by
  obtain ⟨xs, hxs, hf⟩ := Option_bind_some hf
  split at hf
  · rename_i hl
    cases hf
    refine ⟨Z, Hf, env, d, R, hxs, fun vs H1 Hf1 s1 d1 => ⟨size_le (by rw [d1.len]; exact hl), fun p hp => ?_⟩⟩
    exact k p vs _ _ (s1.trans (Stp.hid s1.i hp)) (s1.h.free hp) (s1.i.free hp) upd_same d1
  · cases hf
/-- a new list, taken as a value -/
def eL (l : FL) : FE := fun env => (l env).map .list
theorem x_L {l : FL} (h : PE X e (tL X.K l)) : PE X e (tE X.K (eL l)) := pe_le h fun σ H Q ⟨Z, Hf, env, d, R, hf, k⟩ => by
  unfold eL at hf
  obtain ⟨xs, hxs, hq⟩ := Option.map_eq_some_iff.mp hf
  subst hq
  refine ⟨Z, Hf, env, xs, R, hxs, fun p vs H1 Hf1 s1 h0 h1 h2 d1 => ?_⟩
  exact k _ _ _ (s1.show h0 h1 h2) (.lst (SqL.of upd_same) (DpAll_up (same_new h1) d1))

def eCall (F : List PyData → Option PyData) (r : FL) : FE := fun env => (r env).bind F
def lCall (F : List PyData → Option (List PyData)) (r : FL) : FL := fun env => (r env).bind F
theorem tCB_of {G : List PyData → Option PyData} {K : PySem.W.Frag} {σ : L2.St} {H : Hp} {Q : VK} (w : tE K (eCall G r) σ H Q) : tCB (rDc K G) (tA K r) σ H Q := by
  obtain ⟨Z, Hf, env, d, R, hf, k⟩ := w
  obtain ⟨xs, hxs, hf⟩ := Option_bind_some hf
  exact ⟨Z, Hf, env, xs, R, hxs, fun vs H1 Hf1 s1 d1 => ⟨Hf1, xs, d, s1.i, d1, hf, fun v H2 Hf2 s2 d2 => k v H2 Hf2 (s1.trans s2) d2⟩⟩
theorem tCBL_of {G : List PyData → Option (List PyData)} {K : PySem.W.Frag} {σ : L2.St} {H : Hp} {Q : VK} (w : tL K (lCall G r) σ H Q) : tCB (rDcL K G) (tA K r) σ H Q := by
  obtain ⟨Z, Hf, env, d, R, hf, k⟩ := w
  obtain ⟨xs, hxs, hf⟩ := Option_bind_some hf
  exact ⟨Z, Hf, env, xs, R, hxs, fun vs H1 Hf1 s1 d1 => ⟨Hf1, xs, d, s1.i, d1, hf, fun p us H2 Hf2 s2 h0 h1 h2 d2 => k p us H2 Hf2 (s1.trans s2) (s1.h.free h0) h1 h2 d2⟩⟩
theorem x_callB {G : List PyData → Option PyData} {x : Str} {id : String} {p : Pos} (hc : CallD X (.builtin id) G) (hg : Gl X x) (hm : X.mg x = none) (hv : bootBuiltins x = some (.builtin id)) (ha : PA X (e :: es) (tA X.K r)) (hn : x ≠ "__name__" := by decide) (hdb : (x == ("__debug__" : Str)) = false := by decide)
    (he : starEach (e :: es) X.env = (false, eval e X.env) :: starEach es X.env := by rfl) (hpl : (backTo pos (starEach es X.env)).any (·.1) = false := by rfl) :
    PE X (.Call (.Name x p) (e :: es) [] pos) (tE X.K (eCall G r)) := pe_le (pe_callB hc hg hm hv ha hn hdb he hpl) fun _ _ _ w => tCB_of w
theorem x_callTy {G : List PyData → Option PyData} {x : Str} {T : String} {p : Pos} (hc : CallD X (.type T) G) (hg : Gl X x) (hm : X.mg x = none) (hv : bootBuiltins x = some (.type T)) (ha : PA X (e :: es) (tA X.K r)) (hn : x ≠ "__name__" := by decide) (hdb : (x == ("__debug__" : Str)) = false := by decide)
    (he : starEach (e :: es) X.env = (false, eval e X.env) :: starEach es X.env := by rfl) (hpl : (backTo pos (starEach es X.env)).any (·.1) = false := by rfl) :
    PE X (.Call (.Name x p) (e :: es) [] pos) (tE X.K (eCall G r)) := pe_le (pe_callTy hc hg hm hv ha hn hdb he hpl) fun _ _ _ w => tCB_of w
theorem l_callTy {G : List PyData → Option (List PyData)} {x : Str} {T : String} {p : Pos} (hc : CallL X (.type T) G) (hg : Gl X x) (hm : X.mg x = none) (hv : bootBuiltins x = some (.type T)) (ha : PA X (e :: es) (tA X.K r)) (hn : x ≠ "__name__" := by decide) (hdb : (x == ("__debug__" : Str)) = false := by decide)
    (he : starEach (e :: es) X.env = (false, eval e X.env) :: starEach es X.env := by rfl) (hpl : (backTo pos (starEach es X.env)).any (·.1) = false := by rfl) :
    PE X (.Call (.Name x p) (e :: es) [] pos) (tL X.K (lCall G r)) := pe_le (pe_callTy hc hg hm hv ha hn hdb he hpl) fun _ _ _ w => tCBL_of w
end
end Fi

namespace Fi
open PySem L2

def tG (K : PySem.W.Frag) (m : Bool) (sl : List Nat) (g : PyData → En → Option En) : TG := fun v σ H Q => ∃ (Z : Hp × Hp) (Hf : Hp) (env : En) (d : PyData) (env' : En), Rel K Z Hf H env σ ∧ Dp K Hf v d ∧ g d env = some env' ∧
  ∀ σ' H' Hf', Same Hf Hf' → Rel K Z Hf' H' env' σ' → (∀ i : Nat, i ∉ sl → σ'[i]? = σ[i]?) → σ'.length = σ.length → (m = false → H' = H ∧ Hf' = Hf) → Q σ' H'
def tGs (K : PySem.W.Frag) (m : Bool) (sl : List Nat) (g : List PyData → En → Option En) : TGs := fun vs σ H Q => ∃ (Z : Hp × Hp) (Hf : Hp) (env : En) (ds : List PyData) (env' : En), Rel K Z Hf H env σ ∧ DpAll K Hf vs ds ∧ g ds env = some env' ∧
  ∀ σ' H' Hf', Same Hf Hf' → Rel K Z Hf' H' env' σ' → (∀ i : Nat, i ∉ sl → σ'[i]? = σ[i]?) → σ'.length = σ.length → (m = false → H' = H ∧ Hf' = Hf) → Q σ' H'
def gSet (i : Nat) : PyData → En → Option En := fun d env => some (env.set i (some (.val d)))
def gsNil : List PyData → En → Option En := fun ds env => match ds with
  | [] => some env
  | _ => none
def gsCons (g : PyData → En → Option En) (r : List PyData → En → Option En) : List PyData → En → Option En := fun ds env => match ds with
  | d :: ds => (g d env).bind (r ds)
  | [] => none
def gTupF (n : Nat) (r : List PyData → En → Option En) : PyData → En → Option En := fun d env => match d with
  | .tuple ds => if ds.length = n then r ds env else none
  | _ => none
def gSub (i : Nat) (f : FE) : PyData → En → Option En := fun d env => match env[i]? with
  | some (some (.own l)) => match f env with
    | some (.int k) => match ixN l.length k with
      | some j => some (env.set i (some (.own (l.set j d))))
      | none => none
    | _ => none
  | _ => none
section
variable {X : Cx} {pos : Pos}
theorem g_name (i : Nat) {x : Str} (hN : X.N.Nodup) (hi : X.N[i]? = some x := by rfl) (hx : Loc X.env.scope x := by first | exact Or.inl rfl | exact Or.inr rfl) (hf : X.fn x = true ∨ X.env.scope.names.lookup x = some .local := by first | exact .inl rfl | exact .inr rfl | assumption) :
    PG X (.Name x pos) (tG X.K false [i] (gSet i)) := by
  refine pg_le (pg_name hN hi hx hf) fun v σ H Q ⟨Z, Hf, env, d, env', R, hd, hg, k⟩ => ?_
  cases hg
  refine k (σ.set i (some v)) H Hf (Same.refl _) (R.set i hd) (fun j hj => ?_) (List.length_set ..) fun _ => ⟨rfl, rfl⟩
  rw [List.getElem?_set_ne (fun e => hj (by simp [e]))]
theorem gs_nil {m : Bool} : PGs X [] (tGs X.K m [] gsNil) := by
  refine ⟨fun pins s σ H vs us Q I r ⟨Z, Hf, env, ds, env', R, hd, hg, k⟩ => ?_⟩
  unfold gsNil at hg
  split at hg
  · cases hg
    cases hd
    exact pgs_nil.run pins s σ H [] us Q I r ⟨rfl, k σ H Hf (Same.refl _) R (fun _ _ => rfl) rfl fun _ => ⟨rfl, rfl⟩⟩
  · cases hg
theorem gs_cons {e : Expr} {es : List Expr} {m n : Bool} {s1 s2 : List Nat} {g : PyData → En → Option En} {r : List PyData → En → Option En} (h1 : PG X e (tG X.K m s1 g)) (h2 : PGs X es (tGs X.K n s2 r))
    (hs : (assignEach (e :: es) X.env).map (·.2) = assign e X.env :: (assignEach es X.env).map (·.2) := by rfl) : PGs X (e :: es) (tGs X.K (m || n) (s1 ++ s2) (gsCons g r)) := by
  refine ⟨fun pins s σ H vs us Q I q ⟨Z, Hf, env, ds, env', R, hd, hg, k⟩ => ?_⟩
  refine (pgs_cons h1 h2 hs).run pins s σ H vs us Q I q ?_
  unfold gsCons at hg
  split at hg
  · rename_i d ds
    cases hd with
    | cons hd ht =>
      obtain ⟨e1, hg1, hg⟩ := Option_bind_some hg
      refine ⟨_, _, rfl, Z, Hf, env, d, e1, R, hd, hg1, fun σ' H' Hf' s1 R' p1 l1 m1 => ?_⟩
      refine ⟨Z, Hf', e1, ds, env', R', DpAll_up s1 ht, hg, fun σ2 H2 Hf2 s2 R2 p2 l2 m2 => ?_⟩
      refine k σ2 H2 Hf2 (s1.trans s2) R2 (fun i hi => ?_) (l2.trans l1) fun hm => ?_
      · have hi' : i ∉ _ ∧ i ∉ _ := ⟨fun q => hi (List.mem_append_left _ q), fun q => hi (List.mem_append_right _ q)⟩
        rw [p2 i hi'.2, p1 i hi'.1]
      · rw [Bool.or_eq_false_iff] at hm
        obtain ⟨a1, a2⟩ := m1 hm.1
        obtain ⟨b1, b2⟩ := m2 hm.2
        exact ⟨b1.trans a1, b2.trans a2⟩
  · cases hg
theorem g_tup {es : List Expr} {k n : Nat} {m : Bool} {sl : List Nat} {r : List PyData → En → Option En} (hc : X.calm = true) (h : PGs X es (tGs X.K m sl r))
    (hn : (assignEach es X.env).length = n := by rfl) (hst : (assignEach es X.env).findIdx? (·.1) = none := by rfl) : PG X (.Tuple es k pos) (tG X.K m sl (gTupF n r)) := by
  refine pg_le (pg_tup hc h hn hst) fun v σ H Q ⟨Z, Hf, env, d, env', R, hd, hg, kk⟩ => ?_
  unfold gTupF at hg
  split at hg
  · rename_i ds
    split at hg
    · rename_i hl
      obtain ⟨a, xs, rfl, hp, ha⟩ := hd.tup_of
      exact ⟨a, xs, rfl, sqT_up R.st.i hp, by rw [ha.len]; exact hl, Z, Hf, env, ds, env', R, ha, hg, kk⟩
    · cases hg
  · cases hg
/-- x[e] = .., x an own list -/
theorem g_sub (i : Nat) {x : Str} {e : Expr} {p : Pos} {f : FE} (hN : X.N[i]? = some x := by rfl) (hv : Vis X.env.scope x := by first | exact Or.inl rfl | exact Or.inr (Or.inl rfl) | exact Or.inr (Or.inr rfl)) (he : PE X e (tE X.K f)) (hd : (x == ("__debug__" : Str)) = false := by decide)
    (hcd : (x == ("__classdict__" : Str)) = false := by decide)
    (ha : ∀ v, assign (.Subscript (.Name x p) e pos) X.env v = (do
      let ov ← holding [v] (eval (.Name x p) X.env)
      let iv ← holding [v, ov] (eval e X.env)
      standAt pos
      holding [v, ov, iv] (setItem ov iv v)
      release [v, ov, iv] []) := by intro _; rfl) : PG X (.Subscript (.Name x p) e pos) (tG X.K true [] (gSub i f)) := by
  refine pg_le (pg_sub (pe_var hN hv hd hcd) he set_list ha) fun v σ H Q ⟨Z, Hf, env, d, env', R, hd, hg, k⟩ => ?_
  unfold gSub at hg
  split at hg
  · rename_i l hl
    split at hg
    · rename_i kk hk
      split at hg
      · rename_i j hj
        cases hg
        obtain ⟨w, hs, p, vs, rfl, hz, hf, hp, ha⟩ := R.sl i _ hl
        refine ⟨.ref p, hs, Z, Hf, env, _, R, hk, fun u H1 Hf1 s1 d1 => ?_⟩
        cases d1.int_eq
        refine ⟨p, vs, kk, j, rfl, rfl, s1.h p _ hp, by rw [ha.len]; exact hj, ?_⟩
        have R1 := (R.step s1).mut hl hs ((DpAll_up s1.f ha).set (Dp_up s1.f hd) j)
        exact k σ _ Hf1 s1.f R1 (fun _ _ => rfl) rfl (fun z => Bool.noConfusion z)
      · cases hg
    · cases hg
  · cases hg
end

def sNext : FS := fun env => some (.next env)
def sSeq (f g : FS) : FS := fun env => match f env with
  | some (.next e) => g e
  | o => o
def sAsg (f : FE) (g : PyData → En → Option En) : FS := fun env => (f env).bind fun d => (g d env).map .next
def sSet (i : Nat) (f : FE) : FS := fun env => (f env).map fun d => .next (env.set i (some (.val d)))
def sOwn (i : Nat) (l : FL) : FS := fun env => (l env).map fun ds => .next (env.set i (some (.own ds)))
def sPar (i j : Nat) (r : FL) : FS := fun env => match r env with
  | some [x, y] => some (.next ((env.set i (some (.val x))).set j (some (.val y))))
  | _ => none
def sParL (i j : Nat) (l : FL) (h : FE) : FS := fun env => (l env).bind fun xs => (h env).bind fun d => some (.next ((env.set i (some (.own xs))).set j (some (.val d))))
def sIf (p : FT) (f g : FS) : FS := fun env => match p env with
  | some true => f env
  | some false => g env
  | none => none
def sRet (f : FE) : FS := fun env => (f env).map .ret
def sRetL (l : FL) : FS := fun env => (l env).map .retL
def sRetO (i : Nat) : FS := fun env => match env[i]? with
  | some (some (.own l)) => some (.retL l)
  | _ => none
def sDrop (f : FE) : FS := fun env => (f env).map fun _ => .next env
def sAug (i : Nat) (g : Int → Int → Int) (f : FE) : FS := fun env => match eVar i env, f env with
  | some (.int a), some (.int b) => some (.next (env.set i (some (.val (.int (g a b))))))
  | _, _ => none
def sApp (i : Nat) (f : FE) : FS := fun env => match env[i]? with
  | some (some (.own l)) => (f env).bind fun d => if l.length < 100000 then some (.next (env.set i (some (.own (l ++ [d]))))) else none
  | _ => none
def sFrz (i : Nat) (f : FS) : FS := fun env => f (frz i env)
section
variable {X : Cx} {st : Stmt} {rest : List Stmt} {e : Expr} {pos : Pos} {f g : FS} {h : FE} {l : FL} {p : FT}
theorem s_nil : PSs X [] (tS X.K sNext) := pss_le pss_nil fun D σ H ⟨Z, Hf, env, o, R, hf, k⟩ => by
  cases hf
  exact k σ H Hf (Same.refl _) R
theorem s_pass : PS X (.Pass pos) (tS X.K sNext) := ps_le ps_pass fun D σ H ⟨Z, Hf, env, o, R, hf, k⟩ => by
  cases hf
  exact k σ H Hf (Same.refl _) R
theorem s_cons (h1 : PS X st (tS X.K f)) (h2 : PSs X rest (tS X.K g)) : PSs X (st :: rest) (tS X.K (sSeq f g)) := pss_le (pss_cons h1 h2) fun D σ H ⟨Z, Hf, env, o, R, hf, k⟩ => by
  unfold sSeq at hf
  cases q : f env with
  | none =>
    rw [q] at hf
    cases hf
  | some o1 =>
    rw [q] at hf
    cases o1 with
    | next e1 => exact ⟨Z, Hf, env, .next e1, R, q, fun σ' H' Hf' s1 R' => ⟨Z, Hf', e1, o, R', hf, k.up s1⟩⟩
    | brk e1 =>
      cases hf
      exact ⟨Z, Hf, env, .brk e1, R, q, k⟩
    | cont e1 =>
      cases hf
      exact ⟨Z, Hf, env, .cont e1, R, q, k⟩
    | ret d =>
      cases hf
      exact ⟨Z, Hf, env, .ret d, R, q, k⟩
    | retL d =>
      cases hf
      exact ⟨Z, Hf, env, .retL d, R, q, k⟩
    | retD d =>
      cases hf
      exact ⟨Z, Hf, env, .retD d, R, q, k⟩
theorem s_one (h1 : PS X st (tS X.K f)) : PSs X [st] (tS X.K f) := pss_one h1
theorem s_frz (i : Nat) (h1 : PSs X rest (tS X.K f)) : PSs X rest (tS X.K (sFrz i f)) := pss_le h1 fun D σ H ⟨Z, Hf, env, o, R, hf, k⟩ => by
  obtain ⟨Hf', s1, R'⟩ := R.frz i
  exact ⟨Z, Hf', frz i env, o, R', hf, k.up s1⟩
theorem s_asg {tg : Expr} {m : Bool} {sl : List Nat} {gg : PyData → En → Option En} (he : PE X e (tE X.K h)) (hg : PG X tg (tG X.K m sl gg)) (hs : swapsWithSole [tg] e pos.line X.env = pure false := by rfl) (hw : swappedStores [tg] e X.env = pure none := by rfl)
    (h1 : (assignEach [tg] X.env).map (·.2) = [assign tg X.env] := by rfl) : PS X (.Assign [tg] e pos) (tS X.K (sAsg h gg)) := ps_le (ps_asg he hg hs hw h1) fun D σ H ⟨Z, Hf, env, o, R, hf, k⟩ => by
  obtain ⟨d, hd, hf⟩ := Option_bind_some hf
  obtain ⟨env', hg, rfl⟩ := Option.map_eq_some_iff.mp hf
  exact ⟨Z, Hf, env, d, R, hd, fun v H1 Hf1 s1 d1 => ⟨Z, Hf1, env, d, env', R.step s1, d1, hg, fun σ' H' Hf' s2 R' _ _ _ => k σ' H' Hf' (s1.f.trans s2) R'⟩⟩
theorem s_set (i : Nat) {x : Str} {pos' : Pos} (hN : X.N.Nodup) (he : PE X e (tE X.K h)) (hi : X.N[i]? = some x := by rfl) (hx : Loc X.env.scope x := by first | exact Or.inl rfl | exact Or.inr rfl) (hs : swapsWith e (some (.Name x pos')) pos.line X.env = pure false := by rfl) (hf : X.fn x = true ∨ X.env.scope.names.lookup x = some .local := by first | exact .inl rfl | exact .inr rfl | assumption) :
    PS X (.Assign [.Name x pos'] e pos) (tS X.K (sSet i h)) := ps_le (ps_set hN hi hx he hs hf) fun D σ H ⟨Z, Hf, env, o, R, hf, k⟩ => by
  obtain ⟨d, hd, rfl⟩ := Option.map_eq_some_iff.mp hf
  exact ⟨Z, Hf, env, d, R, hd, fun v H1 Hf1 s1 d1 => k _ H1 Hf1 s1.f ((R.step s1).set i d1)⟩
theorem s_own (i : Nat) {x : Str} {pos' : Pos} (hN : X.N.Nodup) (he : PE X e (tL X.K l)) (hi : X.N[i]? = some x := by rfl) (hx : Loc X.env.scope x := by first | exact Or.inl rfl | exact Or.inr rfl) (hs : swapsWith e (some (.Name x pos')) pos.line X.env = pure false := by rfl) (hf : X.fn x = true ∨ X.env.scope.names.lookup x = some .local := by first | exact .inl rfl | exact .inr rfl | assumption) :
    PS X (.Assign [.Name x pos'] e pos) (tS X.K (sOwn i l)) := ps_le (ps_set hN hi hx he hs hf) fun D σ H ⟨Z, Hf, env, o, R, hf, k⟩ => by
  obtain ⟨d, hd, rfl⟩ := Option.map_eq_some_iff.mp hf
  exact ⟨Z, Hf, env, d, R, hd, fun p vs H1 Hf1 s1 h0 h1 h2 d1 => k _ H1 Hf1 s1.f (R.setOwn s1 i h0 h1 h2 d1)⟩
theorem s_par (i j : Nat) {x y : Str} {a b : Expr} {px py pt : Pos} {kt k2 pt2} (hc : X.calm = true) (hN : X.N.Nodup) (ha : PA X [a, b] (tA X.K l)) (hi : X.N[i]? = some x := by rfl) (hj : X.N[j]? = some y := by rfl) (hij : i ≠ j := by decide)
    (hx : X.env.scope.names.lookup x = some .local := by rfl) (hy : X.env.scope.names.lookup y = some .local := by rfl) (hw : swappedStores [.Tuple [.Name x px, .Name y py] kt pt] (.Tuple [a, b] k2 pt2) X.env = pure (some [x, y]) := by rfl)
    (hs : swapsWithSole [.Tuple [.Name x px, .Name y py] kt pt] (.Tuple [a, b] k2 pt2) pos.line X.env = pure false := by rfl) :
    PS X (.Assign [.Tuple [.Name x px, .Name y py] kt pt] (.Tuple [a, b] k2 pt2) pos) (tS X.K (sPar i j l)) := ps_le (ps_par hc hN hi hj hij hx hy ha hw hs) fun D σ H ⟨Z, Hf, env, o, R, hf, k⟩ => by
  unfold sPar at hf
  split at hf
  · rename_i u v hl
    cases hf
    refine ⟨Z, Hf, env, _, R, hl, fun vs H1 Hf1 s1 d1 => ?_⟩
    obtain ⟨w1, w2, rfl, e1, e2⟩ := d1.two
    exact ⟨w1, w2, rfl, k _ H1 Hf1 s1.f (((R.step s1).set i e1).set j e2)⟩
  · cases hf
/-- a, b = (a new list, a value): the list is a's own -/
theorem s_parL (i j : Nat) {x y : Str} {a b : Expr} {px py pt : Pos} {kt k2 pt2} (hc : X.calm = true) (hN : X.N.Nodup) (ha : PE X a (tL X.K l)) (hb : PE X b (tE X.K h)) (hi : X.N[i]? = some x := by rfl) (hj : X.N[j]? = some y := by rfl) (hij : i ≠ j := by decide)
    (hx : X.env.scope.names.lookup x = some .local := by rfl) (hy : X.env.scope.names.lookup y = some .local := by rfl)
    (h1 : starEach [a, b] X.env = (false, eval a X.env) :: starEach [b] X.env := by rfl) (h2 : starEach [b] X.env = (false, eval b X.env) :: starEach [] X.env := by rfl)
    (hw : swappedStores [.Tuple [.Name x px, .Name y py] kt pt] (.Tuple [a, b] k2 pt2) X.env = pure (some [x, y]) := by rfl)
    (hs : swapsWithSole [.Tuple [.Name x px, .Name y py] kt pt] (.Tuple [a, b] k2 pt2) pos.line X.env = pure false := by rfl) :
    PS X (.Assign [.Tuple [.Name x px, .Name y py] kt pt] (.Tuple [a, b] k2 pt2) pos) (tS X.K (sParL i j l h)) := ps_le (ps_par hc hN hi hj hij hx hy (pa_cons ha (pa_cons hb pa_nil h2) h1) hw hs) fun D σ H ⟨Z, Hf, env, o, R, hf, k⟩ => by
  obtain ⟨xs, hxs, hf⟩ := Option_bind_some hf
  obtain ⟨d, hd, hf⟩ := Option_bind_some hf
  cases hf
  refine ⟨Z, Hf, env, xs, R, hxs, fun p vs H1 Hf1 s1 h0 h1 h2 d1 => ⟨Z, Hf1, env, d, R.step s1, hd, fun v H2 Hf2 s2 d2 => ⟨.ref p, v, rfl, ?_⟩⟩⟩
  have R1 := R.setOwn s1 i h0 h1 h2 d1
  exact k _ H2 Hf2 (s1.f.trans s2.f) ((R1.step s2).set j d2)
theorem s_if {c : Expr} {a b : List Stmt} (hc : PT X c (tT X.K p)) (ha : PSs X a (tS X.K f)) (hb : PSs X b (tS X.K g)) : PS X (.If c a b pos) (tS X.K (sIf p f g)) := ps_le (ps_if hc ha hb) fun D σ H ⟨Z, Hf, env, o, R, hf, k⟩ => by
  unfold sIf at hf
  split at hf
  · rename_i hp
    exact ⟨Z, Hf, env, true, R, hp, fun H1 Hf1 s1 => iteT ⟨Z, Hf1, env, o, R.step s1, hf, k.up s1.f⟩⟩
  · rename_i hp
    exact ⟨Z, Hf, env, false, R, hp, fun H1 Hf1 s1 => iteF ⟨Z, Hf1, env, o, R.step s1, hf, k.up s1.f⟩⟩
  · cases hf
theorem s_ret (he : PE X e (tE X.K h)) : PS X (.Return (some e) pos) (tS X.K (sRet h)) := ps_le (ps_ret he) fun D σ H ⟨Z, Hf, env, o, R, hf, k⟩ => by
  obtain ⟨d, hd, rfl⟩ := Option.map_eq_some_iff.mp hf
  exact ⟨Z, Hf, env, d, R, hd, fun v H1 Hf1 s1 d1 => k v H1 Hf1 (R.st.trans s1) d1⟩
theorem s_retL (he : PE X e (tL X.K l)) : PS X (.Return (some e) pos) (tS X.K (sRetL l)) := ps_le (ps_ret he) fun D σ H ⟨Z, Hf, env, o, R, hf, k⟩ => by
  obtain ⟨d, hd, rfl⟩ := Option.map_eq_some_iff.mp hf
  exact ⟨Z, Hf, env, d, R, hd, fun p vs H1 Hf1 s1 h0 h1 h2 d1 => k p vs H1 Hf1 (R.st.trans s1) (R.st.h.free h0) h1 h2 d1⟩
theorem s_retO (i : Nat) {x : Str} {p : Pos} (hN : X.N[i]? = some x := by rfl) (hv : Vis X.env.scope x := by first | exact Or.inl rfl | exact Or.inr (Or.inl rfl) | exact Or.inr (Or.inr rfl)) (hd : (x == ("__debug__" : Str)) = false := by decide)
    (hcd : (x == ("__classdict__" : Str)) = false := by decide) : PS X (.Return (some (.Name x p)) pos) (tS X.K (sRetO i)) := ps_le (ps_ret (pe_var hN hv hd hcd)) fun D σ H ⟨Z, Hf, env, o, R, hf, k⟩ => by
  unfold sRetO at hf
  split at hf
  · rename_i l hl
    cases hf
    obtain ⟨w, hs, p, vs, rfl, hz, hf, hp, ha⟩ := R.sl i _ hl
    exact ⟨.ref p, hs, k p vs H Hf R.st hz hf hp ha⟩
  · cases hf
theorem s_drop (he : PE X e (tE X.K h)) (hs : swapsWith e none pos.line X.env = pure false := by rfl) : PS X (.Expr e pos) (tS X.K (sDrop h)) := ps_le (ps_expr he hs) fun D σ H ⟨Z, Hf, env, o, R, hf, k⟩ => by
  obtain ⟨d, hd, rfl⟩ := Option.map_eq_some_iff.mp hf
  exact ⟨Z, Hf, env, d, R, hd, fun v H1 Hf1 s1 d1 => k σ H1 Hf1 s1.f (R.step s1)⟩
theorem s_aug (i : Nat) {x : Str} {op : Operator} {gi : Int → Int → Int} {pos' : Pos} (hN : X.N.Nodup) (he : PE X e (tE X.K h)) (ho : PIp X op (ipI gi)) (hi : X.N[i]? = some x := by rfl) (hx : Loc X.env.scope x := by first | exact Or.inl rfl | exact Or.inr rfl) (hf : X.fn x = true ∨ X.env.scope.names.lookup x = some .local := by first | exact .inl rfl | exact .inr rfl | assumption) :
    PS X (.AugAssign (.Name x pos') op e pos) (tS X.K (sAug i gi h)) := ps_le (ps_aug hN hi hx he ho hf) fun D σ H ⟨Z, Hf, env, o, R, hf, k⟩ => by
  unfold sAug at hf
  split at hf
  · rename_i a b h1 h2
    cases hf
    unfold eVar at h1
    split at h1
    · rename_i d' hd'
      cases h1
      obtain ⟨w, hs, hw⟩ := R.sl i _ hd'
      cases hw.int_eq
      refine ⟨.int a, hs, Z, Hf, env, .int b, R, h2, fun v H1 Hf1 s1 d1 => ?_⟩
      cases d1.int_eq
      exact ⟨a, b, rfl, rfl, k _ H1 Hf1 s1.f ((R.step s1).set i (.int _))⟩
    · cases h1
  · cases hf
theorem s_app (i : Nat) {x : Str} {p apos cpos : Pos} (he : PE X e (tE X.K h)) (hN : X.N[i]? = some x := by rfl) (hv : Vis X.env.scope x := by first | exact Or.inl rfl | exact Or.inr (Or.inl rfl) | exact Or.inr (Or.inr rfl)) (hd : (x == ("__debug__" : Str)) = false := by decide)
    (hcd : (x == ("__classdict__" : Str)) = false := by decide)
    (hbase : attributeBase (.Name x p) "append" X.env (eval (.Name x p) X.env) = eval (.Name x p) X.env := by rfl)
    (hfew : ((backTo cpos (starEach (e :: []) X.env)).all (fun x => !x.1) && (backToKw cpos (keywordEach [] X.env)).all (fun x => x.1.isSome)
      && decide ((e :: []).length + ([] : List Keyword).length + (if ([] : List Keyword).isEmpty then 0 else 1) < 30)) = true := by rfl)
    (hline : (apos.endLine == cpos.line) = true := by rfl) (hs : starEach (e :: []) X.env = (false, eval e X.env) :: starEach [] X.env := by rfl) (hplain : (backTo cpos (starEach [] X.env)).any (·.1) = false := by rfl)
    (hsw : swapsWith (.Call (.Attribute (.Name x p) "append" apos) [e] [] cpos) none pos.line X.env = pure false := by rfl) :
    PS X (.Expr (.Call (.Attribute (.Name x p) "append" apos) [e] [] cpos) pos) (tS X.K (sApp i h)) :=
  ps_le (ps_expr (pe_bm PySem.F.plainAttrs_list PySem.F.slot_list_append PySem.F.type_list_append mt_append (pe_var hN hv hd hcd) (pa_cons he pa_nil hs) hbase hfew hline hs hplain) hsw) fun D σ H ⟨Z, Hf, env, o, R, hf, k⟩ => by
    unfold sApp at hf
    split at hf
    · rename_i l hl
      obtain ⟨d, hd, hf⟩ := Option_bind_some hf
      split at hf
      · rename_i hz
        cases hf
        obtain ⟨w, hs, q, vs, rfl, hz0, hf0, hp, ha⟩ := R.sl i _ hl
        refine ⟨.ref q, hs, .inl ⟨rfl, _, SqL.of hp⟩, Z, Hf, env, d, R, hd, fun v H1 Hf1 s1 d1 => ?_⟩
        have ha1 := DpAll_up s1.f ha
        refine ⟨q, vs, v, rfl, rfl, s1.h q _ hp, Nat.lt_of_lt_of_le (by rw [ha.len]; exact hz) (by decide : 100000 ≤ sizeLine), ?_⟩
        exact k σ _ Hf1 s1.f ((R.step s1).mut hl hs (ha1.app (.cons d1 .nil)))
      · cases hf
    · cases hf
end

def YD (K : PySem.W.Frag) (Hf : Hp) (ds : List PyData) : Nat → Hp → V → Hp → Prop := fun i H x H' => ∃ d, ds[i]? = some d ∧
  ((H' = H ∧ Dp K Hf x d) ∨ ∃ T us dus, x = .ref T ∧ H T = none ∧ H' = upd H T (.tup us) ∧ d = .tuple dus ∧ DpAll K Hf us dus)
abbrev WalkD (K : PySem.W.Frag) (J : It) (Hf : Hp) (ds : List PyData) : Prop := Walk J ds.length (fun H => Same Hf H) (YD K Hf ds)
def tI (K : PySem.W.Frag) (f : FL) : TI := fun σ H R => ∃ (Z : Hp × Hp) (Hf : Hp) (env : En) (ds : List PyData), Rel K Z Hf H env σ ∧ f env = some ds ∧ ∀ J H1 Hf1, Stp Hf H Hf1 H1 → WalkD K J Hf1 ds → R J H1
def iL (f : FE) : FL := fun env => match f env with
  | some (.list l) => some l
  | _ => none
def iT (f : FE) : FL := fun env => match f env with
  | some (.tuple l) => some l
  | _ => none
def iR1 (r : FL) : FL := fun env => match r env with
  | some [.int n] => if -100000 < n ∧ n < 100000 then some ((List.range n.toNat).map fun (i : Nat) => PyData.int (i : Int)) else none
  | _ => none
def iR2 (r : FL) : FL := fun env => match r env with
  | some [.int a, .int n] => if (-100000 < a ∧ a < 100000) ∧ -100000 < n ∧ n < 100000 then some ((List.range (n - a).toNat).map fun (i : Nat) => PyData.int (a + (i : Int))) else none
  | _ => none
section
variable {X : Cx} {tg e : Expr} {pos : Pos} {f : FE} {r : FL}
theorem walkD_seq {K : PySem.W.Frag} {Hf : Hp} {xs : List V} {ds : List PyData} {J : It} {n : Nat} {G : Hp → Prop} (ha : DpAll K Hf xs ds) (w : Walk J xs.length G (YAt xs)) (hG : ∀ H, Same Hf H → G H) : WalkD K J Hf ds := by
  rw [show xs.length = ds.length from ha.len] at w
  refine w.mono hG fun i H x H' _ _ y => ?_
  obtain ⟨d, h1, h2⟩ := ha.get y.2
  exact ⟨d, h1, .inl ⟨y.1, h2⟩⟩
theorem i_list (he : PE X e (tE X.K f)) : PI X tg e (tI X.K (iL f)) := pi_le (pi_list he) fun σ H R ⟨Z, Hf, env, ds, Rl, hf, k⟩ => by
  unfold iL at hf
  split at hf
  · rename_i l hl
    cases hf
    refine ⟨Z, Hf, env, _, Rl, hl, fun v H1 Hf1 s1 d1 => ?_⟩
    obtain ⟨a, xs, rfl, hp, ha⟩ := d1.lst_of
    exact ⟨a, rfl, ⟨xs, s1.i.seq hp⟩, k _ H1 Hf1 s1 (walkD_seq (n := 0) ha walk_list fun H h => h.seq hp)⟩
  · cases hf
theorem i_tup (he : PE X e (tE X.K f)) : PI X tg e (tI X.K (iT f)) := pi_le (pi_tup he) fun σ H R ⟨Z, Hf, env, ds, Rl, hf, k⟩ => by
  unfold iT at hf
  split at hf
  · rename_i l hl
    cases hf
    refine ⟨Z, Hf, env, _, Rl, hl, fun v H1 Hf1 s1 d1 => ?_⟩
    obtain ⟨a, xs, rfl, hp, ha⟩ := d1.tup_of
    exact ⟨a, rfl, ⟨xs, sqT_up s1.i hp⟩, k _ H1 Hf1 s1 (walkD_seq (n := 0) ha walk_tup fun H h => sqT_up h hp)⟩
  · cases hf
theorem walkD_range {K : PySem.W.Frag} {Hf : Hp} {lo : Int} {n : Nat} : WalkD K (Itr lo n) Hf ((List.range n).map fun (i : Nat) => PyData.int (lo + (i : Int))) := by
  have w := walk_range (lo := lo) (n := n)
  show Walk _ ((List.range n).map fun (i : Nat) => PyData.int (lo + (i : Int))).length _ _
  rw [List.length_map, List.length_range]
  refine w.mono (fun _ _ => trivial) fun i H x H' hi _ y => ⟨.int (lo + (i : Int)), ?_, .inl ⟨y.1, ?_⟩⟩
  · rw [List.getElem?_map, List.getElem?_range hi]
    rfl
  · rw [y.2]
    exact .int _
theorem i_range1 {a : Expr} {p pos : Pos} (hg : Gl X "range") (hm : X.mg "range" = none) (ha : PA X [a] (tA X.K r)) (hs : starEach [a] X.env = [(false, eval a X.env)] := by rfl) : PI X tg (.Call (.Name "range" p) [a] [] pos) (tI X.K (iR1 r)) :=
  pi_le (L2.pi_range1 hg hm ha hs) fun σ H R ⟨Z, Hf, env, ds, Rl, hf, k⟩ => by
    unfold iR1 at hf
    split at hf
    · rename_i n hl
      split at hf
      · rename_i hn
        cases hf
        refine ⟨Z, Hf, env, _, Rl, hl, fun vs H1 Hf1 s1 d1 => ?_⟩
        obtain ⟨v, rfl, hv⟩ := d1.one
        cases hv.int_eq
        refine ⟨n, rfl, by omega, by omega, k _ H1 Hf1 s1 ?_⟩
        have w := walkD_range (K := X.K) (Hf := Hf1) (lo := 0) (n := n.toNat)
        simp only [Int.zero_add] at w
        exact w
      · cases hf
    · cases hf
theorem i_range2 {a b : Expr} {p pos : Pos} (hg : Gl X "range") (hm : X.mg "range" = none) (ha : PA X [a, b] (tA X.K r)) (hs : starEach [a, b] X.env = [(false, eval a X.env), (false, eval b X.env)] := by rfl) (hs2 : starEach [b] X.env = [(false, eval b X.env)] := by rfl) :
    PI X tg (.Call (.Name "range" p) [a, b] [] pos) (tI X.K (iR2 r)) :=
  pi_le (L2.pi_range2 hg hm ha hs hs2) fun σ H R ⟨Z, Hf, env, ds, Rl, hf, k⟩ => by
    unfold iR2 at hf
    split at hf
    · rename_i a n hl
      split at hf
      · rename_i hn
        cases hf
        refine ⟨Z, Hf, env, _, Rl, hl, fun vs H1 Hf1 s1 d1 => ?_⟩
        obtain ⟨v, w, rfl, hv, hw⟩ := d1.two
        cases hv.int_eq
        cases hw.int_eq
        exact ⟨a, n, rfl, ⟨by omega, by omega, by omega, by omega⟩, k _ H1 Hf1 s1 walkD_range⟩
      · cases hf
    · cases hf
end

def forD (g : PyData → En → Option En) (fb : FS) : List PyData → FS
  | [], env => some (.next env)
  | d :: ds, env => (g d env).bind fun e1 => match fb e1 with
    | some (.next e) => forD g fb ds e
    | some (.cont e) => forD g fb ds e
    | some (.brk e) => some (.next e)
    | some (.ret d) => some (.ret d)
    | some (.retL d) => some (.retL d)
    | some (.retD d) => some (.retD d)
    | none => none
def sFor (fi : FL) (g : PyData → En → Option En) (fb : FS) : FS := fun env => (fi env).bind fun ds => forD g fb ds env
def whileD (p : FT) (fb : FS) : Nat → FS
  | 0, _ => none
  | n + 1, env => match p env with
    | none => none
    | some false => some (.next env)
    | some true => match fb env with
      | some (.next e) => whileD p fb n e
      | some (.cont e) => whileD p fb n e
      | some (.brk e) => some (.next e)
      | some (.ret d) => some (.ret d)
      | some (.retL d) => some (.retL d)
      | some (.retD d) => some (.retD d)
      | none => none
section
variable {X : Cx} {tg iter : Expr} {pos : Pos} {fi : FL} {g : PyData → En → Option En} {fb : FS} {m : Bool} {sl : List Nat} {body : List Stmt}
/-- the item of a turn -/
theorem yd_item {K : PySem.W.Frag} {Z : Hp × Hp} {Hf0 Hf H H' : Hp} {ds : List PyData} {i : Nat} {x : V} {env : En} {σ : L2.St} {d : PyData} (y : YD K Hf0 ds i H x H') (hd : ds[i]? = some d) (R : Rel K Z Hf H env σ) (s : Same Hf0 Hf) :
    ∃ Hf', Stp Hf H Hf' H' ∧ Dp K Hf' x d := by
  obtain ⟨d', h1, h2⟩ := y
  rw [hd] at h1
  cases h1
  rcases h2 with ⟨rfl, hx⟩ | ⟨T, us, dus, rfl, hT, rfl, rfl, hu⟩
  · exact ⟨Hf, .refl R.st.i, Dp_up s hx⟩
  · have st := Stp.new (o := .tup us) R.st.i hT
    exact ⟨_, st, .tup (SqT.of upd_same) (DpAll_up (s.trans st.f) hu)⟩
theorem drop_get {α : Type} {l : List α} {i : Nat} (h : i < l.length) : ∃ d, l[i]? = some d ∧ l.drop i = d :: l.drop (i + 1) := ⟨l[i], List.getElem?_eq_getElem h, List.drop_eq_getElem_cons h⟩
theorem s_for (hp : PassesOwn (model X.prog X.w) X.A X.env X.xe) (hc : X.calm = true) (hi : PI X tg iter (tI X.K fi)) (hg : PG X tg (tG X.K m sl g)) (hb : PSs X body (tS X.K fb))
    (hs : ∀ x, foldedSetIterable iter X.env x = pure x := by intro _; rfl) : PS X (.For tg iter body [] pos) (tS X.K (sFor fi g fb)) := ps_le (ps_for hp hc hi hg hb hs) fun D σ H ⟨Z, Hf, env, o, R, hf, k⟩ => by
  obtain ⟨ds, hds, hf⟩ := Option_bind_some hf
  refine ⟨Z, Hf, env, ds, R, hds, fun J H1 Hf1 s1 w => ?_⟩
  refine for_it w (fun i σ' H' => ∃ (Hf' : Hp) (env' : En), Same Hf1 Hf' ∧ Rel X.K Z Hf' H' env' σ' ∧ forD g fb (ds.drop i) env' = some o) ⟨Hf1, env, Same.refl _, R.step s1, hf⟩ (fun i σ' H' _ ⟨Hf', env', a, R', _⟩ => a.trans R'.st.i) (fun i x σ' H' H2 hi ⟨Hf', env', a, R', q⟩ y => ?_) fun σ' H' ⟨Hf', env', a, R', q⟩ => ?_
  · obtain ⟨d, hd, hdr⟩ := drop_get hi
    rw [hdr] at q
    obtain ⟨e1, hg1, q⟩ := Option_bind_some q
    obtain ⟨Hf2, st2, hx⟩ := yd_item y hd R' a
    refine ⟨Z, Hf2, env', d, e1, R'.step st2, hx, hg1, fun σ3 H3 Hf3 s3 R3 _ _ _ => ?_⟩
    have up : Same Hf1 Hf3 := a.trans (st2.f.trans s3)
    cases hb1 : fb e1 with
    | none =>
      rw [hb1] at q
      cases q
    | some o1 =>
      rw [hb1] at q
      refine ⟨Z, Hf3, e1, o1, R3, hb1, ?_⟩
      cases o1 with
      | next e2 => exact fun σ4 H4 Hf4 s4 R4 => ⟨Hf4, e2, up.trans s4, R4, q⟩
      | cont e2 => exact fun σ4 H4 Hf4 s4 R4 => ⟨Hf4, e2, up.trans s4, R4, q⟩
      | brk e2 =>
        cases q
        exact fun σ4 H4 Hf4 s4 R4 => k σ4 H4 Hf4 (s1.f.trans (up.trans s4)) R4
      | ret d =>
        cases q
        exact k
      | retL d =>
        cases q
        exact k
      | retD d =>
        cases q
        exact k
  · rw [List.drop_of_length_le (Nat.le_refl _)] at q
    cases q
    exact k σ' H' Hf' (s1.f.trans a) R'
theorem s_while (n : Nat) {p : FT} {c : Expr} (hp : PassesOwn (model X.prog X.w) X.A X.env X.xe) (hc : PT X c (tT X.K p)) (hb : PSs X body (tS X.K fb)) : PS X (.While c body [] pos) (tS X.K (whileD p fb n)) := ps_le (ps_while hp hc hb) fun D σ H ⟨Z, Hf, env, o, R, hf, k⟩ => by
  refine ⟨fun m σ' H' => ∃ (Hf' : Hp) (env' : En), Same Hf Hf' ∧ Rel X.K Z Hf' H' env' σ' ∧ whileD p fb m env' = some o, ⟨n, Hf, env, Same.refl _, R, hf⟩, fun m σ' H' ⟨Hf', env', a, R', q⟩ => ?_⟩
  cases m with
  | zero => cases q
  | succ m =>
    unfold whileD at q
    cases hpe : p env' with
    | none =>
      rw [hpe] at q
      cases q
    | some b =>
      rw [hpe] at q
      refine ⟨Z, Hf', env', b, R', hpe, fun H1 Hf1 s1 => ?_⟩
      cases b with
      | false =>
        cases q
        exact iteF (k σ' H1 Hf1 (a.trans s1.f) (R'.step s1))
      | true =>
        refine iteT ⟨fun σ2 H2 => ∃ (Hf' : Hp) (env' : En), Same Hf Hf' ∧ Rel X.K Z Hf' H2 env' σ2 ∧ whileD p fb m env' = some o, fun σ2 H2 h => ⟨m, Nat.lt_succ_self m, h⟩, ?_⟩
        cases hb1 : fb env' with
        | none =>
          simp only [hb1] at q
          cases q
        | some o1 =>
          simp only [hb1] at q
          refine ⟨Z, Hf1, env', o1, R'.step s1, hb1, ?_⟩
          have up : Same Hf Hf1 := a.trans s1.f
          cases o1 with
          | next e2 => exact fun σ4 H4 Hf4 s4 R4 => ⟨Hf4, e2, up.trans s4, R4, q⟩
          | cont e2 => exact fun σ4 H4 Hf4 s4 R4 => ⟨Hf4, e2, up.trans s4, R4, q⟩
          | brk e2 =>
            cases q
            exact fun σ4 H4 Hf4 s4 R4 => k σ4 H4 Hf4 (up.trans s4) R4
          | ret d =>
            cases q
            exact k
          | retL d =>
            cases q
            exact k
          | retD d =>
            cases q
            exact k
end
end Fi

namespace Fi
open PySem L2

def wipeE (env : En) : List Nat → En
  | [] => env
  | v :: vs => (wipeE env vs).set v none
theorem Rel.wipe {K : PySem.W.Frag} {Z : Hp × Hp} {Hf H : Hp} {env : En} {σ : L2.St} (R : Rel K Z Hf H env σ) : ∀ vs : List Nat, Rel K Z Hf H (wipeE env vs) (L2.wipe σ vs)
  | [] => R
  | v :: vs => (Rel.wipe R vs).drop v none
theorem wipe_get (σ : L2.St) : ∀ (vs : List Nat) (i : Nat), (L2.wipe σ vs)[i]? = if i ∈ vs then σ[i]?.map (fun _ => none) else σ[i]?
  | [], i => by simp [L2.wipe]
  | v :: vs, i => by
    unfold L2.wipe
    rw [List.getElem?_set, wipe_length, wipe_get σ vs i]
    by_cases h : v = i
    · subst h
      simp only [if_true, List.mem_cons, true_or]
      by_cases hl : v < σ.length
      · simp [hl]
      · simp [hl, List.getElem?_eq_none (Nat.le_of_not_lt hl)]
    · simp only [h, if_false, List.mem_cons]
      by_cases hm : i ∈ vs
      · simp [hm]
      · have : ¬ (i = v) := fun e => h e.symm
        simp [hm, this]
theorem wipe_same {σ τ : L2.St} {vs : List Nat} (hl : τ.length = σ.length) (h : ∀ i : Nat, i ∉ vs → τ[i]? = σ[i]?) : L2.wipe τ vs = L2.wipe σ vs := by
  apply List.ext_getElem?
  intro i
  rw [wipe_get, wipe_get]
  by_cases hm : i ∈ vs
  · rw [if_pos hm, if_pos hm]
    by_cases hi : i < σ.length
    · rw [List.getElem?_eq_getElem hi, List.getElem?_eq_getElem (by omega)]
      rfl
    · rw [List.getElem?_eq_none (by omega), List.getElem?_eq_none (by omega)]
  · rw [if_neg hm, if_neg hm, h i hm]
theorem wipe_wipe (σ : L2.St) (vs : List Nat) : L2.wipe (L2.wipe σ vs) vs = L2.wipe σ vs := wipe_same (wipe_length σ vs) fun i hi => by rw [wipe_get, if_neg hi]
def lcD (g : PyData → En → Option En) (p : FT) (f : FE) (env : En) : List PyData → Option (List PyData)
  | [] => some []
  | d :: ds => (g d env).bind fun e1 => match p e1 with
    | none => none
    | some true => (f e1).bind fun x => (lcD g p f env ds).bind fun xs => some (x :: xs)
    | some false => lcD g p f env ds
def lLc (fi : FL) (g : PyData → En → Option En) (p : FT) (f : FE) (vs : List Nat) : FL := fun env => (fi env).bind fun ds => if ds.length < 100000 then lcD g p f (wipeE env vs) ds else none
def pYes : FT := fun _ => some true
section
variable {X : Cx}
theorem pts_le {e : List Expr} {t t' : TT} (h : PTs X e t) (hm : ∀ σ H Q, t' σ H Q → t σ H Q) : PTs X e t' := ⟨fun pins s σ H Q I q => h.run pins s σ H Q I (hm σ H Q q)⟩
theorem q_nil : PTs X [] (tT X.K pYes) := pts_le pts_nil fun σ H Q ⟨Z, Hf, env, b, R, hf, k⟩ => by
  cases hf
  exact k H Hf (.refl R.st.i)
theorem q_one {c : Expr} {p : FT} (h : PT X c (tT X.K p)) : PTs X [c] (tT X.K p) := pts_one h
theorem lcD_len {g : PyData → En → Option En} {p : FT} {f : FE} {env : En} : ∀ {ds xs : List PyData}, lcD g p f env ds = some xs → xs.length ≤ ds.length
  | [], xs, h => by cases h; exact Nat.le_refl _
  | d :: ds, xs, h => by
    obtain ⟨e1, _, h⟩ := Option_bind_some h
    cases hp : p e1 with
    | none => rw [hp] at h; cases h
    | some b =>
      rw [hp] at h
      cases b with
      | true =>
        obtain ⟨x, _, h⟩ := Option_bind_some h
        obtain ⟨ys, hy, h⟩ := Option_bind_some h
        cases h
        have := lcD_len hy
        simp only [List.length_cons]
        omega
      | false =>
        have := lcD_len h
        simp only [List.length_cons]
        omega
theorem tLc_of {K : PySem.W.Frag} {fi : FL} {g : PyData → En → Option En} {p : FT} {f : FE} {vs sl : List Nat} (hsl : ∀ i ∈ sl, i ∈ vs) {σ : L2.St} {H : Hp} {Q : VK} (w : tL K (lLc fi g p f vs) σ H Q) : tLc (tI K fi) (tG K false sl g) (tT K p) (tE K f) vs σ H Q := by
  obtain ⟨Z, Hf, env, out, R, hf, k⟩ := w
  obtain ⟨ds, hds, hf⟩ := Option_bind_some hf
  split at hf
  · rename_i hlen
    refine ⟨Z, Hf, env, ds, R, hds, fun J H1 Hf1 s1 w D hD => ?_⟩
    have hD0 : H D = none := s1.h.free hD
    have hDf : Hf1 D = none := s1.i.free hD
    have hid := Stp.hid (o := .lst []) s1.i hD
    refine lc_it w (fun i H' => ∃ (Hf' : Hp) (acc : List V) (da rs : List PyData), Stp Hf1 H1 Hf' H' ∧ Hf' D = none ∧ H' D = some (.lst acc) ∧ DpAll K Hf' acc da ∧ da.length ≤ i ∧ lcD g p f (wipeE env vs) (ds.drop i) = some rs ∧ out = da ++ rs)
      ⟨Hf1, [], [], out, hid, hDf, upd_same, .nil, Nat.le_refl _, hf, rfl⟩ (fun i H' _ ⟨Hf', _, _, _, a, _⟩ => a.f.trans a.i) (fun i x H' H2 hi ⟨Hf', acc, da, rs, st, h1, h2, h3, hl, h4, h5⟩ y => ?_) fun H' ⟨Hf', acc, da, rs, st, h1, h2, h3, hl, h4, h5⟩ => ?_
    · obtain ⟨d, hd, hdr⟩ := drop_get hi
      rw [hdr] at h4
      obtain ⟨e1, hg1, h4⟩ := Option_bind_some h4
      have R1 : Rel K Z Hf' H' (wipeE env vs) (L2.wipe σ vs) := ((R.step s1).wipe vs).step st
      obtain ⟨Hf2, st2, hx⟩ := yd_item y hd R1 st.f
      refine ⟨Z, Hf2, wipeE env vs, d, e1, R1.step st2, hx, hg1, fun σ3 H3 Hf3 s3 R3 pt ln mm => ?_⟩
      obtain ⟨rfl, rfl⟩ := mm rfl
      have hw : L2.wipe σ3 vs = L2.wipe σ vs := by
        rw [← wipe_wipe σ vs]
        exact wipe_same (ln.trans rfl) fun i hi => pt i fun q => hi (hsl i q)
      refine ⟨hw, ?_⟩
      have st3 := st.trans st2
      have h1' : Hf3 D = none := st2.n D _ h2 h1
      have h2' : H3 D = some (.lst acc) := st2.h D _ h2
      cases hp : p e1 with
      | none =>
        rw [hp] at h4
        cases h4
      | some b =>
        rw [hp] at h4
        refine ⟨Z, Hf3, e1, b, R3, hp, fun H4 Hf4 s4 => ?_⟩
        have h1'' : Hf4 D = none := s4.n D _ h2' h1'
        have h2'' : H4 D = some (.lst acc) := s4.h D _ h2'
        cases b with
        | false => exact iteF ⟨Hf4, acc, da, rs, st3.trans s4, h1'', h2'', DpAll_up (st2.f.trans s4.f) h3, by omega, h4, h5⟩
        | true =>
          obtain ⟨x', hx', h4⟩ := Option_bind_some h4
          obtain ⟨ys, hy, h4⟩ := Option_bind_some h4
          cases h4
          refine iteT ⟨Z, Hf4, e1, x', R3.step s4, hx', fun v H5 Hf5 s5 d5 => ?_⟩
          have g1 : Hf5 D = none := s5.n D _ h2'' h1''
          have g2 : H5 D = some (.lst acc) := s5.h D _ h2''
          have st5 := (st3.trans s4).trans s5
          have up : Same Hf' Hf5 := st2.f.trans (s4.f.trans s5.f)
          have ha := DpAll_up up h3
          have hi' : i < ds.length := hi
          refine ⟨acc, g2, Nat.lt_of_lt_of_le (by rw [ha.len]; omega) (by decide : 100000 ≤ sizeLine), Hf5, acc ++ [v], da ++ [x'], ys, ⟨st5.f, fun b o e => ?_, fun b o e => ?_, st5.n⟩, g1, upd_same, ha.app (.cons d5 .nil), by rw [List.length_append, List.length_singleton]; omega, hy, by rw [h5, List.append_assoc]; rfl⟩
          · rw [upd_ne (ne_of_none e g1)]
            exact st5.i b o e
          · rw [upd_ne (ne_of_none e hD)]
            exact st5.h b o e
    · rw [List.drop_of_length_le (Nat.le_refl _)] at h4
      cases h4
      rw [List.append_nil] at h5
      subst h5
      exact k D acc H' Hf' (s1.trans st) hD0 h1 h2 h3
  · cases hf
variable {elt tg iter : Expr} {ifs : List Expr} {scope : Scope} {own : List (Str × Nat)} {pos : Pos} {fi : FL} {g : PyData → En → Option En} {p : FT} {f : FE} {sl vs : List Nat}
theorem l_lc (hc : X.calm = true) (hN : X.N.Nodup) (hi : PI X tg iter (tI X.K fi)) (ok : BlkOk X.N X.env.scope scope own)
    (hg : ∀ (s : Shared) (H : Hp) (C : Addr) (cl : List (Str × Addr)) (fp : List Addr), PG (X.blk s H scope (compEnvC scope cl C X.env) fp) tg (tG X.K false sl g)) (ht : ∀ (s : Shared) (H : Hp) (C : Addr) (cl : List (Str × Addr)) (fp : List Addr), PTs (X.blk s H scope (compEnvC scope cl C X.env) fp) ifs (tT X.K p))
    (he : ∀ (s : Shared) (H : Hp) (C : Addr) (cl : List (Str × Addr)) (fp : List Addr), PE (X.blk s H scope (compEnvC scope cl C X.env) fp) elt (tE X.K f)) (hvs : own.map (·.2) = vs := by rfl) (hsl : ∀ i ∈ sl, i ∈ vs := by decide) (hs : ∀ x, foldedSetIterable iter X.env x = pure x := by intro _; rfl) :
    PE X (.ListComp elt [⟨tg, iter, ifs, 0⟩] scope pos) (tL X.K (lLc fi g p f vs)) := by
  subst hvs
  exact pe_le (pe_lc hc hN hi ok hg ht he hs) fun _ _ _ w => tLc_of hsl w
/-- name = [..], on one line -/
theorem s_setLc (i : Nat) {y : Str} {py spos : Pos} (hc : X.calm = true) (hN : X.N.Nodup) (hsw : swapsWith (.ListComp elt [⟨tg, iter, ifs, 0⟩] scope pos) (some (.Name y py)) spos.line X.env = pure true) (hi : PI X tg iter (tI X.K fi)) (ok : BlkOk X.N X.env.scope scope own)
    (hg : ∀ (s : Shared) (H : Hp) (C : Addr) (cl : List (Str × Addr)) (fp : List Addr), PG (X.blk s H scope (compEnvC scope cl C X.env) fp) tg (tG X.K false sl g)) (ht : ∀ (s : Shared) (H : Hp) (C : Addr) (cl : List (Str × Addr)) (fp : List Addr), PTs (X.blk s H scope (compEnvC scope cl C X.env) fp) ifs (tT X.K p))
    (he : ∀ (s : Shared) (H : Hp) (C : Addr) (cl : List (Str × Addr)) (fp : List Addr), PE (X.blk s H scope (compEnvC scope cl C X.env) fp) elt (tE X.K f)) (hy : X.N[i]? = some y := by rfl) (hyl : X.env.scope.names.lookup y = some .local := by rfl) (hvs : own.map (·.2) = vs := by rfl) (hsl : ∀ i ∈ sl, i ∈ vs := by decide) (hs : ∀ x, foldedSetIterable iter X.env x = pure x := by intro _; rfl) :
    PS X (.Assign [.Name y py] (.ListComp elt [⟨tg, iter, ifs, 0⟩] scope pos) spos) (tS X.K (sOwn i (lLc fi g p f vs))) := by
  subst hvs
  exact ps_le (ps_setLc hc hN hy hyl hsw hi ok hg ht he hs) fun D σ H ⟨Z, Hf, env, o, R, hf, k⟩ => by
    obtain ⟨d, hd, rfl⟩ := Option.map_eq_some_iff.mp hf
    exact tLc_of hsl ⟨Z, Hf, env, d, R, hd, fun p vs H1 Hf1 s1 h0 h1 h2 d1 => k _ H1 Hf1 s1.f (R.setOwn s1 i h0 h1 h2 d1)⟩
end

def RetD (K : PySem.W.Frag) (Hf H : Hp) (Q : VK) : Sl → Prop
  | .val d => ∀ v H' Hf', Stp Hf H Hf' H' → Dp K Hf' v d → Q v H'
  | .own ds => ∀ p vs H' Hf', Stp Hf H Hf' H' → H p = none → Hf' p = none → H' p = some (.lst vs) → DpAll K Hf' vs ds → Q (.ref p) H'
  | .dct kvs => ∀ p xs H' Hf', Stp Hf H Hf' H' → H p = none → Hf' p = none → H' p = some (.ext (DI p xs)) → (p == sysModules) = false → DctOk K Hf' xs kvs → Q (.ref p) H'
/-- the promise of a def that is a function on data -/
def spD (K : PySem.W.Frag) (n : Nat) (F : List PyData → Option Sl) : Sp := fun vs H Q _ => vs.length = n ∧ ∃ (Hf : Hp) (ds : List PyData) (r : Sl), Same Hf H ∧ DpAll K Hf vs ds ∧ F ds = some r ∧ RetD K Hf H Q r
def entry (n : Nat) (ds : List PyData) : En := ds.map (fun d => some (Sl.val d)) ++ List.replicate (n - ds.length) none
def fnD (n : Nat) (b : FS) : List PyData → Option Sl := fun ds => match b (entry n ds) with
  | some (.ret d) => some (.val d)
  | some (.retL l) => some (.own l)
  | some (.retD l) => some (.dct l)
  | some (.next _) => some (.val .none)
  | _ => none
theorem dpAll_at {K : PySem.W.Frag} {H : Hp} {vs : List V} {ds : List PyData} (h : DpAll K H vs ds) (n : Nat) (i : Nat) (s : Sl) (e : (entry n ds)[i]? = some (some s)) : ∃ v, (vs.map some ++ List.replicate (n - vs.length) none)[i]? = some (some v) ∧ ∃ d, s = .val d ∧ Dp K H v d := by
  unfold entry at e
  by_cases hi : i < ds.length
  · rw [List.getElem?_append_left (by rw [List.length_map]; exact hi), List.getElem?_map, List.getElem?_eq_getElem hi] at e
    have e' : Sl.val ds[i] = s := Option.some.inj (Option.some.inj e)
    obtain ⟨v, h1, h2⟩ := h.at (List.getElem?_eq_getElem hi)
    refine ⟨v, ?_, _, e'.symm, h2⟩
    rw [List.getElem?_append_left (by rw [List.length_map, h.len]; exact hi), List.getElem?_map, h1]
    rfl
  · rw [List.getElem?_append_right (by rw [List.length_map]; omega)] at e
    rw [List.getElem?_replicate] at e
    split at e
    · cases e
    · cases e
theorem body_ok {X : Cx} {b : FS} {sts : List Stmt} {N : List Str} {vs : List V} {H : Hp} {Q : VK} {E : XK} {np n : Nat} (hn : N.length = n) (hb : PSs X sts (tS X.K b)) (h : spD X.K np (fnD n b) vs H Q E) : ∃ t, PSs X sts t ∧ t { nx := fun _ H' => Q .non H', rt := Q } (L2.start N vs) H := by
  refine ⟨_, hb, ?_⟩
  subst hn
  obtain ⟨hl, Hf, ds, r, hi, hd, hF, k⟩ := h
  have R : Rel X.K (Hf, H) Hf H (entry N.length ds) (L2.start N vs) := by
    refine ⟨.refl hi, ?_, fun i s e => ?_, fun i j x y p ei ej _ _ => ?_⟩
    · unfold entry L2.start
      simp only [List.length_append, List.length_map, List.length_replicate, hd.len]
    · obtain ⟨v, h1, d, rfl, h2⟩ := dpAll_at hd N.length i s e
      exact ⟨v, h1, h2⟩
    · obtain ⟨_, _, d, h3, _⟩ := dpAll_at hd N.length i _ ei
      cases h3
  unfold fnD at hF
  cases ho : b (entry N.length ds) with
  | none =>
    rw [ho] at hF
    cases hF
  | some o =>
    rw [ho] at hF
    refine ⟨(Hf, H), Hf, _, o, R, ho, ?_⟩
    cases o with
    | next e =>
      cases hF
      exact fun σ' H' Hf' s1 R' => k .non H' Hf' R'.st .non
    | ret d =>
      cases hF
      exact k
    | retL d =>
      cases hF
      exact k
    | retD d =>
      cases hF
      exact k
    | brk e => cases hF
    | cont e => cases hF
def eCallF (F : List PyData → Option Sl) (r : FL) : FE := fun env => (r env).bind fun ds => match F ds with
  | some (.val d) => some d
  | some (.own l) => some (.list l)
  | _ => none
def lCallF (F : List PyData → Option Sl) (r : FL) : FL := fun env => (r env).bind fun ds => match F ds with
  | some (.own l) => some l
  | _ => none
section
variable {X : Cx} {k : Nat} {f : Addr} {fd : FuncData} {ps : List Str} {F : List PyData → Option Sl} {n : Nat} {x : Str} {p pos : Pos} {e : Expr} {es : List Expr} {r : FL}
theorem x_call (G : FnOk X.prog X.w X.K X.mg X.base CX0 k f fd ps (spD X.K (es.length + 1) F)) (hr : Room k X.A) (hg : Gl X x) (hm : X.mg x = some (.ref f)) (hk : PySem.W.keepIn X.K (.ref f) = true) (hb : Binds X.K fd ps [])
    (ha : PA X (e :: es) (tA X.K r)) (hln : ∀ env ds, r env = some ds → ds.length = es.length + 1) (hdb : (x == ("__debug__" : Str)) = false := by decide) (he : starEach (e :: es) X.env = (false, eval e X.env) :: starEach es X.env := by rfl) (hpl : (backTo pos (starEach es X.env)).any (·.1) = false := by rfl) :
    PE X (.Call (.Name x p) (e :: es) [] pos) (tE X.K (eCallF F r)) := pe_le (pe_call G hr hg hm hk hb .nil pass0 ha hdb he hpl) fun σ H Q ⟨Z, Hf, env, d, R, hf, kk⟩ => by
  obtain ⟨ds, hds, hf⟩ := Option_bind_some hf
  refine ⟨Z, Hf, env, ds, R, hds, fun vs H1 Hf1 s1 d1 => ?_⟩
  show spD X.K (es.length + 1) F (vs ++ []) H1 Q E0
  rw [List.append_nil]
  refine ⟨by rw [d1.len]; exact hln env ds hds, ?_⟩
  split at hf
  · rename_i z hz
    cases hf
    exact ⟨Hf1, ds, _, s1.i, d1, hz, fun v H2 Hf2 s2 d2 => kk v H2 Hf2 (s1.trans s2) d2⟩
  · rename_i l hz
    cases hf
    exact ⟨Hf1, ds, _, s1.i, d1, hz, fun q vs H2 Hf2 s2 h0 h1 h2 d2 => kk _ _ _ (s1.trans (s2.show h0 h1 h2)) (.lst (SqL.of upd_same) (DpAll_up (same_new h1) d2))⟩
  · cases hf
theorem l_call (G : FnOk X.prog X.w X.K X.mg X.base CX0 k f fd ps (spD X.K (es.length + 1) F)) (hr : Room k X.A) (hg : Gl X x) (hm : X.mg x = some (.ref f)) (hk : PySem.W.keepIn X.K (.ref f) = true) (hb : Binds X.K fd ps [])
    (ha : PA X (e :: es) (tA X.K r)) (hln : ∀ env ds, r env = some ds → ds.length = es.length + 1) (hdb : (x == ("__debug__" : Str)) = false := by decide) (he : starEach (e :: es) X.env = (false, eval e X.env) :: starEach es X.env := by rfl) (hpl : (backTo pos (starEach es X.env)).any (·.1) = false := by rfl) :
    PE X (.Call (.Name x p) (e :: es) [] pos) (tL X.K (lCallF F r)) := pe_le (pe_call G hr hg hm hk hb .nil pass0 ha hdb he hpl) fun σ H Q ⟨Z, Hf, env, d, R, hf, kk⟩ => by
  obtain ⟨ds, hds, hf⟩ := Option_bind_some hf
  refine ⟨Z, Hf, env, ds, R, hds, fun vs H1 Hf1 s1 d1 => ?_⟩
  show spD X.K (es.length + 1) F (vs ++ []) H1 Q E0
  rw [List.append_nil]
  refine ⟨by rw [d1.len]; exact hln env ds hds, ?_⟩
  split at hf
  · rename_i l hz
    cases hf
    exact ⟨Hf1, ds, _, s1.i, d1, hz, fun q vs H2 Hf2 s2 h0 h1 h2 d2 => kk q vs H2 Hf2 (s1.trans s2) (s1.h.free h0) h1 h2 d2⟩
  · cases hf
end
theorem ln_nil : ∀ (env : En) (ds : List PyData), aNil env = some ds → ds.length = 0 := fun _ _ h => by cases h; rfl
theorem ln_cons {f : FE} {r : FL} {n : Nat} (h : ∀ (env : En) (ds : List PyData), r env = some ds → ds.length = n) : ∀ (env : En) (ds : List PyData), aCons f r env = some ds → ds.length = n + 1 := fun env ds e => by
  obtain ⟨x, _, e⟩ := Option_bind_some e
  obtain ⟨xs, hx, e⟩ := Option_bind_some e
  cases e
  rw [List.length_cons, h env xs hx]

def cutD (l : List PyData) (lo hi : Option Int) : List PyData := (l.drop (HT.sIx l.length 0 lo)).take (HT.sIx l.length l.length hi - HT.sIx l.length 0 lo)
theorem cut_dp {K : PySem.W.Frag} {H : Hp} {vs : List V} {ds : List PyData} (h : DpAll K H vs ds) (lo hi : Option Int) : DpAll K H (cutV vs lo hi) (cutD ds lo hi) := by
  unfold cutV cutD
  rw [h.len]
  exact (h.dr _).tk _
def oNone : En → Option (Option Int) := fun _ => some none
def oSome (f : FE) : En → Option (Option Int) := fun env => match f env with
  | some (.int i) => some (some i)
  | _ => none
/-- t[lo:hi] of a tuple -/
def eSlT (f : FE) (lo hi : En → Option (Option Int)) : FE := fun env => (f env).bind fun x => (lo env).bind fun a => (hi env).bind fun b => match x with
  | .tuple l => some (.tuple (cutD l a b))
  | _ => none
def lSl (f : FE) (lo hi : En → Option (Option Int)) : FL := fun env => (f env).bind fun x => (lo env).bind fun a => (hi env).bind fun b => match x with
  | .list l => some (cutD l a b)
  | _ => none
section
variable {X : Cx} {e : Expr} {f g : FE} {lo hi : Option Expr} {fl fh : En → Option (Option Int)} {pos p2 : Pos} {r : FL}
theorem o_none : PO X none (tO X.K oNone) := po_le po_none fun σ H Q ⟨Z, Hf, env, o, R, hf, k⟩ => by
  cases hf
  exact k H Hf (.refl R.st.i)
theorem o_some (he : PE X e (tE X.K f)) : PO X (some e) (tO X.K (oSome f)) := po_le (po_some he) fun σ H Q ⟨Z, Hf, env, o, R, hf, k⟩ => by
  unfold oSome at hf
  split at hf
  · rename_i i h
    cases hf
    exact ⟨Z, Hf, env, _, R, h, fun v H1 Hf1 s1 d1 => ⟨i, d1.int_eq, k H1 Hf1 s1⟩⟩
  · cases hf
theorem x_slT (he : PE X e (tE X.K f)) (hl : PO X lo (tO X.K fl)) (hh : PO X hi (tO X.K fh)) : PE X (.Subscript e (.Slice lo hi none p2) pos) (tE X.K (eSlT f fl fh)) := pe_le (pe_slice sl_tupA he hl hh) fun σ H Q ⟨Z, Hf, env, o, R, hf, k⟩ => by
  obtain ⟨x, hx, hf⟩ := Option_bind_some hf
  obtain ⟨a, ha, hf⟩ := Option_bind_some hf
  obtain ⟨b, hb, hf⟩ := Option_bind_some hf
  cases x with
  | tuple l =>
    cases hf
    refine ⟨Z, Hf, env, _, R, hx, fun v H1 Hf1 s1 d1 => ⟨Z, Hf1, env, a, R.step s1, ha, fun H2 Hf2 s2 => ⟨Z, Hf2, env, b, (R.step s1).step s2, hb, fun H3 Hf3 s3 => ?_⟩⟩⟩
    obtain ⟨q, xs, rfl, hq, hd⟩ := d1.tup_of
    have up : Same Hf1 Hf3 := s2.f.trans s3.f
    have hl := hd.len
    refine ⟨q, xs, rfl, sqT_up (up.trans s3.i) hq, fun w => ?_, fun w p hp => ?_⟩
    · have e : cutD l a b = l := by
        unfold cutD
        rw [← hl, w.1, w.2]
        simp [hl]
      rw [e] at k
      exact k _ _ _ (s1.trans (s2.trans s3)) (Dp_up up (.tup hq hd))
    · have st := Stp.new (o := .tup (cutV xs a b)) s3.i hp
      exact k _ _ _ (s1.trans (s2.trans (s3.trans st))) (.tup (SqT.of upd_same) (cut_dp (DpAll_up (up.trans st.f) hd) a b))
  | _ => cases hf
theorem l_sl (he : PE X e (tE X.K f)) (hl : PO X lo (tO X.K fl)) (hh : PO X hi (tO X.K fh)) : PE X (.Subscript e (.Slice lo hi none p2) pos) (tL X.K (lSl f fl fh)) := pe_le (pe_slice sl_list he hl hh) fun σ H Q ⟨Z, Hf, env, o, R, hf, k⟩ => by
  obtain ⟨x, hx, hf⟩ := Option_bind_some hf
  obtain ⟨a, ha, hf⟩ := Option_bind_some hf
  obtain ⟨b, hb, hf⟩ := Option_bind_some hf
  cases x with
  | list l =>
    cases hf
    refine ⟨Z, Hf, env, _, R, hx, fun v H1 Hf1 s1 d1 => ⟨Z, Hf1, env, a, R.step s1, ha, fun H2 Hf2 s2 => ⟨Z, Hf2, env, b, (R.step s1).step s2, hb, fun H3 Hf3 s3 => ?_⟩⟩⟩
    obtain ⟨q, xs, rfl, hq, hd⟩ := d1.lst_of
    have up : Same Hf1 Hf3 := s2.f.trans s3.f
    refine ⟨q, xs, rfl, (up.trans s3.i).seq hq, fun p hp => ?_⟩
    have s13 := s1.trans (s2.trans s3)
    exact k p _ _ _ (s13.trans (Stp.hid s3.i hp)) (s13.h.free hp) (s3.i.free hp) upd_same (cut_dp (DpAll_up up hd) a b)
  | _ => cases hf
def fLen : List PyData → Option PyData
  | [.list l] => some (.int l.length)
  | [.tuple l] => some (.int l.length)
  | _ => none
def fMin : List PyData → Option PyData
  | [.int a, .int b] => some (.int (min a b))
  | _ => none
def fMax : List PyData → Option PyData
  | [.int a, .int b] => some (.int (max a b))
  | _ => none
def fTuple : List PyData → Option PyData
  | [.list l] => some (.tuple l)
  | [.tuple l] => some (.tuple l)
  | _ => none
def fList : List PyData → Option (List PyData)
  | [.list l] => some l
  | [.tuple l] => some l
  | _ => none
def fIntB : List PyData → Option PyData
  | [.int i] => some (.int i)
  | [.bool b] => some (.int (if b then 1 else 0))
  | _ => none
def getInts : List PyData → Option (List Int)
  | [] => some []
  | .int i :: r => (getInts r).bind fun l => some (i :: l)
  | _ => none
theorem getInts_eq : ∀ {ds : List PyData} {ns : List Int}, getInts ds = some ns → ds = ns.map .int
  | [], ns, h => by cases h; rfl
  | .int i :: r, ns, h => by
    obtain ⟨l, hl, h⟩ := Option_bind_some h
    cases h
    rw [getInts_eq hl]
    rfl
  | .none :: _, _, h => by cases h
  | .bool _ :: _, _, h => by cases h
  | .str _ :: _, _, h => by cases h
  | .list _ :: _, _, h => by cases h
  | .tuple _ :: _, _, h => by cases h
  | .dict _ :: _, _, h => by cases h
theorem getInts_map : ∀ ns : List Int, getInts (ns.map .int) = some ns
  | [] => rfl
  | n :: ns => by
    show (getInts (ns.map .int)).bind _ = _
    rw [getInts_map ns]
    rfl
def getBools : List PyData → Option (List Bool)
  | [] => some []
  | .bool i :: r => (getBools r).bind fun l => some (i :: l)
  | _ => none
theorem getBools_eq : ∀ {ds : List PyData} {ns : List Bool}, getBools ds = some ns → ds = ns.map .bool
  | [], ns, h => by cases h; rfl
  | .bool i :: r, ns, h => by
    obtain ⟨l, hl, h⟩ := Option_bind_some h
    cases h
    rw [getBools_eq hl]
    rfl
  | .none :: _, _, h => by cases h
  | .int _ :: _, _, h => by cases h
  | .str _ :: _, _, h => by cases h
  | .list _ :: _, _, h => by cases h
  | .tuple _ :: _, _, h => by cases h
  | .dict _ :: _, _, h => by cases h
theorem getBools_map : ∀ ns : List Bool, getBools (ns.map .bool) = some ns
  | [] => rfl
  | n :: ns => by
    show (getBools (ns.map .bool)).bind _ = _
    rw [getBools_map ns]
    rfl
def fSum : List PyData → Option PyData
  | [.list l] => (getInts l).bind fun ns => some (.int ns.sum)
  | [.tuple l] => (getInts l).bind fun ns => some (.int ns.sum)
  | _ => none
def fAll : List PyData → Option PyData
  | [.list l] => (getBools l).bind fun ns => some (.bool (ns.all id))
  | _ => none
def fAny : List PyData → Option PyData
  | [.list l] => (getBools l).bind fun ns => some (.bool (ns.any id))
  | _ => none
theorem cd_len : CallD X (.builtin "len") fLen := by
  intro pins s σ H xs us Q I r ⟨Hf, ds, dz, hi, hd, hf, k⟩
  unfold fLen at hf
  split at hf
  · cases hf
    obtain ⟨v, rfl, hv⟩ := hd.one
    obtain ⟨p, ys, rfl, hp, ha⟩ := hv.lst_of
    exact call_len_seq pins s σ H _ us Q I r ⟨p, ys, rfl, .inl (hi.seq hp), by rw [ha.len]; exact k _ _ _ (.refl hi) (.int _)⟩
  · cases hf
    obtain ⟨v, rfl, hv⟩ := hd.one
    obtain ⟨p, ys, rfl, hp, ha⟩ := hv.tup_of
    exact call_len_seq pins s σ H _ us Q I r ⟨p, ys, rfl, .inr (sqT_up hi hp), by rw [ha.len]; exact k _ _ _ (.refl hi) (.int _)⟩
  · cases hf
theorem cd_min (hc : X.calm = true) : CallD X (.builtin "min") fMin := by
  intro pins s σ H xs us Q I r ⟨Hf, ds, dz, hi, hd, hf, k⟩
  unfold fMin at hf
  split at hf
  · rename_i a b
    cases hf
    obtain ⟨v, w, rfl, hv, hw⟩ := hd.two
    cases hv.int_eq
    cases hw.int_eq
    refine call_min2 hc pins s σ H _ us Q I r ⟨a, b, rfl, ?_⟩
    have e : (if b < a then b else a) = min a b := by
      rw [Int.min_def]
      split <;> split <;> omega
    rw [e]
    exact k _ _ _ (.refl hi) (.int _)
  · cases hf
theorem cd_max (hc : X.calm = true) : CallD X (.builtin "max") fMax := by
  intro pins s σ H xs us Q I r ⟨Hf, ds, dz, hi, hd, hf, k⟩
  unfold fMax at hf
  split at hf
  · rename_i a b
    cases hf
    obtain ⟨v, w, rfl, hv, hw⟩ := hd.two
    cases hv.int_eq
    cases hw.int_eq
    refine call_max2 hc pins s σ H _ us Q I r ⟨a, b, rfl, ?_⟩
    have e : (if b > a then b else a) = max a b := by
      rw [Int.max_def]
      split <;> split <;> omega
    rw [e]
    exact k _ _ _ (.refl hi) (.int _)
  · cases hf
theorem cd_tuple : CallD X (.type "tuple") fTuple := by
  intro pins s σ H xs us Q I r ⟨Hf, ds, dz, hi, hd, hf, k⟩
  unfold fTuple at hf
  split at hf
  · cases hf
    obtain ⟨v, rfl, hv⟩ := hd.one
    obtain ⟨p, ys, rfl, hp, ha⟩ := hv.lst_of
    refine call_tuple_of pins s σ H _ us Q I r ⟨p, ys, rfl, .inl ⟨hi.seq hp, fun l hl => ?_⟩⟩
    have st := Stp.new (o := .tup ys) hi hl
    exact k _ _ _ st (.tup (SqT.of upd_same) (DpAll_up st.f ha))
  · cases hf
    obtain ⟨v, rfl, hv⟩ := hd.one
    obtain ⟨p, ys, rfl, hp, ha⟩ := id hv.tup_of
    exact call_tuple_of pins s σ H _ us Q I r ⟨p, ys, rfl, .inr ⟨sqT_up hi hp, k _ _ _ (.refl hi) hv⟩⟩
  · cases hf
theorem cl_list : CallL X (.type "list") fList := by
  intro pins s σ H xs us Q I r ⟨Hf, ds, dz, hi, hd, hf, k⟩
  unfold fList at hf
  split at hf
  · cases hf
    obtain ⟨v, rfl, hv⟩ := hd.one
    obtain ⟨p, ys, rfl, hp, ha⟩ := hv.lst_of
    exact call_list_of pins s σ H _ us Q I r ⟨p, ys, rfl, .inl (hi.seq hp), fun l hl => k l ys _ _ (Stp.hid hi hl) hl (hi.free hl) upd_same ha⟩
  · cases hf
    obtain ⟨v, rfl, hv⟩ := hd.one
    obtain ⟨p, ys, rfl, hp, ha⟩ := hv.tup_of
    exact call_list_of pins s σ H _ us Q I r ⟨p, ys, rfl, .inr (sqT_up hi hp), fun l hl => k l ys _ _ (Stp.hid hi hl) hl (hi.free hl) upd_same ha⟩
  · cases hf
theorem cd_int : CallD X (.type "int") fIntB := by
  intro pins s σ H xs us Q I r ⟨Hf, ds, dz, hi, hd, hf, k⟩
  unfold fIntB at hf
  split at hf
  · cases hf
    obtain ⟨v, rfl, hv⟩ := hd.one
    cases hv.int_eq
    exact call_int1 pins s σ H _ us Q I r (.inl ⟨_, rfl, k _ _ _ (.refl hi) (.int _)⟩)
  · cases hf
    obtain ⟨v, rfl, hv⟩ := hd.one
    cases hv.bl_eq
    exact call_int1 pins s σ H _ us Q I r (.inr ⟨_, rfl, k _ _ _ (.refl hi) (.int _)⟩)
  · cases hf
theorem cd_all (hc : X.calm = true) : CallD X (.builtin "all") fAll := by
  intro pins s σ H xs us Q I r ⟨Hf, ds, dz, hi, hd, hf, k⟩
  unfold fAll at hf
  split at hf
  · obtain ⟨ns, hns, hf⟩ := Option_bind_some hf
    cases hf
    obtain ⟨v, rfl, hv⟩ := hd.one
    obtain ⟨p, ys, rfl, hp, ha⟩ := hv.lst_of
    rw [getBools_eq hns] at ha
    rw [ha.bools] at hp
    exact cr_all hc pins s σ H _ us Q I r ⟨p, ns, rfl, hi.seq hp, k _ _ _ (.refl hi) (.bl _)⟩
  · cases hf
theorem cd_any (hc : X.calm = true) : CallD X (.builtin "any") fAny := by
  intro pins s σ H xs us Q I r ⟨Hf, ds, dz, hi, hd, hf, k⟩
  unfold fAny at hf
  split at hf
  · obtain ⟨ns, hns, hf⟩ := Option_bind_some hf
    cases hf
    obtain ⟨v, rfl, hv⟩ := hd.one
    obtain ⟨p, ys, rfl, hp, ha⟩ := hv.lst_of
    rw [getBools_eq hns] at ha
    rw [ha.bools] at hp
    exact cr_any hc pins s σ H _ us Q I r ⟨p, ns, rfl, hi.seq hp, k _ _ _ (.refl hi) (.bl _)⟩
  · cases hf
end
end Fi

namespace Fi
open PySem PySem.Spec PyProof.Rows L2

inductive Kd where | l | t
def SqK (K : PySem.W.Frag) : Kd → Hp → Addr → List V → Prop
  | .l, H, a, xs => SqL K H a xs
  | .t, H, a, xs => SqT K H a xs
def ItK : Kd → Heap → Addr → Addr → Nat → Prop
  | .l, h, it, a, i => h.IsListIter it a i
  | .t, h, it, a, i => h.IsTupleIter it a i
def HasK : Kd → Heap → Addr → Array Value → Prop
  | .l, h, a, x => h.IsList a x
  | .t, h, a, x => h.IsTuple a x
def objK : Kd → Addr → Obj
  | .l, a => { cls := .type "list_iterator", data := .fields #[.ref a, .int 0 0] }
  | .t, a => { cls := .type "tuple_iterator", data := .fields #[.ref a, .int 0 0] }
theorem sqK_up {K : PySem.W.Frag} {k : Kd} {H H' : Hp} {a : Addr} {xs : List V} (e : Same H H') (h : SqK K k H a xs) : SqK K k H' a xs := by
  cases k
  · exact e.seq h
  · exact sqT_up e h
theorem drawsK (k : Kd) {prog : Program} {w : World} {A : Around} (hh : A.handled = none) (it a : Addr) (hne : a ≠ it) (items : Array Value) :
    Draws prog w A it [it, a] items.size (fun i v => items[i]? = some v) (fun i h => ItK k h it a i ∧ HasK k h a items) := by
  cases k
  · exact Draws.list hh it a hne items
  · exact Draws.tuple hh it a hne items
theorem beginsK (k : Kd) (a : Addr) (items : Array Value) : Begins (.ref a) (objK k a) fun h => HasK k h a items := by
  cases k
  · exact begins_list a items
  · exact begins_tuple a items
theorem itK_0 {k : Kd} {h : Heap} {it a : Addr} (e : h.get? it = some (objK k a)) : ItK k h it a 0 := by
  cases k
  · exact ⟨_, e, rfl, rfl⟩
  · exact ⟨_, e, rfl, rfl⟩
theorem itK_obj {k : Kd} {h : Heap} {it a : Addr} {i : Nat} (e : ItK k h it a i) : ∃ o, h.get? it = some o ∧ ∀ v, o.data ≠ .cell v := by
  cases k
  · obtain ⟨o, ho, _, hd⟩ := e
    exact ⟨o, ho, fun v q => by rw [hd] at q; cases q⟩
  · obtain ⟨o, ho, _, hd⟩ := e
    exact ⟨o, ho, fun v q => by rw [hd] at q; cases q⟩
theorem itK_at {k : Kd} {h h' : Heap} {it a : Addr} {i : Nat} (e : ItK k h it a i) (k' : ∀ o, h.get? it = some o → h'.get? it = some o) : ItK k h' it a i := by
  cases k
  · exact Heap.IsListIter.at e k'
  · exact Heap.IsTupleIter.at e k'
theorem hasK_of {X : Cx} {pins : List (Addr × Obj)} {σ : L2.St} {H : Hp} {s : Shared} {k : Kd} {a : Addr} {xs : List V} (I : Inv X pins σ H s) (h : SqK X.K k H a xs) : ∃ its : List Value, Vals xs its ∧ HasK k s.heap a its.toArray := by
  cases k
  · obtain ⟨its, r, p, _⟩ := I.list h
    exact ⟨its, r, p.isList⟩
  · obtain ⟨its, r, p, _⟩ := I.tuple h
    exact ⟨its, r, p⟩
theorem sqK_inj {X : Cx} {pins : List (Addr × Obj)} {σ : L2.St} {H : Hp} {s : Shared} {k : Kd} {a : Addr} {xs ys : List V} (I : Inv X pins σ H s) (h : SqK X.K k H a xs) (h' : SqK X.K k H a ys) : xs = ys := by
  cases k
  · exact I.list_inj h h'
  · exact I.tuple_inj h h'
theorem hasK_lt {k : Kd} {h : Heap} {a : Addr} {x : Array Value} (e : HasK k h a x) : a < h.objs.size := by
  cases k
  · obtain ⟨_, q, _⟩ := e
    exact Heap.lt_size q
  · obtain ⟨_, q, _⟩ := e
    exact Heap.lt_size q
def ItzK (K : PySem.W.Frag) (k1 k2 : Kd) (a b : Addr) : It :=
  ⟨fun i H => ∃ (xs ys : List V) (x y : V), SqK K k1 H a xs ∧ SqK K k2 H b ys ∧ xs[i]? = some x ∧ ys[i]? = some y,
    fun i H v H' => ∃ T x y, v = .ref T ∧ H T = none ∧ H' = upd H T (.tup [x, y]) ∧ (∀ xs, SqK K k1 H a xs → xs[i]? = some x) ∧ ∀ ys, SqK K k2 H b ys → ys[i]? = some y,
    fun i H => ∃ xs ys : List V, SqK K k1 H a xs ∧ SqK K k2 H b ys ∧ i ≤ xs.length ∧ i ≤ ys.length ∧ (i = xs.length ∨ i = ys.length)⟩
theorem turn_zipK {P : Program} {w : World} {K : PySem.W.Frag} {elts : List Expr} {kk : Nat} {tpos : Pos} {k1 k2 : Kd} {a b z TI TO i1 i2 : Addr} (D : ZipSep2 z TI TO i1 i2 [i1, a] [i2, b]) :
    Turn P w K (.Tuple elts kk tpos) (ItzK K k1 k2 a b) [z, TI, TO, i1, i2] z (fun i h => IsZip h z TI TO .none ∧ IsTupOf2 h TI (.ref i1) (.ref i2) ∧ (∃ x y, IsTupOf2 h TO x y) ∧ ItK k1 h i1 a i ∧ ItK k2 h i2 b i) where
  mem := by simp
  obj := fun i h st c hc => by
    obtain ⟨hz, hTI, ⟨x, y, hTO⟩, h1, h2⟩ := st
    have e' : c = z ∨ c = TI ∨ c = TO ∨ c = i1 ∨ c = i2 := by simpa using hc
    rcases e' with q | q | q | q | q
    · rw [q]; exact ⟨_, hz, fun v q => nomatch q⟩
    · rw [q]; exact ⟨_, hTI, fun v q => nomatch q⟩
    · rw [q]; exact ⟨_, hTO, fun v q => nomatch q⟩
    · rw [q]; exact itK_obj h1
    · rw [q]; exact itK_obj h2
  keep := fun i h h' st k => by
    obtain ⟨hz, hTI, ⟨x, y, hTO⟩, h1, h2⟩ := st
    exact ⟨k z (by simp) _ hz, k TI (by simp) _ hTI, ⟨x, y, k TO (by simp) _ hTO⟩, itK_at h1 fun o q => k i1 (by simp) o q, itK_at h2 fun o q => k i2 (by simp) o q⟩
  item := by
    intro X hP hw hK hc i pins s σ H E I hf st hg
    subst hP hw hK
    obtain ⟨hz, hTI, ⟨x0, y0, hTO⟩, h1, h2⟩ := st
    obtain ⟨xs, ys, x, y, hqx, hqy, hx, hy⟩ := hg
    obtain ⟨its, rv, p⟩ := hasK_of I hqx
    obtain ⟨its2, rv2, p2⟩ := hasK_of I hqy
    obtain ⟨u, hu, ru⟩ := rv.get hx
    obtain ⟨u2, hu2, ru2⟩ := rv2.get hy
    have hzl : z < s.heap.objs.size := Heap.lt_size hz
    have nai : a ≠ i1 := fun q => by
      have := D.mem1
      obtain ⟨o, ho, _⟩ := itK_obj h1
      have hlt := hasK_lt p
      subst q
      cases k1 with
      | l =>
        obtain ⟨o1, e1, c1, _⟩ := h1
        obtain ⟨o2, e2, c2, _⟩ := p
        rw [e1] at e2
        cases e2
        rw [c1] at c2
        exact absurd c2 (by decide)
      | t =>
        obtain ⟨o1, e1, c1, _⟩ := h1
        obtain ⟨o2, e2, c2, _⟩ := p
        rw [e1] at e2
        cases e2
        rw [c1] at c2
        exact absurd c2 (by decide)
    have nbi : b ≠ i2 := fun q => by
      subst q
      cases k2 with
      | l =>
        obtain ⟨o1, e1, c1, _⟩ := h2
        obtain ⟨o2, e2, c2, _⟩ := p2
        rw [e1] at e2
        cases e2
        rw [c1] at c2
        exact absurd c2 (by decide)
      | t =>
        obtain ⟨o1, e1, c1, _⟩ := h2
        obtain ⟨o2, e2, c2, _⟩ := p2
        rw [e1] at e2
        cases e2
        rw [c1] at c2
        exact absurd c2 (by decide)
    have lx : i < its.toArray.size := by
      rw [List.size_toArray]
      exact (List.getElem?_eq_some_iff.mp hu).1
    have ly : i < its2.toArray.size := by
      rw [List.size_toArray]
      exact (List.getElem?_eq_some_iff.mp hu2).1
    refine wpAny_pyNext_zipD2_item D (drawsK k1 (A := X.A.in1) (I.ok.hd hc) i1 a nai its.toArray) (drawsK k2 (A := X.A.in1) (I.ok.hd hc) i2 b nbi its2.toArray) hz hTI hTO ⟨h1, p⟩ ⟨h2, p2⟩ lx ly fun x1 x2 h' tk hx1 hx2 z' TO' h1' h2' hT hsz hk => ?_
    have ex1 : x1 = u := Option.some.inj (hx1.symm.trans (by simpa using hu))
    have ex2 : x2 = u2 := Option.some.inj (hx2.symm.trans (by simpa using hu2))
    subst ex1 ex2
    refine ⟨_, rfl, wpAny_letOwnedTupleGo_zip (s := { s with heap := h', toks := tk }) z' fun h'' z'' sb => ?_⟩
    have hT2 : h''.get? s.heap.objs.size = some { cls := .type "tuple", data := .seq #[x1, x2] } := (sb.2 _ (Nat.ne_of_gt hzl)).trans hT
    have new : ObjOk X.prog X.w (upd H s.heap.objs.size (.tup [x, y])) h'' s.heap.objs.size (.tup [x, y]) :=
      ⟨by show 2 ≤ sizeLine; decide, [x1, x2], .cons ru (.cons ru2 .nil), ⟨_, hT2, rfl, _, rfl⟩⟩
    have I1 : Inv X pins σ (upd H s.heap.objs.size (.tup [x, y])) { s with heap := h'', toks := tk } :=
      I.turnedNew (t' := tk) (ch := [z, TI, TO, i1, i2]) (fun c o hb q => (sb.2 c (fun q' => hb (by simp [q']))).trans (hk c o (fun q' => hb (by simp [q'])) (fun q' => hb (by simp [q'])) (fun q' => hb (by simp [q'])) (fun q' => hb (by simp [q'])) q)) hf (Nat.le_refl _) new
    refine ⟨.ref s.heap.objs.size, _, I1, rfl, ⟨_, x, y, rfl, I.hok.fresh (Nat.le_refl _), rfl, fun l hl => by rw [sqK_inj I hl hqx]; exact hx, fun l hl => by rw [sqK_inj I hl hqy]; exact hy⟩, ⟨z'', ?_, ⟨x1, x2, ?_⟩, ?_, ?_⟩, fun c hcm => ?_⟩
    · exact (sb.2 _ D.TIz).trans (hk _ _ D.TIz D.TITO D.TIi1 D.TIi2 hTI)
    · exact (sb.2 _ D.TOz).trans TO'
    · exact itK_at h1'.1 fun o q => (sb.2 _ (Ne.symm D.zi1)).trans q
    · exact itK_at h2'.1 fun o q => (sb.2 _ (Ne.symm D.zi2)).trans q
    · have hlt : c < s.heap.objs.size := by
        have e' : c = z ∨ c = TI ∨ c = TO ∨ c = i1 ∨ c = i2 := by simpa using hcm
        rcases e' with q | q | q | q | q
        · rw [q]; exact hzl
        · rw [q]; exact Heap.lt_size hTI
        · rw [q]; exact Heap.lt_size hTO
        · rw [q]; obtain ⟨_, e1, _⟩ := itK_obj h1; exact Heap.lt_size e1
        · rw [q]; obtain ⟨_, e2, _⟩ := itK_obj h2; exact Heap.lt_size e2
      rw [upd_ne (Nat.ne_of_lt hlt)]
      exact (hf c hcm).1
  done := by
    intro X hP hw hK hc i pins s σ H E I hf st hg
    subst hP hw hK
    obtain ⟨hz, hTI, ⟨x0, y0, hTO⟩, h1, h2⟩ := st
    obtain ⟨xs, ys, hqx, hqy, hix, hiy, hend⟩ := hg
    obtain ⟨its, rv, p⟩ := hasK_of I hqx
    obtain ⟨its2, rv2, p2⟩ := hasK_of I hqy
    have l1 := rv.length
    have l2 := rv2.length
    have nai : a ≠ i1 := fun q => by
      subst q
      cases k1 with
      | l =>
        obtain ⟨o1, e1, c1, _⟩ := h1
        obtain ⟨o2, e2, c2, _⟩ := p
        rw [e1] at e2
        cases e2
        rw [c1] at c2
        exact absurd c2 (by decide)
      | t =>
        obtain ⟨o1, e1, c1, _⟩ := h1
        obtain ⟨o2, e2, c2, _⟩ := p
        rw [e1] at e2
        cases e2
        rw [c1] at c2
        exact absurd c2 (by decide)
    have nbi : b ≠ i2 := fun q => by
      subst q
      cases k2 with
      | l =>
        obtain ⟨o1, e1, c1, _⟩ := h2
        obtain ⟨o2, e2, c2, _⟩ := p2
        rw [e1] at e2
        cases e2
        rw [c1] at c2
        exact absurd c2 (by decide)
      | t =>
        obtain ⟨o1, e1, c1, _⟩ := h2
        obtain ⟨o2, e2, c2, _⟩ := p2
        rw [e1] at e2
        cases e2
        rw [c1] at c2
        exact absurd c2 (by decide)
    refine wpAny_pyNext_zipD2_end D (drawsK k1 (A := X.A.in1) (I.ok.hd hc) i1 a nai its.toArray) (drawsK k2 (A := X.A.in1) (I.ok.hd hc) i2 b nbi its2.toArray) hz hTI hTO ⟨h1, p⟩ ⟨h2, p2⟩ (by rw [List.size_toArray]; omega) (by rw [List.size_toArray]; omega) (by rw [List.size_toArray, List.size_toArray]; omega) fun h' tk hk => ⟨rfl, I.turnedL (t' := tk) (ch := [z, TI, TO, i1, i2]) (fun c o hb q =>
      hk c o (fun q' => hb (by simp [q'])) (fun q' => hb (by simp [q'])) (fun q' => hb (by simp [q'])) (fun q' => hb (by simp [q'])) q) hf⟩
  self := fun A i s Q E st h => wpAny_pyIter_zip st.1 h
def iZipK (K : PySem.W.Frag) (k1 k2 : Kd) (ta : TA) : TI := fun σ H R => ta σ H fun vs H1 => ∃ a b xs ys, vs = [.ref a, .ref b] ∧ SqK K k1 H1 a xs ∧ SqK K k2 H1 b ys ∧ R (ItzK K k1 k2 a b) H1
theorem pi_zipK (k1 k2 : Kd) {X : Cx} {e e2 : Expr} {ta : TA} {p pos tpos : Pos} {elts : List Expr} {kk : Nat} (hg : Gl X "zip") (hm : X.mg "zip" = none) (ha : PA X [e, e2] ta)
    (hs : starEach [e, e2] X.env = (false, eval e X.env) :: starEach [e2] X.env := by rfl) (hpl : (backTo pos (starEach [e2] X.env)).any (·.1) = false := by rfl) :
    PI X (.Tuple elts kk tpos) (.Call (.Name "zip" p) [e, e2] [] pos) (iZipK X.K k1 k2 ta) := by
  refine ⟨fun pins s σ H R I h => ?_⟩
  refine Call_ (ld_blt I hg hm PyProof.Rows.boot_zip (PyProof.Rows.callWith_type1 (thn (ha.run pos pins s σ H _ I h) fun us s1 ⟨vs, H1, I1, r1, q1⟩ => ?_) hs hpl))
  obtain ⟨a, b, xs, ys, ex, hqx, hqy, q⟩ := q1
  subst ex
  cases r1 with
  | cons r rr =>
    cases rr with
    | cons r' rr =>
      cases rr
      cases r
      cases r'
      have fresh5 : ∀ c, c ∈ [s1.heap.objs.size + 4, s1.heap.objs.size + 2, s1.heap.objs.size + 3, s1.heap.objs.size, s1.heap.objs.size + 1] → FpOk X pins H1 c := fun c hcm => by
        have e' : c = s1.heap.objs.size + 4 ∨ c = s1.heap.objs.size + 2 ∨ c = s1.heap.objs.size + 3 ∨ c = s1.heap.objs.size ∨ c = s1.heap.objs.size + 1 := by simpa using hcm
        have hle : s1.heap.objs.size ≤ c := by
          rcases e' with z | z | z | z | z
          · rw [z]; exact Nat.le_add_right _ _
          · rw [z]; exact Nat.le_add_right _ _
          · rw [z]; exact Nat.le_add_right _ _
          · rw [z]; exact Nat.le_refl _
          · rw [z]; exact Nat.le_add_right _ _
        exact I1.fpOk hle (I1.hok.fresh hle)
      obtain ⟨its, rv, p1⟩ := hasK_of I1 hqx
      obtain ⟨its2, rv2, p2⟩ := hasK_of I1 hqy
      refine zip_begins2 (beginsK k1 a its.toArray) (beginsK k2 b its2.toArray) p1 p2 fun h' hz hTI hTO h1 h2 hsz hk => wpAny_pyIter_zip hz ?_
      have I2 : Inv X pins σ H1 { s1 with heap := h' } := I1.kept (t' := s1.toks) hk
      have hsep := zip_sep2 (N := s1.heap.objs.size) (fp1 := [a]) (fp2 := [b]) (fun c hc => by rw [List.mem_singleton.mp hc]; exact hasK_lt p1) (fun c hc => by rw [List.mem_singleton.mp hc]; exact hasK_lt p2)
      exact ⟨s1.heap.objs.size + 4, [s1.heap.objs.size + 4, s1.heap.objs.size + 2, s1.heap.objs.size + 3, s1.heap.objs.size, s1.heap.objs.size + 1], _, _, H1, rfl, I2, turn_zipK hsep, ⟨hz, hTI, ⟨_, _, hTO⟩, itK_0 h1, itK_0 h2⟩, fresh5, q⟩
theorem walk_zipK {K : PySem.W.Frag} {k1 k2 : Kd} {a b : Addr} {xs ys : List V} {n : Nat} (hn : n = min xs.length ys.length) : Walk (ItzK K k1 k2 a b) n (fun H => SqK K k1 H a xs ∧ SqK K k2 H b ys) (YPair (fun i => xs[i]?) (fun i => ys[i]?)) := by
  subst hn
  refine ⟨fun i _ hi q => ?_, fun _ q => ⟨xs, ys, q.1, q.2, by omega, by omega, by omega⟩, fun i H v H' _ q y => ?_⟩
  · have h1 : i < xs.length := by omega
    have h2 : i < ys.length := by omega
    exact ⟨xs, ys, xs[i], ys[i], q.1, q.2, by simp [h1], by simp [h2]⟩
  · obtain ⟨T, x, z, h1, h2, h3, h4, h5⟩ := y
    exact ⟨T, x, z, h1, h2, h3, h4 xs q.1, h5 ys q.2⟩
/-- the items of a list or tuple -/
def itemsK : Kd → PyData → Option (List PyData)
  | .l, .list l => some l
  | .t, .tuple l => some l
  | _, _ => none
theorem dp_itemsK {K : PySem.W.Frag} {H : Hp} {v : V} {d : PyData} {k : Kd} {l : List PyData} (h : Dp K H v d) (e : itemsK k d = some l) : ∃ a xs, v = .ref a ∧ SqK K k H a xs ∧ DpAll K H xs l := by
  unfold itemsK at e
  split at e
  · cases e
    exact h.lst_of
  · cases e
    exact h.tup_of
  · cases e
def pairs : List PyData → List PyData → List PyData := fun xs ys => List.zipWith (fun x y => .tuple [x, y]) xs ys
def iZ (k1 k2 : Kd) (r : FL) : FL := fun env => match r env with
  | some [x, y] => (itemsK k1 x).bind fun xs => (itemsK k2 y).bind fun ys => some (pairs xs ys)
  | _ => none
theorem i_zip (k1 k2 : Kd) {X : Cx} {e e2 : Expr} {r : FL} {p pos tpos : Pos} {elts : List Expr} {kk : Nat} (hg : Gl X "zip") (hm : X.mg "zip" = none) (ha : PA X [e, e2] (tA X.K r))
    (hs : starEach [e, e2] X.env = (false, eval e X.env) :: starEach [e2] X.env := by rfl) (hpl : (backTo pos (starEach [e2] X.env)).any (·.1) = false := by rfl) :
    PI X (.Tuple elts kk tpos) (.Call (.Name "zip" p) [e, e2] [] pos) (tI X.K (iZ k1 k2 r)) := pi_le (pi_zipK k1 k2 hg hm ha hs hpl) fun σ H R ⟨Z, Hf, env, ds, Rl, hf, k⟩ => by
  unfold iZ at hf
  split at hf
  · rename_i x y hr
    obtain ⟨xs, hx, hf⟩ := Option_bind_some hf
    obtain ⟨ys, hy, hf⟩ := Option_bind_some hf
    cases hf
    refine ⟨Z, Hf, env, _, Rl, hr, fun vs H1 Hf1 s1 d1 => ?_⟩
    obtain ⟨v, w, rfl, hv, hw⟩ := d1.two
    obtain ⟨a, us, rfl, ha, hda⟩ := dp_itemsK hv hx
    obtain ⟨b, ws, rfl, hb, hdb⟩ := dp_itemsK hw hy
    refine ⟨a, b, us, ws, rfl, sqK_up s1.i ha, sqK_up s1.i hb, k _ H1 Hf1 s1 ?_⟩
    have hl : (pairs xs ys).length = min us.length ws.length := by
      unfold pairs
      rw [List.length_zipWith, hda.len, hdb.len]
    have w := walk_zipK (K := X.K) (k1 := k1) (k2 := k2) (a := a) (b := b) (xs := us) (ys := ws) hl
    refine w.mono (fun H h => ⟨sqK_up h ha, sqK_up h hb⟩) fun i H v H' hi _ y => ?_
    obtain ⟨T, x, z, h1, h2, h3, h4, h5⟩ := y
    obtain ⟨dx, e1, q1⟩ := hda.get h4
    obtain ⟨dy, e2, q2⟩ := hdb.get h5
    refine ⟨.tuple [dx, dy], ?_, .inr ⟨T, [x, z], [dx, dy], h1, h2, h3, rfl, .cons q1 (.cons q2 .nil)⟩⟩
    unfold pairs
    rw [List.getElem?_zipWith, e1, e2]
  · cases hf

theorem meets_enum1 {v : Value} {o : Obj} {H : Heap → Prop} (B : Begins v o H) :
    Meets (Builtin.«enumerate.__new__» ⟨[.type "enumerate", v], []⟩) (fun _ R s => H s.heap ∧
      R (.ok (.ret (.ref (s.heap.push o).objs.size))) { s with heap := (s.heap.push o).push { cls := .type "enumerate", data := .fields #[.none, .bool false, .ref s.heap.objs.size, rawInt 0, .none, .none] } }) :=
  .of_wp fun prog w A R s h => by
    obtain ⟨hp, g, d, tk, os⟩ := s; obtain ⟨h1, h⟩ := h
    have hsub := sub_enumerate
    have q1 : ∀ {A' : Around} {E : Value → Shared → Prop} {Q : Value → Shared → Prop}, Q (.ref hp.objs.size) ⟨hp.push o, g, d, tk, os⟩ → wpAny (model prog w) A' (pyIter v) Q E ⟨hp, g, d, tk, os⟩ :=
      fun q => B.iter prog w _ _ ⟨hp, g, d, tk, os⟩ _ h1 q
    wp_walk using q1
    refine wpAny_stack_any fun st => wpAny_pure ?_
    split
    · rename_i c _ _ _ _ _
      cases (c == Value.type "enumerate")
      · wp_walk using q1
        exact ⟨_, rfl, h⟩
      · wp_walk using q1
        exact ⟨_, rfl, h⟩
    · wp_walk using q1
      exact ⟨_, rfl, h⟩
theorem enum1_begins {prog : Program} {w : World} {A : Around} {E : Value → Shared → Prop} {s : Shared} {v : Value} {o : Obj} {H : Heap → Prop} {Q : Value → Shared → Prop} (B : Begins v o H) (h1 : H s.heap)
    (h : ∀ h', IsEnum h' (s.heap.objs.size + 1) s.heap.objs.size 0 .none → h'.get? s.heap.objs.size = some o → h'.objs.size = s.heap.objs.size + 2 →
      (∀ b o, s.heap.get? b = some o → h'.get? b = some o) → Q (.ref (s.heap.objs.size + 1)) { s with heap := h' }) :
    wpAny (model prog w) A (call (.type "enumerate") [v]) Q E s := by
  refine callType_new F.called_enumerate (by decide) (F.typeCall_enumerate_1 _) (F.newCall_enumerate_1 _) (fun obj => F.args_object_init_2 obj _) F.entry_enumerate_new
    (meets_enum1 B) ⟨h1, ?_⟩
  have hz : (s.heap.push o).objs.size = s.heap.objs.size + 1 := Heap.size_push ..
  show _ ∧ _
  rw [hz]
  have he : IsEnum ((s.heap.push o).push { cls := .type "enumerate", data := .fields #[.none, .bool false, .ref s.heap.objs.size, rawInt 0, .none, .none] }) (s.heap.objs.size + 1) s.heap.objs.size 0 .none := by
    have := Heap.get?_push_size (s.heap.push o) (o := { cls := .type "enumerate", data := .fields #[.none, .bool false, .ref s.heap.objs.size, rawInt 0, .none, .none] }) rfl
    rw [hz] at this; exact this
  refine ⟨⟨_, he, rfl⟩, h _ he (Heap.get?_push_of_some _ (Heap.get?_push_size _ B.free)) (by rw [Heap.size_push, hz]) fun b o x => Heap.get?_push_of_some _ (Heap.get?_push_of_some _ x)⟩
def IteK (K : PySem.W.Frag) (k : Kd) (a : Addr) : It :=
  ⟨fun i H => ∃ (xs : List V) (x : V), SqK K k H a xs ∧ xs[i]? = some x, fun i H v H' => ∃ T x, v = .ref T ∧ H T = none ∧ H' = upd H T (.tup [.int (i : Nat), x]) ∧ ∀ xs, SqK K k H a xs → xs[i]? = some x, fun i H => ∃ xs : List V, SqK K k H a xs ∧ i = xs.length⟩
theorem turn_enumK {P : Program} {w : World} {K : PySem.W.Frag} {elts : List Expr} {kk : Nat} {tpos : Pos} {k : Kd} (a e it : Addr) :
    Turn P w K (.Tuple elts kk tpos) (IteK K k a) [e, it] e (fun i h => (∃ old, IsEnum h e it ((i : Nat) : Int) old) ∧ ItK k h it a i ∧ e ≠ it) where
  mem := by simp
  obj := fun i h st b hb => by
    obtain ⟨⟨old, he⟩, hi, _⟩ := st
    have e' : b = e ∨ b = it := by simpa using hb
    rcases e' with z | z
    · rw [z]; exact ⟨_, he, fun v q => nomatch q⟩
    · rw [z]; exact itK_obj hi
  keep := fun i h h' st k => let ⟨⟨old, he⟩, hi, hne⟩ := st; ⟨⟨old, k e (by simp) _ he⟩, itK_at hi fun o q => k it (by simp) o q, hne⟩
  item := by
    intro X hP hw hK hc i pins s σ H E I hf st hg
    subst hP hw hK
    obtain ⟨⟨old, he⟩, hit, hne⟩ := st
    obtain ⟨xs, x, hq, hx⟩ := hg
    obtain ⟨its, rv, p⟩ := hasK_of I hq
    obtain ⟨u, hu, ru⟩ := rv.get hx
    have hel : e < s.heap.objs.size := Heap.lt_size he
    have hil : it < s.heap.objs.size := by obtain ⟨_, q, _⟩ := itK_obj hit; exact Heap.lt_size q
    have nai : a ≠ it := fun q => by
      subst q
      cases k with
      | l =>
        obtain ⟨o1, e1, c1, _⟩ := hit
        obtain ⟨o2, e2, c2, _⟩ := p
        rw [e1] at e2
        cases e2
        rw [c1] at c2
        exact absurd c2 (by decide)
      | t =>
        obtain ⟨o1, e1, c1, _⟩ := hit
        obtain ⟨o2, e2, c2, _⟩ := p
        rw [e1] at e2
        cases e2
        rw [c1] at c2
        exact absurd c2 (by decide)
    have nae : a ≠ e := fun q => by
      subst q
      cases k with
      | l =>
        obtain ⟨o2, e2, c2, _⟩ := p
        rw [he] at e2
        cases e2
        have c3 : Value.type "enumerate" = _ := c2
        exact absurd c3 (by decide)
      | t =>
        obtain ⟨o2, e2, c2, _⟩ := p
        rw [he] at e2
        cases e2
        have c3 : Value.type "enumerate" = _ := c2
        exact absurd c3 (by decide)
    have lx : i < its.toArray.size := by
      rw [List.size_toArray]
      exact (List.getElem?_eq_some_iff.mp hu).1
    refine wpAny_pyNext_enum_itemD (drawsK k (A := X.A.in1) (I.ok.hd hc) it a nai its.toArray) he ⟨hit, p⟩ lx hne (by simp [hne, Ne.symm nae]) fun x1 h' tk hx1 ho hit' hT hsz hk => ?_
    have ex1 : x1 = u := Option.some.inj (hx1.symm.trans (by simpa using hu))
    subst ex1
    refine ⟨_, rfl, wpAny_letOwnedTupleGo_enum (s := { s with heap := h', toks := tk + 1 }) ho fun h'' he' sb => ?_⟩
    have hT2 : h''.get? s.heap.objs.size = some { cls := .type "tuple", data := .seq #[.int i tk, x1] } := (sb.2 _ (Nat.ne_of_gt hel)).trans hT
    have new : ObjOk X.prog X.w (upd H s.heap.objs.size (.tup [.int (i : Nat), x])) h'' s.heap.objs.size (.tup [.int (i : Nat), x]) :=
      ⟨by show 2 ≤ sizeLine; decide, [.int i tk, x1], .cons ⟨_, rfl⟩ (.cons ru .nil), ⟨_, hT2, rfl, _, rfl⟩⟩
    have I1 : Inv X pins σ (upd H s.heap.objs.size (.tup [.int (i : Nat), x])) { s with heap := h'', toks := tk + 1 } :=
      I.turnedNew (ch := [e, it]) (fun b ob hb q => (sb.2 b (fun z => hb (by simp [z]))).trans (hk b ob (fun z => hb (by simp [z])) (fun z => hb (by simp [z])) q)) hf (Nat.le_refl _) new
    refine ⟨.ref s.heap.objs.size, _, I1, rfl, ⟨_, x, rfl, I.hok.fresh (Nat.le_refl _), rfl, fun ys hy => by rw [sqK_inj I hy hq]; exact hx⟩, ⟨⟨x1, ?_⟩, itK_at hit'.1 fun o q => (sb.2 it (Ne.symm hne)).trans q, hne⟩, fun b hb => ?_⟩
    · have e1 : ((i + 1 : Nat) : Int) = (i : Int) + 1 := by omega
      rw [e1]; exact he'
    · have hb' : b < s.heap.objs.size := by
        have e' : b = e ∨ b = it := by simpa using hb
        rcases e' with z | z
        · rw [z]; exact hel
        · rw [z]; exact hil
      rw [upd_ne (Nat.ne_of_lt hb')]
      exact (hf b hb).1
  done := by
    intro X hP hw hK hc i pins s σ H E I hf st hg
    subst hP hw hK
    obtain ⟨⟨old, he⟩, hit, hne⟩ := st
    obtain ⟨xs, hq, hx⟩ := hg
    obtain ⟨its, rv, p⟩ := hasK_of I hq
    obtain ⟨f0, f1, f2, f3, f4, f5⟩ := hf it (by simp)
    have hl := rv.length
    have nai : a ≠ it := fun q => by
      subst q
      cases k with
      | l =>
        obtain ⟨o1, e1, c1, _⟩ := hit
        obtain ⟨o2, e2, c2, _⟩ := p
        rw [e1] at e2
        cases e2
        rw [c1] at c2
        exact absurd c2 (by decide)
      | t =>
        obtain ⟨o1, e1, c1, _⟩ := hit
        obtain ⟨o2, e2, c2, _⟩ := p
        rw [e1] at e2
        cases e2
        rw [c1] at c2
        exact absurd c2 (by decide)
    have ei : i = its.toArray.size := by
      rw [List.size_toArray]
      omega
    exact wpAny_pyNext_enum_endD (drawsK k (A := X.A.in1) (I.ok.hd hc) it a nai its.toArray) he (by rw [← ei]; exact ⟨hit, p⟩) fun h' eb => ⟨rfl, I.turned (t' := s.toks) (fun b o hb q => eb b o hb q) f0 f1 f3 f4 f5⟩
  self := fun A i s Q E st h => let ⟨⟨_, he⟩, _⟩ := st; wpAny_pyIter_enum he h
def iEnumK (K : PySem.W.Frag) (k : Kd) (ta : TA) : TI := fun σ H R => ta σ H fun vs H1 => ∃ a xs, vs = [.ref a] ∧ SqK K k H1 a xs ∧ R (IteK K k a) H1
theorem pi_enumK (k : Kd) {X : Cx} {e : Expr} {ta : TA} {p pos tpos : Pos} {elts : List Expr} {kk : Nat} (hg : Gl X "enumerate") (hm : X.mg "enumerate" = none) (ha : PA X [e] ta) (hs : starEach [e] X.env = [(false, eval e X.env)] := by rfl) :
    PI X (.Tuple elts kk tpos) (.Call (.Name "enumerate" p) [e] [] pos) (iEnumK X.K k ta) := by
  refine ⟨fun pins s σ H R I h => ?_⟩
  refine Call_ (ld_blt I hg hm boot_enumerate (PyProof.Rows.callWith_type1 (thn (ha.run pos pins s σ H _ I h) fun us s1 ⟨vs, H1, I1, r1, q1⟩ => ?_) hs rfl))
  obtain ⟨a, xs, ex, hq, q⟩ := q1
  subst ex
  cases r1 with
  | cons r rr =>
    cases rr
    cases r
    obtain ⟨its, rv, p'⟩ := hasK_of I1 hq
    refine enum1_begins (beginsK k a its.toArray) p' fun h' he hit hsz hk => wpAny_pyIter_enum he ?_
    have I2 : Inv X pins σ H1 { s1 with heap := h' } := I1.kept (t' := s1.toks) hk
    refine ⟨s1.heap.objs.size + 1, [s1.heap.objs.size + 1, s1.heap.objs.size], _, _, H1, rfl, I2, turn_enumK a (s1.heap.objs.size + 1) s1.heap.objs.size, ⟨⟨.none, he⟩, itK_0 hit, Nat.succ_ne_self _⟩, fun b hb => ?_, q⟩
    have e' : b = s1.heap.objs.size + 1 ∨ b = s1.heap.objs.size := by simpa using hb
    have hle : s1.heap.objs.size ≤ b := by
      rcases e' with z | z
      · rw [z]; exact Nat.le_add_right _ _
      · rw [z]; exact Nat.le_refl _
    exact I1.fpOk hle (I1.hok.fresh hle)
theorem walk_enumK {K : PySem.W.Frag} {k : Kd} {a : Addr} {xs : List V} : Walk (IteK K k a) xs.length (fun H => SqK K k H a xs) (YPair (fun i => some (.int (i : Nat))) (fun i => xs[i]?)) := by
  refine ⟨fun i _ hi q => ⟨xs, xs[i], q, by simp [hi]⟩, fun _ q => ⟨xs, q, rfl⟩, fun i H v H' _ q y => ?_⟩
  obtain ⟨T, x, h1, h2, h3, h4⟩ := y
  exact ⟨T, .int (i : Nat), x, h1, h2, h3, rfl, h4 xs q⟩
def enumD (xs : List PyData) : List PyData := List.zipWith (fun (i : Nat) y => .tuple [.int (i : Int), y]) (List.range xs.length) xs
def iEn (k : Kd) (r : FL) : FL := fun env => match r env with
  | some [x] => (itemsK k x).bind fun xs => some (enumD xs)
  | _ => none
theorem i_enum (k : Kd) {X : Cx} {e : Expr} {r : FL} {p pos tpos : Pos} {elts : List Expr} {kk : Nat} (hg : Gl X "enumerate") (hm : X.mg "enumerate" = none) (ha : PA X [e] (tA X.K r)) (hs : starEach [e] X.env = [(false, eval e X.env)] := by rfl) :
    PI X (.Tuple elts kk tpos) (.Call (.Name "enumerate" p) [e] [] pos) (tI X.K (iEn k r)) := pi_le (pi_enumK k hg hm ha hs) fun σ H R ⟨Z, Hf, env, ds, Rl, hf, kk⟩ => by
  unfold iEn at hf
  split at hf
  · rename_i x hr
    obtain ⟨xs, hx, hf⟩ := Option_bind_some hf
    cases hf
    refine ⟨Z, Hf, env, _, Rl, hr, fun vs H1 Hf1 s1 d1 => ?_⟩
    obtain ⟨v, rfl, hv⟩ := d1.one
    obtain ⟨a, us, rfl, ha, hda⟩ := dp_itemsK hv hx
    refine ⟨a, us, rfl, sqK_up s1.i ha, kk _ H1 Hf1 s1 ?_⟩
    have hl : (enumD xs).length = us.length := by
      unfold enumD
      rw [List.length_zipWith, List.length_range, hda.len, Nat.min_self]
    have w := walk_enumK (K := X.K) (k := k) (a := a) (xs := us)
    rw [← hl] at w
    refine w.mono (fun H h => sqK_up h ha) fun i H v H' hi _ y => ?_
    obtain ⟨T, x, z, h1, h2, h3, h4, h5⟩ := y
    obtain ⟨dy, e2, q2⟩ := hda.get h5
    have hil : i < xs.length := (List.getElem?_eq_some_iff.mp e2).1
    have ex : V.int (i : Nat) = x := Option.some.inj h4
    subst ex
    refine ⟨.tuple [.int (i : Int), dy], ?_, .inr ⟨T, [_, z], [_, dy], h1, h2, h3, rfl, .cons (.int _) (.cons q2 .nil)⟩⟩
    unfold enumD
    rw [List.getElem?_zipWith, e2, List.getElem?_range hil]
  · cases hf

theorem intsAre_get : ∀ {vs : List Value} {ns : List Int} {i : Nat} {v : Value}, IntsAre vs ns → vs[i]? = some v → ∃ t, v = .int (ns.getD i 0) t
  | _, _, _, _, .nil, e => by simp at e
  | _, _, 0, _, .cons n t _, e => by
    simp at e
    exact ⟨t, e.symm⟩
  | _, _, i + 1, v, .cons n t h, e => by
    obtain ⟨t', q⟩ := intsAre_get (i := i) (v := v) h (by simpa using e)
    exact ⟨t', by simpa using q⟩
theorem cr_sumT {X : Cx} (hc : X.calm = true) : CallR X (.builtin "sum") (fun vs H Q => ∃ (a : Addr) (ns : List Int), vs = [V.ref a] ∧ SqT X.K H a (ns.map V.int) ∧ Q (.int ns.sum) H) := by
  intro pins s σ H vs us Q I r h
  obtain ⟨a, ns, rfl, hs, q⟩ := h
  obtain ⟨its, rv, hl, _⟩ := I.tuple hs
  rw [Vals.ref1 r]
  have hi := rv.ints
  have ht : s.heap.IsTuple a its.toArray := hl
  have hlt : a < s.heap.objs.size := by obtain ⟨_, e, _⟩ := ht; exact Heap.lt_size e
  refine call_sum_walkG (wpAny_pyIter_tuple ht ?_)
  refine ⟨_, _, _, _, _, _, fun i => ns.getD i 0, rfl, Walks.tuple (A := X.A.in1) (I.ok.hd hc) _ a (Nat.ne_of_lt hlt) its.toArray, ⟨⟨_, Heap.get?_push_size _ rfl, rfl, rfl⟩, ht.at fun o e => Heap.get?_push_of_some _ e⟩, fun b hb => ?_, fun i v hv => intsAre_get hi (by simpa using hv), fun h' tk t' hk => ?_⟩
  · show b < (s.heap.push _).objs.size
    rw [Heap.size_push]
    rcases List.mem_cons.mp hb with rfl | hb
    · exact Nat.lt_succ_self _
    · rw [List.mem_singleton.mp hb]
      exact Nat.lt_succ_of_lt hlt
  · have hlen : its.toArray.size = ns.length := by rw [List.size_toArray, hi.length]
    refine ⟨.int ns.sum, H, I.kept fun b o eo => hk b o (fun hmem => ?_) (Heap.get?_push_of_some _ eo), ⟨t', ?_⟩, q⟩
    · exact absurd (List.mem_singleton.mp hmem ▸ Heap.lt_size eo) (Nat.lt_irrefl _)
    · rw [hlen, preSum_getD, List.take_length]
theorem cd_sum {X : Cx} (hc : X.calm = true) : CallD X (.builtin "sum") fSum := by
  intro pins s σ H xs us Q I r ⟨Hf, ds, dz, hi, hd, hf, k⟩
  unfold fSum at hf
  split at hf
  · obtain ⟨ns, hns, hf⟩ := Option_bind_some hf
    cases hf
    obtain ⟨v, rfl, hv⟩ := hd.one
    obtain ⟨p, ys, rfl, hp, ha⟩ := hv.lst_of
    rw [getInts_eq hns] at ha
    rw [ha.ints] at hp
    exact cr_sum hc pins s σ H _ us Q I r ⟨p, ns, rfl, hi.seq hp, k _ _ _ (.refl hi) (.int _)⟩
  · obtain ⟨ns, hns, hf⟩ := Option_bind_some hf
    cases hf
    obtain ⟨v, rfl, hv⟩ := hd.one
    obtain ⟨p, ys, rfl, hp, ha⟩ := hv.tup_of
    rw [getInts_eq hns] at ha
    rw [ha.ints] at hp
    exact cr_sumT hc pins s σ H _ us Q I r ⟨p, ns, rfl, sqT_up hi hp, k _ _ _ (.refl hi) (.int _)⟩
  · cases hf
end Fi

namespace Fi
open PySem PySem.Spec PyProof.Rows L2

def ownIx (i : Nat) (f : FE) : FE := fun env => match env[i]? with
  | some (some (.own l)) => match f env with
    | some (.int k) => atI l k
    | _ => none
  | _ => none
def ownLen (i : Nat) : FE := fun env => match env[i]? with
  | some (some (.own l)) => some (.int l.length)
  | _ => none
section
variable {X : Cx}
theorem x_ownIx (i : Nat) {x : Str} {e : Expr} {p pos : Pos} {f : FE} (he : PE X e (tE X.K f)) (hs : PlainIx e) (hN : X.N[i]? = some x := by rfl) (hv : Vis X.env.scope x := by first | exact Or.inl rfl | exact Or.inr (Or.inl rfl) | exact Or.inr (Or.inr rfl)) (hd : (x == ("__debug__" : Str)) = false := by decide)
    (hcd : (x == ("__classdict__" : Str)) = false := by decide) : PE X (.Subscript (.Name x p) e pos) (tE X.K (ownIx i f)) := pe_le (pe_ix ix_list (pe_var hN hv hd hcd) he hs) fun σ H Q ⟨Z, Hf, env, d, R, hf, k⟩ => by
  unfold ownIx at hf
  split at hf
  · rename_i l hl
    split at hf
    · rename_i kk hk
      obtain ⟨w, hs, p, vs, rfl, hz, hfp, hp, ha⟩ := R.sl i _ hl
      refine ⟨.ref p, hs, Z, Hf, env, _, R, hk, fun v H1 Hf1 s1 d1 => ?_⟩
      cases d1.int_eq
      obtain ⟨w, e, hw⟩ := atI_dp ha hf
      exact ⟨p, vs, kk, w, rfl, rfl, SqL.of (s1.h p _ hp), e, k _ _ _ s1 (Dp_up s1.f hw)⟩
    · cases hf
  · cases hf
theorem x_ownLen (i : Nat) {x : Str} {p q pos : Pos} (hg : Gl X "len") (hm : X.mg "len" = none) (hN : X.N[i]? = some x := by rfl) (hv : Vis X.env.scope x := by first | exact Or.inl rfl | exact Or.inr (Or.inl rfl) | exact Or.inr (Or.inr rfl)) (hd : (x == ("__debug__" : Str)) = false := by decide)
    (hcd : (x == ("__classdict__" : Str)) = false := by decide) (hs : starEach [.Name x p] X.env = (false, eval (.Name x p) X.env) :: starEach [] X.env := by rfl) (hpl : (backTo pos (starEach [] X.env)).any (·.1) = false := by rfl) :
    PE X (.Call (.Name "len" q) [.Name x p] [] pos) (tE X.K (ownLen i)) := pe_le (pe_callB call_len_seq hg hm PySem.boot_len (pa_cons (pe_var hN hv hd hcd) pa_nil hs) (by decide) (by decide) hs hpl) fun σ H Q ⟨Z, Hf, env, d, R, hf, k⟩ => by
  unfold ownLen at hf
  split at hf
  · rename_i l hl
    cases hf
    obtain ⟨w, hs, p, vs, rfl, hz, hfp, hp, ha⟩ := R.sl i _ hl
    refine ⟨.ref p, hs, p, vs, rfl, .inl (SqL.of hp), ?_⟩
    rw [ha.len]
    exact k _ _ _ (.refl R.st.i) (.int _)
  · cases hf
end

structure Known (P : Program) (w : World) (K : PySem.W.Frag) (mg : Str → Option Value) (base : Heap) (k : Nat) (x : Str) (n : Nat) (F : List PyData → Option Sl) : Prop where
  ex : ∃ (f : Addr) (fd : FuncData) (ps : List Str), FnOk P w K mg base CX0 k f fd ps (spD K n F) ∧ mg x = some (.ref f) ∧ PySem.W.keepIn K (.ref f) = true ∧ Binds K fd ps []
abbrev FnP (K : PySem.W.Frag) (x : Str) (st : Stmt) (f : Addr) (fd : FuncData) : Prop := FunD K x x (defArgs st) (defBody st) (defScope st) [] [] f fd
theorem fnOk_mk {P : Program} {w : World} {K : PySem.W.Frag} {mg : Str → Option Value} {base : Heap} {x : Str} {st : Stmt} {f : Addr} {fd : FuncData} {N ps : List Str} {b : FS} {n np k : Nat} (hF : FnP K x st f fd) (S : FnScope N ps (defScope st)) (hn : N.length = n) (hp : ps.length = np)
    (hb : ∀ (cdv : Value) (A : Around) (outer : List Env) (s : Shared) (H : Hp) (E : XK), Room k (A.deeper (envOfC x (defScope st) s.heap.objs.size f cdv)) → PSs (cxOf CX0 P w K mg base N x (defScope st) f cdv A outer s H E).nox (defBody st) (tS K b)) :
    FnOk P w K mg base CX0 (k + 1) f fd ps (spD K np (fnD n b)) := by
  refine hF.ok S (fun vs H Q E h => ?_) (fun cdv A outer s H vs Q E hr h => ?_)
  · rw [h.1, hp]
  · obtain ⟨t, h1, h2⟩ := body_ok (X := (cxOf CX0 P w K mg base N x (defScope st) f cdv A outer s H E).nox) hn (hb cdv A outer s H E hr) h
    exact ⟨t, h1.nox, h2⟩
theorem known_mk {P : Program} {w : World} {K : PySem.W.Frag} {mg : Str → Option Value} {base : Heap} {x : Str} {st : Stmt} {f : Addr} {N ps : List Str} {b : FS} {n np k : Nat} (hF : ∃ fd, FnP K x st f fd) (hm : mg x = some (.ref f)) (S : FnScope N ps (defScope st)) (hn : N.length = n) (hp : ps.length = np)
    (hbd : ∀ (kV doc pm : Value) (an : Option Addr) (cdv ct : Value) (us : List Value), us.length = ps.length → bindArgs (PySem.W.fnOf x x (defArgs st) (defBody st) (defScope st) .none kV doc pm an cdv ct) ⟨us, []⟩ = pure (ps.zip us))
    (hb : ∀ (cdv : Value) (A : Around) (outer : List Env) (s : Shared) (H : Hp) (E : XK), Room k (A.deeper (envOfC x (defScope st) s.heap.objs.size f cdv)) → PSs (cxOf CX0 P w K mg base N x (defScope st) f cdv A outer s H E).nox (defBody st) (tS K b)) :
    Known P w K mg base (k + 1) x np (fnD n b) := by
  obtain ⟨fd, hF⟩ := hF
  exact ⟨f, fd, ps, fnOk_mk hF S hn hp hb, hm, hF.kp, hF.bindsN hbd⟩
section
variable {X : Cx} {j k : Nat} {F : List PyData → Option Sl} {n : Nat} {x : Str} {p pos : Pos} {e : Expr} {es : List Expr} {r : FL}
theorem x_fn (G : Known X.prog X.w X.K X.mg X.base j x n F) (hr : Room k X.A) (ha : PA X (e :: es) (tA X.K r)) (hln : ∀ env ds, r env = some ds → ds.length = es.length + 1) (hg : Gl X x := by rfl) (hjk : j ≤ k := by decide) (hn : n = es.length + 1 := by rfl) (hdb : (x == ("__debug__" : Str)) = false := by decide) (he : starEach (e :: es) X.env = (false, eval e X.env) :: starEach es X.env := by rfl) (hpl : (backTo pos (starEach es X.env)).any (·.1) = false := by rfl) :
    PE X (.Call (.Name x p) (e :: es) [] pos) (tE X.K (eCallF F r)) := by
  subst hn
  obtain ⟨f, fd, ps, h1, h2, h3, h4⟩ := G.ex
  exact x_call h1 (hr.mono hjk) hg h2 h3 h4 ha hln hdb he hpl
theorem l_fn (G : Known X.prog X.w X.K X.mg X.base j x n F) (hr : Room k X.A) (ha : PA X (e :: es) (tA X.K r)) (hln : ∀ env ds, r env = some ds → ds.length = es.length + 1) (hg : Gl X x := by rfl) (hjk : j ≤ k := by decide) (hn : n = es.length + 1 := by rfl) (hdb : (x == ("__debug__" : Str)) = false := by decide) (he : starEach (e :: es) X.env = (false, eval e X.env) :: starEach es X.env := by rfl) (hpl : (backTo pos (starEach es X.env)).any (·.1) = false := by rfl) :
    PE X (.Call (.Name x p) (e :: es) [] pos) (tL X.K (lCallF F r)) := by
  subst hn
  obtain ⟨f, fd, ps, h1, h2, h3, h4⟩ := G.ex
  exact l_call h1 (hr.mono hjk) hg h2 h3 h4 ha hln hdb he hpl
end
theorem dp_ints {K : PySem.W.Frag} {H : Hp} : ∀ ns : List Int, DpAll K H (ns.map V.int) (ns.map PyData.int)
  | [] => .nil
  | n :: ns => .cons (.int n) (dp_ints ns)
/-- the law's promise at its script -/
theorem law_sp {K : PySem.W.Frag} {F : List PyData → Option Sl} {H : Hp} {a : Addr} {ns : List Int} {E : XK} (hS : SqL K H a (ns.map V.int)) (hF : F [.list (ns.map .int)] = some (.val (.bool true))) : spD K 1 F [.ref a] H (fun v _ => v = .bl true) E :=
  ⟨rfl, H, _, _, Same.refl _, .cons (.lst hS (dp_ints ns)) .nil, hF, fun v H' Hf' _ d => d.bl_eq⟩
end Fi

namespace Fi
open PySem PySem.Spec PyProof.Rows L2

def rCatD (K : PySem.W.Frag) : R2 := fun x y H Q => ∃ a b xs ys, x = .ref a ∧ y = .ref b ∧ SqL K H a xs ∧ SqL K H b ys ∧ xs.length + ys.length ≤ sizeLine ∧ ∀ p, H p = none → Q (.ref p) (upd H p (.lst (xs ++ ys)))
theorem op_catL {X : Cx} : OpR X (binaryOp .Add) (rCatD X.K) := by
  intro pins s σ H x y v u Q I rx ry h
  obtain ⟨l, b, xs, zs, rfl, rfl, hH, hB, hz, q⟩ := h
  cases rx
  cases ry
  obtain ⟨its, r, ⟨⟨cls, dd, data, sl⟩, n, ho, hc, _, hd⟩, _⟩ := I.list hH
  obtain ⟨its2, r2, ⟨⟨cls2, dd2, data2, sl2⟩, n2, ho2, hc2, _, hd2⟩, _⟩ := I.list hB
  simp only at hc hd hc2 hd2
  subst hc hd hc2 hd2
  have hl := r.length
  have hl2 := r2.length
  have e : its.toArray ++ its2.toArray = (its ++ its2).toArray := by simp
  refine concat_meets ⟨_, ho, rfl⟩ ⟨_, ho2, rfl⟩ noFill_list_add seq_list_add PySem.F.slot_list_add PySem.F.entry_list_add (PySem.F.args_list_add_2 _ _) (list_addW l b its.toArray its2.toArray n n2 dd dd2 sl sl2 (by rw [List.size_toArray, List.size_toArray]; omega)) ⟨ho, ho2, ?_⟩
  rw [e]
  exact ⟨.ref _, _, I.lnew (t' := s.toks) (r.append r2) (by rw [List.length_append]; omega), rfl, q _ I.fresh⟩
def lCat (f g : FE) : FL := fun env => (f env).bind fun x => (g env).bind fun y => match x, y with
  | .list a, .list b => if a.length + b.length ≤ 100000 then some (a ++ b) else none
  | _, _ => none
section
variable {X : Cx} {a b e : Expr} {f g : FE} {pos : Pos}
theorem l_cat (ha : PE X a (tE X.K f)) (hb : PE X b (tE X.K g)) : PE X (.BinOp a .Add b pos) (tL X.K (lCat f g)) := pe_le (pe_op op_catL ha hb) fun σ H Q ⟨Z, Hf, env, d, R, hf, k⟩ => by
  obtain ⟨x, hx, hf⟩ := Option_bind_some hf
  obtain ⟨y, hy, hf⟩ := Option_bind_some hf
  split at hf
  · rename_i l1 l2
    split at hf
    · rename_i hle
      cases hf
      refine ⟨Z, Hf, env, _, R, hx, fun v H1 Hf1 s1 d1 => ⟨Z, Hf1, env, _, R.step s1, hy, fun u H2 Hf2 s2 d2 => ?_⟩⟩
      obtain ⟨p, xs, rfl, hp, hd1⟩ := (Dp_up s2.f d1).lst_of
      obtain ⟨q, ys, rfl, hq, hd2⟩ := d2.lst_of
      have s12 := s1.trans s2
      refine ⟨p, q, xs, ys, rfl, rfl, s2.i.seq hp, s2.i.seq hq, size_le (by rw [hd1.len, hd2.len]; exact hle), fun r hr => ?_⟩
      exact k r _ _ _ (s12.trans (Stp.hid s12.i hr)) (s12.h.free hr) (s12.i.free hr) upd_same (hd1.app hd2)
    · cases hf
  · cases hf

def tyD : PyData → String
  | .none => "NoneType"
  | .bool _ => "bool"
  | .int _ => "int"
  | .str _ => "str"
  | .list _ => "list"
  | .tuple _ => "tuple"
  | _ => "dict"
theorem tyX_of {K : PySem.W.Frag} {H : Hp} {v : V} {d : PyData} (h : Dp K H v d) : TyX K H v (.type (tyD d)) := by
  cases h with
  | non => exact .base .non
  | bl b => exact .base (.bl b)
  | int i => exact .base (.int i)
  | str x => exact .base (.str x)
  | lst hs _ =>
    rcases hs with h | ⟨o, its, n, hk, hc, _⟩
    · rcases h with h | ⟨o, h⟩
      · exact .base (.lst h)
      · exact .base (.frz h)
    · exact .kList hk hc
  | tup hs _ =>
    rcases hs with h | ⟨o, its, n, hk, hc, _⟩
    · rcases h with h | ⟨o, h⟩
      · exact .base (.tup h)
      · exact .fTuple h
    · exact .kTuple hk hc
def eIsI (T : String) (f : FE) : FE := fun env => (f env).bind fun d => (kitB (tyD d) T).map .bool
theorem x_isI {T : String} {x : Str} {p p2 : Pos} (hv : bootBuiltins x = some (.type T)) (hg : Gl X "isinstance") (hm : X.mg "isinstance" = none) (hg2 : Gl X x) (hm2 : X.mg x = none) (he : PE X e (tE X.K f)) (hn2 : x ≠ "__name__" := by decide) (hdb2 : (x == ("__debug__" : Str)) = false := by decide)
    (hs : starEach [e, .Name x p2] X.env = (false, eval e X.env) :: starEach [.Name x p2] X.env := by rfl) (hs2 : starEach [.Name x p2] X.env = (false, eval (.Name x p2) X.env) :: starEach [] X.env := by rfl) (hpl : (backTo pos (starEach [.Name x p2] X.env)).any (·.1) = false := by rfl) :
    PE X (.Call (.Name "isinstance" p) [e, .Name x p2] [] pos) (tE X.K (eIsI T f)) := by
  have ht : PE X (.Name x p2) (tC (.ty T)) := ⟨fun _ _ _ H _ I h => ld_blt I hg2 hm2 hv ⟨.ty T, H, I, rfl, h⟩ hn2 hdb2⟩
  refine pe_le (pe_callB call_isi hg hm boot_isinstance (pa_cons he (pa_cons ht pa_nil hs2) hs) (by decide) (by decide) hs hpl) fun σ H Q ⟨Z, Hf, env, d, R, hf, k⟩ => ?_
  obtain ⟨x, hx, hf⟩ := Option_bind_some hf
  obtain ⟨b, hb, rfl⟩ := Option.map_eq_some_iff.mp hf
  exact ⟨Z, Hf, env, x, R, hx, fun v H1 Hf1 s1 d1 => ⟨v, .ty T, .type (tyD x), .type T, b, rfl, .ty T, tyX_of (Dp_up s1.i d1), kit_ty hb, k _ H1 Hf1 s1 (.bl b)⟩⟩

def fIn : PyData → PyData → Option PyData
  | d, .list ds => if SeqAt.shaped d = true ∧ SeqAt.shaped (.list ds) = true then some (.bool (ds.any fun z => PyData.eqv z d)) else none
  | _, _ => none
def fNotIn : PyData → PyData → Option PyData
  | d, .list ds => if SeqAt.shaped d = true ∧ SeqAt.shaped (.list ds) = true then some (.bool (!ds.any fun z => PyData.eqv z d)) else none
  | _, _ => none
theorem od_in (hu : X.A.units + 65 < cLine) : OpD X (compareOp .In) fIn := by
  intro pins s σ H x y v u Q I rx ry ⟨Hf, dx, dy, dz, hi, hx, hy, hf, k⟩
  unfold fIn at hf
  split at hf
  · split at hf
    · rename_i hc
      cases hf
      exact op_inD hu pins s σ H _ _ v u Q I rx ry ⟨_, _, Dp_up hi hx, Dp_up hi hy, hc.1, hc.2, k _ _ _ (.refl hi) (.bl _)⟩
    · cases hf
  · cases hf
theorem od_notIn (hu : X.A.units + 65 < cLine) : OpD X (compareOp .NotIn) fNotIn := by
  intro pins s σ H x y v u Q I rx ry ⟨Hf, dx, dy, dz, hi, hx, hy, hf, k⟩
  unfold fNotIn at hf
  split at hf
  · split at hf
    · rename_i hc
      cases hf
      exact op_notInD hu pins s σ H _ _ v u Q I rx ry ⟨_, _, Dp_up hi hx, Dp_up hi hy, hc.1, hc.2, k _ _ _ (.refl hi) (.bl _)⟩
    · cases hf
  · cases hf
end
end Fi

namespace Fi
open PySem PySem.Spec PyProof.Rows L2
section
variable {K : PySem.W.Frag} {Z : Hp × Hp} {Hf H : Hp} {env : En} {σ : L2.St} {D : Addr} {o : HO}
def NoOwn (env : En) (σ : L2.St) (D : Addr) : Prop := ∀ (i : Nat) (x : Sl), env[i]? = some (some x) → x.hid = true → σ[i]? ≠ some (some (.ref D))
theorem Rel.noOwn (R : Rel K Z Hf H env σ) (h : H D = none) : NoOwn env σ D := fun i x e hx q => by
  cases x with
  | val d => cases hx
  | own l =>
    obtain ⟨v, h1, p, vs, rfl, _, _, h2, _⟩ := R.sl i _ e
    rw [q] at h1
    cases h1
    rw [h] at h2
    cases h2
  | dct l =>
    obtain ⟨v, h1, p, vs, rfl, _, _, h2, _⟩ := R.sl i _ e
    rw [q] at h1
    cases h1
    rw [h] at h2
    cases h2
theorem Rel.lock (R : Rel K Z Hf H env σ) (hf : Hf D = none) (h : H D = some o) (hn : NoOwn env σ D) : Rel K (Z.1, upd Z.2 D o) Hf H env σ := by
  refine ⟨⟨R.st.f, R.st.i, fun b x e => ?_, fun a x e q => ?_⟩, R.len, fun i s e => ?_, R.ds⟩
  · by_cases hb : b = D
    · subst hb
      have e : upd Z.2 b o b = some x := e
      rw [upd_same] at e
      rw [h, e]
    · have e : upd Z.2 D o b = some x := e
      rw [upd_ne hb] at e
      exact R.st.h b x e
  · by_cases hb : a = D
    · subst hb
      exact hf
    · have e : upd Z.2 D o a = some x := e
      rw [upd_ne hb] at e
      exact R.st.n a x e q
  · obtain ⟨v, h1, h2⟩ := R.sl i s e
    refine ⟨v, h1, ?_⟩
    cases s with
    | val d => exact h2
    | own l =>
      obtain ⟨p, vs, rfl, a, b, c, d⟩ := h2
      refine ⟨p, vs, rfl, ?_, b, c, d⟩
      have hp : p ≠ D := fun q => hn i (.own l) e rfl (by rw [h1, q])
      show upd Z.2 D o p = none
      rw [upd_ne hp]
      exact a
    | dct l =>
      obtain ⟨p, vs, rfl, a, b, c, d⟩ := h2
      refine ⟨p, vs, rfl, ?_, b, c, d⟩
      have hp : p ≠ D := fun q => hn i (.dct l) e rfl (by rw [h1, q])
      show upd Z.2 D o p = none
      rw [upd_ne hp]
      exact a
theorem Rel.unlock (R : Rel K (Z.1, upd Z.2 D o) Hf H env σ) (hz : Z.2 D = none) : Rel K Z Hf H env σ ∧ NoOwn env σ D := by
  refine ⟨⟨⟨R.st.f, R.st.i, fun b x e => ?_, fun a x e q => ?_⟩, R.len, fun i s e => ?_, R.ds⟩, fun i x e hx q => ?_⟩
  · exact R.st.h b x (by show upd Z.2 D o b = some x; rw [upd_ne (ne_of_none e hz)]; exact e)
  · exact R.st.n a x (by show upd Z.2 D o a = some x; rw [upd_ne (ne_of_none e hz)]; exact e) q
  · obtain ⟨v, h1, h2⟩ := R.sl i s e
    refine ⟨v, h1, ?_⟩
    cases s with
    | val d => exact h2
    | own l =>
      obtain ⟨p, vs, rfl, a, b, c, d⟩ := h2
      refine ⟨p, vs, rfl, ?_, b, c, d⟩
      have a : upd Z.2 D o p = none := a
      by_cases hp : p = D
      · rw [hp] 
        exact hz
      · rw [upd_ne hp] at a
        exact a
    | dct l =>
      obtain ⟨p, vs, rfl, a, b, c, d⟩ := h2
      refine ⟨p, vs, rfl, ?_, b, c, d⟩
      have a : upd Z.2 D o p = none := a
      by_cases hp : p = D
      · rw [hp] 
        exact hz
      · rw [upd_ne hp] at a
        exact a
  · cases x with
    | val d => cases hx
    | own l =>
      obtain ⟨v, h1, p, vs, rfl, a, _⟩ := R.sl i _ e
      rw [q] at h1
      cases h1
      have a : upd Z.2 D o D = none := a
      rw [upd_same] at a
      cases a
    | dct l =>
      obtain ⟨v, h1, p, vs, rfl, a, _⟩ := R.sl i _ e
      rw [q] at h1
      cases h1
      have a : upd Z.2 D o D = none := a
      rw [upd_same] at a
      cases a
theorem Rel.atD (R : Rel K Z Hf H env σ) (hf : Hf D = none) (hz : Z.2 D = none) (hn : NoOwn env σ D) (o : HO) : Rel K Z Hf (upd H D o) env σ := by
  refine ⟨⟨R.st.f, fun b x e => ?_, fun b x e => ?_, R.st.n⟩, R.len, fun i s e => ?_, R.ds⟩
  · rw [upd_ne (ne_of_none e hf)]
    exact R.st.i b x e
  · rw [upd_ne (ne_of_none e hz)]
    exact R.st.h b x e
  · obtain ⟨v, h1, h2⟩ := R.sl i s e
    refine ⟨v, h1, ?_⟩
    cases s with
    | val d => exact h2
    | own l =>
      obtain ⟨p, vs, rfl, a, b, c, d⟩ := h2
      have hp : p ≠ D := fun q => hn i (.own l) e rfl (by rw [h1, q])
      exact ⟨p, vs, rfl, a, b, by rw [upd_ne hp]; exact c, d⟩
    | dct l =>
      obtain ⟨p, vs, rfl, a, b, c, d⟩ := h2
      have hp : p ≠ D := fun q => hn i (.dct l) e rfl (by rw [h1, q])
      exact ⟨p, vs, rfl, a, b, by rw [upd_ne hp]; exact c, d⟩
end
theorem noOwn_wipe {env : En} {σ : L2.St} {D : Addr} (h : NoOwn env σ D) : ∀ vs : List Nat, NoOwn (wipeE env vs) (L2.wipe σ vs) D
  | [] => h
  | v :: vs => fun i x e hx q => by
    have ih := noOwn_wipe h vs
    unfold wipeE at e
    rcases set_cases e with ⟨_, z⟩ | ⟨hn, z⟩
    · cases z
    · unfold L2.wipe at q
      rw [List.getElem?_set_ne hn] at q
      exact ih i x z hx q
def lcD2 (g : PyData → En → Option En) (fj : FL) (u : PyData → En → Option En) (f : FE) (vs1 : List Nat) (env : En) : List PyData → Option (List PyData)
  | [] => some []
  | d :: ds => (g d env).bind fun e1 => (fj e1).bind fun es => (lcD u pYes f (wipeE e1 vs1) es).bind fun xs => (lcD2 g fj u f vs1 env ds).bind fun ys => some (xs ++ ys)
def lLc2 (fi : FL) (g : PyData → En → Option En) (fj : FL) (u : PyData → En → Option En) (f : FE) (vs vs1 : List Nat) : FL := fun env => (fi env).bind fun ds => (lcD2 g fj u f vs1 (wipeE env vs) ds).bind fun out => if out.length < 100000 then some out else none
theorem tLc2_of {K : PySem.W.Frag} {fi fj : FL} {g u : PyData → En → Option En} {f : FE} {vs vs1 sl sm : List Nat} (hsl : ∀ i ∈ sl, i ∈ vs) (hsm : ∀ i ∈ sm, i ∈ vs1) {σ : L2.St} {H : Hp} {Q : VK} (w : tL K (lLc2 fi g fj u f vs vs1) σ H Q) :
    tLc2 (tI K fi) (tG K false sl g) (tT K pYes) (tI K fj) (tG K false sm u) (tT K pYes) (tE K f) vs vs1 σ H Q := by
  obtain ⟨Z, Hf, env, out, R, hf, k⟩ := w
  obtain ⟨ds, hds, hf⟩ := Option_bind_some hf
  obtain ⟨out2, hout, hf⟩ := Option_bind_some hf
  split at hf
  · rename_i hlen
    cases hf
    refine ⟨Z, Hf, env, ds, R, hds, fun J H1 Hf1 s1 w D hD => ?_⟩
    have hD0 : H D = none := s1.h.free hD
    have hDf : Hf1 D = none := s1.i.free hD
    have hid := Stp.hid (o := .lst []) s1.i hD
    let Pv : Nat → Hp → Prop := fun i H' => ∃ (Hf' : Hp) (acc : List V) (da rs : List PyData), Stp Hf1 H1 Hf' H' ∧ Hf' D = none ∧ H' D = some (.lst acc) ∧ DpAll K Hf' acc da ∧ lcD2 g fj u f vs1 (wipeE env vs) (ds.drop i) = some rs ∧ out = da ++ rs
    refine ⟨fun i m H => m = ds.length - i ∧ i ≤ ds.length ∧ Pv i H, ⟨ds.length, by simp, Nat.zero_le _, Hf1, [], [], out, hid, hDf, upd_same, .nil, hout, rfl⟩, ?_⟩
    rintro i m H' ⟨rfl, hi, Hf', acc, da, rs, st, h1, h2, h3, h4, h5⟩
    have hG : Same Hf1 H' := st.f.trans st.i
    by_cases hlt : i < ds.length
    · refine .inr ⟨w.goes i H' hlt hG, Pv (i + 1), fun H2 p' => ⟨ds.length - (i + 1), by omega, rfl, hlt, p'⟩, fun x H2 y0 => ?_⟩
      have y := w.yields i H' x H2 hlt hG y0
      obtain ⟨d, hd, hdr⟩ := drop_get hlt
      rw [hdr] at h4
      obtain ⟨e1, hg1, h4⟩ := Option_bind_some h4
      obtain ⟨es, hes, h4⟩ := Option_bind_some h4
      obtain ⟨xs, hxs, h4⟩ := Option_bind_some h4
      obtain ⟨ys, hys, h4⟩ := Option_bind_some h4
      cases h4
      have R1 : Rel K Z Hf' H' (wipeE env vs) (L2.wipe σ vs) := ((R.step s1).wipe vs).step st
      obtain ⟨Hf2, st2, hx⟩ := yd_item y hd R1 st.f
      have hZ : Z.2 D = none := (R.step s1).st.h.free hD
      have no0 : NoOwn (wipeE env vs) (L2.wipe σ vs) D := ((R.step s1).wipe vs).noOwn hD
      have a1 : Hf2 D = none := st2.n D _ h2 h1
      have a2 : H2 D = some (.lst acc) := st2.h D _ h2
      refine ⟨(Z.1, upd Z.2 D (.lst acc)), Hf2, wipeE env vs, d, e1, (R1.step st2).lock a1 a2 no0, hx, hg1, fun σ3 H3 Hf3 s3 R3' pt ln mm => ?_⟩
      obtain ⟨rfl, rfl⟩ := mm rfl
      obtain ⟨R3, no3⟩ := Rel.unlock (Z := Z) R3' hZ
      have hw : L2.wipe σ3 vs = L2.wipe σ vs := by
        rw [← wipe_wipe σ vs]
        exact wipe_same (ln.trans rfl) fun i hi => pt i fun q => hi (hsl i q)
      refine ⟨hw, ?_⟩
      have st3 := st.trans st2
      have a3 := DpAll_up st2.f h3
      refine ⟨Z, Hf3, e1, true, R3, rfl, fun H4 Hf4 s4 => iteT ?_⟩
      have b1 : Hf4 D = none := s4.n D _ a2 a1
      have b2 : H4 D = some (.lst acc) := s4.h D _ a2
      have b3 := DpAll_up s4.f a3
      have st4 := st3.trans s4
      have R4 := R3.step s4
      refine ⟨Z, Hf4, e1, es, R4, hes, fun J1 H5 Hf5 s5 w1 => ?_⟩
      have c1 : Hf5 D = none := s5.n D _ b2 b1
      have c2 : H5 D = some (.lst acc) := s5.h D _ b2
      have c3 := DpAll_up s5.f b3
      have st5 := st4.trans s5
      have R5 := (R4.step s5).wipe vs1
      let Pw : Nat → Hp → Prop := fun j H' => ∃ (Hf' : Hp) (ac : List V) (dc qs : List PyData), Stp Hf1 H1 Hf' H' ∧ Same Hf5 Hf' ∧ Rel K Z Hf' H' (wipeE e1 vs1) (L2.wipe σ3 vs1) ∧ Hf' D = none ∧ H' D = some (.lst ac) ∧ DpAll K Hf' ac dc ∧ lcD u pYes f (wipeE e1 vs1) (es.drop j) = some qs ∧ out = dc ++ (qs ++ ys)
      refine ⟨fun j m H => m = es.length - j ∧ j ≤ es.length ∧ Pw j H, ⟨es.length, by simp, Nat.zero_le _, Hf5, acc, da, xs, st5, Same.refl _, R5, c1, c2, c3, hxs, by rw [h5]⟩, ?_⟩
      rintro j m H6 ⟨rfl, hj, Hf6, ac, dc, qs, st6, sm6, R6, d1, d2, d3, d4, d5⟩
      have hG6 : Same Hf5 H6 := sm6.trans st6.i
      by_cases hjl : j < es.length
      · refine .inr ⟨w1.goes j H6 hjl hG6, Pw (j + 1), fun H2 p' => ⟨es.length - (j + 1), by omega, rfl, hjl, p'⟩, fun x H7 y0 => ?_⟩
        have y1 := w1.yields j H6 x H7 hjl hG6 y0
        obtain ⟨d', hd', hdr'⟩ := drop_get hjl
        rw [hdr'] at d4
        obtain ⟨e2, hu1, d4⟩ := Option_bind_some d4
        have d4' : ((f e2).bind fun x => (lcD u pYes f (wipeE e1 vs1) (es.drop (j + 1))).bind fun xs => some (x :: xs)) = some qs := d4
        obtain ⟨x', hx', d4'⟩ := Option_bind_some d4'
        obtain ⟨zs, hzs, d4'⟩ := Option_bind_some d4'
        cases d4'
        obtain ⟨Hf7, st7, hx7⟩ := yd_item y1 hd' R6 sm6
        refine ⟨Z, Hf7, wipeE e1 vs1, d', e2, R6.step st7, hx7, hu1, fun σ8 H8 Hf8 s8 R8 pt8 ln8 mm8 => ?_⟩
        obtain ⟨rfl, rfl⟩ := mm8 rfl
        have hw8 : L2.wipe σ8 vs1 = L2.wipe σ3 vs1 := by
          rw [← wipe_wipe σ3 vs1]
          exact wipe_same (ln8.trans rfl) fun i hi => pt8 i fun q => hi (hsm i q)
        refine ⟨hw8, ?_⟩
        have e1' : Hf8 D = none := st7.n D _ d2 d1
        have e2' : H8 D = some (.lst ac) := st7.h D _ d2
        refine ⟨Z, Hf8, e2, true, R8, rfl, fun H9 Hf9 s9 => iteT ?_⟩
        refine ⟨Z, Hf9, e2, x', R8.step s9, hx', fun v HA HfA sA dA => ?_⟩
        have st89 := s9.trans sA
        have g1 : HfA D = none := st89.n D _ e2' e1'
        have g2 : HA D = some (.lst ac) := st89.h D _ e2'
        have stA := (st6.trans st7).trans st89
        have upA : Same Hf6 HfA := st7.f.trans st89.f
        have ha := DpAll_up upA d3
        have hdl : dc.length < 100000 := by
          have := congrArg List.length d5
          simp only [List.length_append] at this
          omega
        refine ⟨ac, g2, Nat.lt_of_lt_of_le (by rw [ha.len]; omega) (by decide : 100000 ≤ sizeLine), HfA, ac ++ [v], dc ++ [x'], zs, ⟨stA.f, fun b o e => ?_, fun b o e => ?_, stA.n⟩, sm6.trans upA, ?_, g1, upd_same, ha.app (.cons dA .nil), hzs, by rw [d5]; simp⟩
        · rw [upd_ne (ne_of_none e g1)]
          exact stA.i b o e
        · rw [upd_ne (ne_of_none e hD)]
          exact stA.h b o e
        · exact ((R6.step st7).step st89).atD g1 hZ (noOwn_wipe no3 vs1) _
      · have e : j = es.length := by omega
        subst e
        rw [List.drop_of_length_le (Nat.le_refl _)] at d4
        cases d4
        exact .inl ⟨w1.stops H6 hG6, Hf6, ac, dc, ys, st6, d1, d2, d3, hys, by simpa using d5⟩
    · have e : i = ds.length := by omega
      subst e
      rw [List.drop_of_length_le (Nat.le_refl _)] at h4
      cases h4
      rw [List.append_nil] at h5
      subst h5
      exact .inl ⟨w.stops H' hG, k D acc H' Hf' (s1.trans st) hD0 h1 h2 h3⟩
  · cases hf
section
variable {X : Cx} {elt tg iter tg1 iter1 : Expr} {scope : Scope} {own : List (Str × Nat)} {pos : Pos} {fi fj : FL} {g u : PyData → En → Option En} {f : FE} {sl sm vs vs1 : List Nat}
theorem l_lc2 (hc : X.calm = true) (hN : X.N.Nodup) (hi : PI X tg iter (tI X.K fi)) (ok : BlkOk X.N X.env.scope scope own)
    (hg : ∀ (s : Shared) (H : Hp) (C : Addr) (cl : List (Str × Addr)) (fp : List Addr), PG (X.blk s H scope (compEnvC scope cl C X.env) fp) tg (tG X.K false sl g))
    (hi1 : ∀ (s : Shared) (H : Hp) (C : Addr) (cl : List (Str × Addr)) (fp : List Addr), PI (X.blk s H scope (compEnvC scope cl C X.env) fp) tg1 iter1 (tI X.K fj))
    (hg1 : ∀ (s : Shared) (H : Hp) (C : Addr) (cl : List (Str × Addr)) (fp : List Addr), PG (X.blk s H scope (compEnvC scope cl C X.env) fp) tg1 (tG X.K false sm u))
    (he : ∀ (s : Shared) (H : Hp) (C : Addr) (cl : List (Str × Addr)) (fp : List Addr), PE (X.blk s H scope (compEnvC scope cl C X.env) fp) elt (tE X.K f)) (hvs : own.map (·.2) = vs := by rfl) (hv : ∀ i ∈ vs1, i ∈ vs := by decide) (hsl : ∀ i ∈ sl, i ∈ vs := by decide) (hsm : ∀ i ∈ sm, i ∈ vs1 := by decide)
    (hs : ∀ x, foldedSetIterable iter X.env x = pure x := by intro _; rfl) (hs1 : ∀ env x, foldedSetIterable iter1 env x = pure x := by intro _ _; rfl) :
    PE X (.ListComp elt [⟨tg, iter, [], 0⟩, ⟨tg1, iter1, [], 0⟩] scope pos) (tL X.K (lLc2 fi g fj u f vs vs1)) := by
  subst hvs
  exact pe_le (pe_lc2 hc hN hi ok hv hg (fun _ _ _ _ _ => q_nil) hi1 hg1 (fun _ _ _ _ _ => q_nil) he hs hs1) fun _ _ _ w => tLc2_of hsl hsm w
theorem s_setLc2 (i : Nat) {y : Str} {py spos : Pos} (hc : X.calm = true) (hN : X.N.Nodup) (hsw : swapsWith (.ListComp elt [⟨tg, iter, [], 0⟩, ⟨tg1, iter1, [], 0⟩] scope pos) (some (.Name y py)) spos.line X.env = pure true) (hi : PI X tg iter (tI X.K fi)) (ok : BlkOk X.N X.env.scope scope own)
    (hg : ∀ (s : Shared) (H : Hp) (C : Addr) (cl : List (Str × Addr)) (fp : List Addr), PG (X.blk s H scope (compEnvC scope cl C X.env) fp) tg (tG X.K false sl g))
    (hi1 : ∀ (s : Shared) (H : Hp) (C : Addr) (cl : List (Str × Addr)) (fp : List Addr), PI (X.blk s H scope (compEnvC scope cl C X.env) fp) tg1 iter1 (tI X.K fj))
    (hg1 : ∀ (s : Shared) (H : Hp) (C : Addr) (cl : List (Str × Addr)) (fp : List Addr), PG (X.blk s H scope (compEnvC scope cl C X.env) fp) tg1 (tG X.K false sm u))
    (he : ∀ (s : Shared) (H : Hp) (C : Addr) (cl : List (Str × Addr)) (fp : List Addr), PE (X.blk s H scope (compEnvC scope cl C X.env) fp) elt (tE X.K f)) (hy : X.N[i]? = some y := by rfl) (hyl : X.env.scope.names.lookup y = some .local := by rfl) (hvs : own.map (·.2) = vs := by rfl) (hv : ∀ i ∈ vs1, i ∈ vs := by decide) (hsl : ∀ i ∈ sl, i ∈ vs := by decide) (hsm : ∀ i ∈ sm, i ∈ vs1 := by decide)
    (hs : ∀ x, foldedSetIterable iter X.env x = pure x := by intro _; rfl) (hs1 : ∀ env x, foldedSetIterable iter1 env x = pure x := by intro _ _; rfl) :
    PS X (.Assign [.Name y py] (.ListComp elt [⟨tg, iter, [], 0⟩, ⟨tg1, iter1, [], 0⟩] scope pos) spos) (tS X.K (sOwn i (lLc2 fi g fj u f vs vs1))) := by
  subst hvs
  exact ps_le (ps_setLc2 hc hN hy hyl hsw hi ok hv hg (fun _ _ _ _ _ => q_nil) hi1 hg1 (fun _ _ _ _ _ => q_nil) he hs hs1) fun D σ H ⟨Z, Hf, env, o, R, hf, k⟩ => by
    obtain ⟨d, hd, rfl⟩ := Option.map_eq_some_iff.mp hf
    exact tLc2_of hsl hsm ⟨Z, Hf, env, d, R, hd, fun p vs H1 Hf1 s1 h0 h1 h2 d1 => k _ H1 Hf1 s1.f (R.setOwn s1 i h0 h1 h2 d1)⟩
end

def sortI (l : List Int) : List Int := l.mergeSort (fun a b => decide (a ≤ b))
theorem sortI_eq {l m : List Int} (h : m.Perm l) (hs : m.Pairwise (· ≤ ·)) : sortI l = m := by
  have h1 : (sortI l).Perm m := (List.mergeSort_perm l _).trans h.symm
  have h2 : (sortI l).Pairwise (· ≤ ·) := by
    have := List.pairwise_mergeSort (le := fun a b : Int => decide (a ≤ b)) (fun a b c h1 h2 => by simp at *; omega) (fun a b => by simp; omega) l
    exact this.imp (by simp)
  exact h1.eq_of_pairwise (fun a b _ _ h3 h4 => by omega) h2 hs
def lSorted (f : FE) : FL := fun env => (f env).bind fun x => match x with
  | .list l => (getInts l).bind fun ns => some ((sortI ns).map .int)
  | _ => none
section
variable {X : Cx} {a b e : Expr} {f g : FE} {pos : Pos}
theorem l_sorted {p : Pos} (hg : Gl X "sorted") (hm : X.mg "sorted" = none) (he : PE X e (tE X.K f)) (hs : starEach [e] X.env = (false, eval e X.env) :: starEach [] X.env := by rfl) (hpl : (backTo pos (starEach [] X.env)).any (·.1) = false := by rfl) :
    PE X (.Call (.Name "sorted" p) [e] [] pos) (tL X.K (lSorted f)) := pe_le (pe_callB cr_sortedI hg hm boot_sorted (pa_cons he pa_nil hs) (by decide) (by decide) hs hpl) fun σ H Q ⟨Z, Hf, env, d, R, hf, k⟩ => by
  obtain ⟨x, hx, hf⟩ := Option_bind_some hf
  cases x with
  | list l =>
    obtain ⟨ns, hns, hf⟩ := Option_bind_some hf
    cases hf
    refine ⟨Z, Hf, env, _, R, hx, fun v H1 Hf1 s1 d1 => ?_⟩
    obtain ⟨p, ys, rfl, hp, ha⟩ := d1.lst_of
    rw [getInts_eq hns] at ha
    rw [ha.ints] at hp
    refine ⟨p, ns, rfl, s1.i.seq hp, fun ns' q h1 h2 hq => ?_⟩
    have e := sortI_eq h1 h2
    refine k q _ _ _ (s1.trans (Stp.hid s1.i hq)) (s1.h.free hq) (s1.i.free hq) upd_same ?_
    rw [e]
    exact dp_ints ns'
  | _ => cases hf
def lRep (l : FL) (g : FE) : FL := fun env => (l env).bind fun x => (g env).bind fun y => match y with
  | .int k => if x.length ≤ 100 ∧ k ≤ 1000 ∧ -1000 ≤ k then some (List.replicate k.toNat x).flatten else none
  | _ => none
theorem DpAll_rep {K : PySem.W.Frag} {H : Hp} {vs : List V} {ds : List PyData} (h : DpAll K H vs ds) : ∀ n : Nat, DpAll K H (List.replicate n vs).flatten (List.replicate n ds).flatten
  | 0 => .nil
  | n + 1 => by
    rw [List.replicate_succ, List.replicate_succ, List.flatten_cons, List.flatten_cons]
    exact h.app (DpAll_rep h n)
theorem l_rep {l : FL} (ha : PE X a (tL X.K l)) (hb : PE X b (tE X.K g)) : PE X (.BinOp a .Mult b pos) (tL X.K (lRep l g)) := pe_le (pe_op op_rep ha hb) fun σ H Q ⟨Z, Hf, env, d, R, hf, k⟩ => by
  obtain ⟨x, hx, hf⟩ := Option_bind_some hf
  obtain ⟨y, hy, hf⟩ := Option_bind_some hf
  split at hf
  · rename_i n
    split at hf
    · rename_i hc
      cases hf
      refine ⟨Z, Hf, env, _, R, hx, fun p vs H1 Hf1 s1 h0 h1 h2 d1 => ⟨Z, Hf1, env, _, R.step s1, hy, fun u H2 Hf2 s2 d2 => ?_⟩⟩
      cases d2.int_eq
      have s12 := s1.trans s2
      have hle : vs.length * n.toNat ≤ 100 * 1000 := Nat.mul_le_mul (by rw [d1.len]; exact hc.1) (by omega)
      refine ⟨p, n, vs, rfl, rfl, s2.h p _ h2, by omega, by omega, size_le (by omega), fun r hr => ?_⟩
      exact k r _ _ _ (s12.trans (Stp.hid s12.i hr)) (s12.h.free hr) (s12.i.free hr) upd_same (DpAll_rep (DpAll_up s2.f d1) _)
    · cases hf
  · cases hf
end
end Fi
namespace Fi
open PySem L2
theorem u65 {k : Nat} {A : Around} (r : Room k A) : A.units + 65 < cLine := by have := r.un; omega
end Fi

namespace Fi
open PySem PySem.Spec PyProof.Rows L2

def ItzK3 (K : PySem.W.Frag) (k1 k2 k3 : Kd) (a b c : Addr) : It :=
  ⟨fun i H => ∃ (xs ys zs : List V) (x y z : V), SqK K k1 H a xs ∧ SqK K k2 H b ys ∧ SqK K k3 H c zs ∧ xs[i]? = some x ∧ ys[i]? = some y ∧ zs[i]? = some z,
    fun i H v H' => ∃ T x y z, v = .ref T ∧ H T = none ∧ H' = upd H T (.tup [x, y, z]) ∧ (∀ xs, SqK K k1 H a xs → xs[i]? = some x) ∧ (∀ ys, SqK K k2 H b ys → ys[i]? = some y) ∧ ∀ zs, SqK K k3 H c zs → zs[i]? = some z,
    fun i H => ∃ xs ys zs : List V, SqK K k1 H a xs ∧ SqK K k2 H b ys ∧ SqK K k3 H c zs ∧ i ≤ xs.length ∧ i ≤ ys.length ∧ i ≤ zs.length ∧ (i = xs.length ∨ i = ys.length ∨ i = zs.length)⟩
theorem itK_ne {k : Kd} {h : Heap} {it a : Addr} {i : Nat} {x : Array Value} (h1 : ItK k h it a i) (p : HasK k h a x) : a ≠ it := fun q => by
  subst q
  cases k with
  | l =>
    obtain ⟨o1, e1, c1, _⟩ := h1
    obtain ⟨o2, e2, c2, _⟩ := p
    rw [e1] at e2
    cases e2
    rw [c1] at c2
    exact absurd c2 (by decide)
  | t =>
    obtain ⟨o1, e1, c1, _⟩ := h1
    obtain ⟨o2, e2, c2, _⟩ := p
    rw [e1] at e2
    cases e2
    rw [c1] at c2
    exact absurd c2 (by decide)
theorem turn_zipK3 {P : Program} {w : World} {K : PySem.W.Frag} {elts : List Expr} {kk : Nat} {tpos : Pos} {k1 k2 k3 : Kd} {a b c z TI TO i1 i2 i3 : Addr} (D : ZipSep3 z TI TO i1 i2 i3 [i1, a] [i2, b] [i3, c]) :
    Turn P w K (.Tuple elts kk tpos) (ItzK3 K k1 k2 k3 a b c) [z, TI, TO, i1, i2, i3] z (fun i h => IsZip h z TI TO .none ∧ IsTupOf3 h TI (.ref i1) (.ref i2) (.ref i3) ∧ (∃ x y u, IsTupOf3 h TO x y u) ∧ ItK k1 h i1 a i ∧ ItK k2 h i2 b i ∧ ItK k3 h i3 c i) where
  mem := by simp
  obj := fun i h st d hc => by
    obtain ⟨hz, hTI, ⟨x, y, u, hTO⟩, h1, h2, h3⟩ := st
    have e' : d = z ∨ d = TI ∨ d = TO ∨ d = i1 ∨ d = i2 ∨ d = i3 := by simpa using hc
    rcases e' with q | q | q | q | q | q
    · rw [q]; exact ⟨_, hz, fun v q => nomatch q⟩
    · rw [q]; exact ⟨_, hTI, fun v q => nomatch q⟩
    · rw [q]; exact ⟨_, hTO, fun v q => nomatch q⟩
    · rw [q]; exact itK_obj h1
    · rw [q]; exact itK_obj h2
    · rw [q]; exact itK_obj h3
  keep := fun i h h' st k => by
    obtain ⟨hz, hTI, ⟨x, y, u, hTO⟩, h1, h2, h3⟩ := st
    exact ⟨k z (by simp) _ hz, k TI (by simp) _ hTI, ⟨x, y, u, k TO (by simp) _ hTO⟩, itK_at h1 fun o q => k i1 (by simp) o q, itK_at h2 fun o q => k i2 (by simp) o q, itK_at h3 fun o q => k i3 (by simp) o q⟩
  item := by
    intro X hP hw hK hc i pins s σ H E I hf st hg
    subst hP hw hK
    obtain ⟨hz, hTI, ⟨x0, y0, z0, hTO⟩, h1, h2, h3⟩ := st
    obtain ⟨xs, ys, zs, x, y, zz, hqx, hqy, hqz, hx, hy, hzz⟩ := hg
    obtain ⟨its, rv, p⟩ := hasK_of I hqx
    obtain ⟨its2, rv2, p2⟩ := hasK_of I hqy
    obtain ⟨its3, rv3, p3⟩ := hasK_of I hqz
    obtain ⟨u, hu, ru⟩ := rv.get hx
    obtain ⟨u2, hu2, ru2⟩ := rv2.get hy
    obtain ⟨u3, hu3, ru3⟩ := rv3.get hzz
    have hzl : z < s.heap.objs.size := Heap.lt_size hz
    have lx : i < its.toArray.size := by
      rw [List.size_toArray]
      exact (List.getElem?_eq_some_iff.mp hu).1
    have ly : i < its2.toArray.size := by
      rw [List.size_toArray]
      exact (List.getElem?_eq_some_iff.mp hu2).1
    have lz : i < its3.toArray.size := by
      rw [List.size_toArray]
      exact (List.getElem?_eq_some_iff.mp hu3).1
    refine wpAny_pyNext_zipD3_item D (drawsK k1 (A := X.A.in1) (I.ok.hd hc) i1 a (itK_ne h1 p) its.toArray) (drawsK k2 (A := X.A.in1) (I.ok.hd hc) i2 b (itK_ne h2 p2) its2.toArray) (drawsK k3 (A := X.A.in1) (I.ok.hd hc) i3 c (itK_ne h3 p3) its3.toArray) hz hTI hTO ⟨h1, p⟩ ⟨h2, p2⟩ ⟨h3, p3⟩ lx ly lz fun x1 x2 x3 h' tk hx1 hx2 hx3 z' TO' h1' h2' h3' hT hsz hk => ?_
    have ex1 : x1 = u := Option.some.inj (hx1.symm.trans (by simpa using hu))
    have ex2 : x2 = u2 := Option.some.inj (hx2.symm.trans (by simpa using hu2))
    have ex3 : x3 = u3 := Option.some.inj (hx3.symm.trans (by simpa using hu3))
    subst ex1 ex2 ex3
    refine ⟨_, rfl, wpAny_letOwnedTupleGo_zip (s := { s with heap := h', toks := tk }) z' fun h'' z'' sb => ?_⟩
    have hT2 : h''.get? s.heap.objs.size = some { cls := .type "tuple", data := .seq #[x1, x2, x3] } := (sb.2 _ (Nat.ne_of_gt hzl)).trans hT
    have new : ObjOk X.prog X.w (upd H s.heap.objs.size (.tup [x, y, zz])) h'' s.heap.objs.size (.tup [x, y, zz]) :=
      ⟨by show 3 ≤ sizeLine; decide, [x1, x2, x3], .cons ru (.cons ru2 (.cons ru3 .nil)), ⟨_, hT2, rfl, _, rfl⟩⟩
    have I1 : Inv X pins σ (upd H s.heap.objs.size (.tup [x, y, zz])) { s with heap := h'', toks := tk } :=
      I.turnedNew (t' := tk) (ch := [z, TI, TO, i1, i2, i3]) (fun c o hb q => (sb.2 c (fun q' => hb (by simp [q']))).trans (hk c o (fun q' => hb (by simp [q'])) (fun q' => hb (by simp [q'])) (fun q' => hb (by simp [q'])) (fun q' => hb (by simp [q'])) (fun q' => hb (by simp [q'])) q)) hf (Nat.le_refl _) new
    refine ⟨.ref s.heap.objs.size, _, I1, rfl, ⟨_, x, y, zz, rfl, I.hok.fresh (Nat.le_refl _), rfl, fun l hl => by rw [sqK_inj I hl hqx]; exact hx, fun l hl => by rw [sqK_inj I hl hqy]; exact hy, fun l hl => by rw [sqK_inj I hl hqz]; exact hzz⟩, ⟨z'', ?_, ⟨x1, x2, x3, ?_⟩, ?_, ?_, ?_⟩, fun c hcm => ?_⟩
    · exact (sb.2 _ D.TIz).trans (hk _ _ D.TIz D.TITO D.TIi1 D.TIi2 D.TIi3 hTI)
    · exact (sb.2 _ D.TOz).trans TO'
    · exact itK_at h1'.1 fun o q => (sb.2 _ (Ne.symm D.zi1)).trans q
    · exact itK_at h2'.1 fun o q => (sb.2 _ (Ne.symm D.zi2)).trans q
    · exact itK_at h3'.1 fun o q => (sb.2 _ (Ne.symm D.zi3)).trans q
    · have hlt : c < s.heap.objs.size := by
        have e' : c = z ∨ c = TI ∨ c = TO ∨ c = i1 ∨ c = i2 ∨ c = i3 := by simpa using hcm
        rcases e' with q | q | q | q | q | q
        · rw [q]; exact hzl
        · rw [q]; exact Heap.lt_size hTI
        · rw [q]; exact Heap.lt_size hTO
        · rw [q]; obtain ⟨_, e1, _⟩ := itK_obj h1; exact Heap.lt_size e1
        · rw [q]; obtain ⟨_, e2, _⟩ := itK_obj h2; exact Heap.lt_size e2
        · rw [q]; obtain ⟨_, e2, _⟩ := itK_obj h3; exact Heap.lt_size e2
      rw [upd_ne (Nat.ne_of_lt hlt)]
      exact (hf c hcm).1
  done := by
    intro X hP hw hK hc i pins s σ H E I hf st hg
    subst hP hw hK
    obtain ⟨hz, hTI, ⟨x0, y0, z0, hTO⟩, h1, h2, h3⟩ := st
    obtain ⟨xs, ys, zs, hqx, hqy, hqz, hix, hiy, hiz, hend⟩ := hg
    obtain ⟨its, rv, p⟩ := hasK_of I hqx
    obtain ⟨its2, rv2, p2⟩ := hasK_of I hqy
    obtain ⟨its3, rv3, p3⟩ := hasK_of I hqz
    have l1 := rv.length
    have l2 := rv2.length
    have l3 := rv3.length
    refine wpAny_pyNext_zipD3_end D (drawsK k1 (A := X.A.in1) (I.ok.hd hc) i1 a (itK_ne h1 p) its.toArray) (drawsK k2 (A := X.A.in1) (I.ok.hd hc) i2 b (itK_ne h2 p2) its2.toArray) (drawsK k3 (A := X.A.in1) (I.ok.hd hc) i3 c (itK_ne h3 p3) its3.toArray) hz hTI hTO ⟨h1, p⟩ ⟨h2, p2⟩ ⟨h3, p3⟩ (by rw [List.size_toArray]; omega) (by rw [List.size_toArray]; omega) (by rw [List.size_toArray]; omega) (by rw [List.size_toArray, List.size_toArray, List.size_toArray]; omega) fun h' tk hk => ⟨rfl, I.turnedL (t' := tk) (ch := [z, TI, TO, i1, i2, i3]) (fun c o hb q =>
      hk c o (fun q' => hb (by simp [q'])) (fun q' => hb (by simp [q'])) (fun q' => hb (by simp [q'])) (fun q' => hb (by simp [q'])) (fun q' => hb (by simp [q'])) q) hf⟩
  self := fun A i s Q E st h => wpAny_pyIter_zip st.1 h
def iZipK3 (K : PySem.W.Frag) (k1 k2 k3 : Kd) (ta : TA) : TI := fun σ H R => ta σ H fun vs H1 => ∃ a b c xs ys zs, vs = [.ref a, .ref b, .ref c] ∧ SqK K k1 H1 a xs ∧ SqK K k2 H1 b ys ∧ SqK K k3 H1 c zs ∧ R (ItzK3 K k1 k2 k3 a b c) H1
theorem pi_zipK3 (k1 k2 k3 : Kd) {X : Cx} {e e2 e3 : Expr} {ta : TA} {p pos tpos : Pos} {elts : List Expr} {kk : Nat} (hg : Gl X "zip") (hm : X.mg "zip" = none) (ha : PA X [e, e2, e3] ta)
    (hs : starEach [e, e2, e3] X.env = (false, eval e X.env) :: starEach [e2, e3] X.env := by rfl) (hpl : (backTo pos (starEach [e2, e3] X.env)).any (·.1) = false := by rfl) :
    PI X (.Tuple elts kk tpos) (.Call (.Name "zip" p) [e, e2, e3] [] pos) (iZipK3 X.K k1 k2 k3 ta) := by
  refine ⟨fun pins s σ H R I h => ?_⟩
  refine Call_ (ld_blt I hg hm PyProof.Rows.boot_zip (PyProof.Rows.callWith_type1 (thn (ha.run pos pins s σ H _ I h) fun us s1 ⟨vs, H1, I1, r1, q1⟩ => ?_) hs hpl))
  obtain ⟨a, b, c, xs, ys, zs, ex, hqx, hqy, hqz, q⟩ := q1
  subst ex
  cases r1 with
  | cons r rr =>
    cases rr with
    | cons r' rr =>
      cases rr with
      | cons r'' rr =>
      cases rr
      cases r
      cases r'
      cases r''
      have fresh6 : ∀ d, d ∈ [s1.heap.objs.size + 5, s1.heap.objs.size + 3, s1.heap.objs.size + 4, s1.heap.objs.size, s1.heap.objs.size + 1, s1.heap.objs.size + 2] → FpOk X pins H1 d := fun d hcm => by
        have e' : d = s1.heap.objs.size + 5 ∨ d = s1.heap.objs.size + 3 ∨ d = s1.heap.objs.size + 4 ∨ d = s1.heap.objs.size ∨ d = s1.heap.objs.size + 1 ∨ d = s1.heap.objs.size + 2 := by simpa using hcm
        have hle : s1.heap.objs.size ≤ d := by
          rcases e' with z | z | z | z | z | z
          · rw [z]; exact Nat.le_add_right _ _
          · rw [z]; exact Nat.le_add_right _ _
          · rw [z]; exact Nat.le_add_right _ _
          · rw [z]; exact Nat.le_refl _
          · rw [z]; exact Nat.le_add_right _ _
          · rw [z]; exact Nat.le_add_right _ _
        exact I1.fpOk hle (I1.hok.fresh hle)
      obtain ⟨its, rv, p1⟩ := hasK_of I1 hqx
      obtain ⟨its2, rv2, p2⟩ := hasK_of I1 hqy
      obtain ⟨its3, rv3, p3⟩ := hasK_of I1 hqz
      refine zip_begins3 (beginsK k1 a its.toArray) (beginsK k2 b its2.toArray) (beginsK k3 c its3.toArray) p1 p2 p3 fun h' hz hTI hTO h1 h2 h3 hsz hk => wpAny_pyIter_zip hz ?_
      have I2 : Inv X pins σ H1 { s1 with heap := h' } := I1.kept (t' := s1.toks) hk
      have hsep := zip_sep3 (N := s1.heap.objs.size) (fp1 := [a]) (fp2 := [b]) (fp3 := [c]) (fun c hc => by rw [List.mem_singleton.mp hc]; exact hasK_lt p1) (fun c hc => by rw [List.mem_singleton.mp hc]; exact hasK_lt p2) (fun c hc => by rw [List.mem_singleton.mp hc]; exact hasK_lt p3)
      exact ⟨s1.heap.objs.size + 5, [s1.heap.objs.size + 5, s1.heap.objs.size + 3, s1.heap.objs.size + 4, s1.heap.objs.size, s1.heap.objs.size + 1, s1.heap.objs.size + 2], _, _, H1, rfl, I2, turn_zipK3 hsep, ⟨hz, hTI, ⟨_, _, _, hTO⟩, itK_0 h1, itK_0 h2, itK_0 h3⟩, fresh6, q⟩
def triples : List PyData → List PyData → List PyData → List PyData
  | x :: xs, y :: ys, z :: zs => .tuple [x, y, z] :: triples xs ys zs
  | _, _, _ => []
theorem triples_len : ∀ xs ys zs : List PyData, (triples xs ys zs).length = min xs.length (min ys.length zs.length)
  | x :: xs, y :: ys, z :: zs => by
    rw [triples, List.length_cons, triples_len xs ys zs, List.length_cons, List.length_cons, List.length_cons]
    omega
  | [], _, _ => by simp [triples]
  | _ :: _, [], _ => by simp [triples]
  | _ :: _, _ :: _, [] => by simp [triples]
theorem triples_get : ∀ {xs ys zs : List PyData} {i : Nat} {x y z : PyData}, xs[i]? = some x → ys[i]? = some y → zs[i]? = some z → (triples xs ys zs)[i]? = some (.tuple [x, y, z])
  | x :: xs, y :: ys, z :: zs, 0, _, _, _, h1, h2, h3 => by
    cases h1
    cases h2
    cases h3
    rfl
  | x :: xs, y :: ys, z :: zs, i + 1, _, _, _, h1, h2, h3 => by
    rw [triples, List.getElem?_cons_succ]
    exact triples_get (by simpa using h1) (by simpa using h2) (by simpa using h3)
  | [], _, _, _, _, _, _, h, _, _ => by simp at h
  | _ :: _, [], _, _, _, _, _, _, h, _ => by simp at h
  | _ :: _, _ :: _, [], _, _, _, _, _, _, h => by simp at h
def iZ3 (k1 k2 k3 : Kd) (r : FL) : FL := fun env => match r env with
  | some [x, y, z] => (itemsK k1 x).bind fun xs => (itemsK k2 y).bind fun ys => (itemsK k3 z).bind fun zs => some (triples xs ys zs)
  | _ => none
theorem DpAll_three {K : PySem.W.Frag} {H : Hp} {vs : List V} {d e f : PyData} (h : DpAll K H vs [d, e, f]) : ∃ v w u, vs = [v, w, u] ∧ Dp K H v d ∧ Dp K H w e ∧ Dp K H u f := by
  cases h with
  | cons h t =>
    obtain ⟨w, u, rfl, q, r⟩ := t.two
    exact ⟨_, w, u, rfl, h, q, r⟩
theorem i_zip3 (k1 k2 k3 : Kd) {X : Cx} {e e2 e3 : Expr} {r : FL} {p pos tpos : Pos} {elts : List Expr} {kk : Nat} (hg : Gl X "zip") (hm : X.mg "zip" = none) (ha : PA X [e, e2, e3] (tA X.K r))
    (hs : starEach [e, e2, e3] X.env = (false, eval e X.env) :: starEach [e2, e3] X.env := by rfl) (hpl : (backTo pos (starEach [e2, e3] X.env)).any (·.1) = false := by rfl) :
    PI X (.Tuple elts kk tpos) (.Call (.Name "zip" p) [e, e2, e3] [] pos) (tI X.K (iZ3 k1 k2 k3 r)) := pi_le (pi_zipK3 k1 k2 k3 hg hm ha hs hpl) fun σ H R ⟨Z, Hf, env, ds, Rl, hf, k⟩ => by
  unfold iZ3 at hf
  split at hf
  · rename_i x y z hr
    obtain ⟨xs, hx, hf⟩ := Option_bind_some hf
    obtain ⟨ys, hy, hf⟩ := Option_bind_some hf
    obtain ⟨zs, hz, hf⟩ := Option_bind_some hf
    cases hf
    refine ⟨Z, Hf, env, _, Rl, hr, fun vs H1 Hf1 s1 d1 => ?_⟩
    obtain ⟨v, w, t, rfl, hv, hw, ht⟩ := DpAll_three d1
    obtain ⟨a, us, rfl, ha, hda⟩ := dp_itemsK hv hx
    obtain ⟨b, ws, rfl, hb, hdb⟩ := dp_itemsK hw hy
    obtain ⟨c, ts, rfl, hc, hdc⟩ := dp_itemsK ht hz
    refine ⟨a, b, c, us, ws, ts, rfl, sqK_up s1.i ha, sqK_up s1.i hb, sqK_up s1.i hc, k _ H1 Hf1 s1 ?_⟩
    have hl : (triples xs ys zs).length = min us.length (min ws.length ts.length) := by
      rw [triples_len, hda.len, hdb.len, hdc.len]
    show Walk _ (triples xs ys zs).length _ _
    rw [hl]
    refine ⟨fun i H hi q => ?_, fun H q => ?_, fun i H v H' hi q y => ?_⟩
    · have g1 : i < us.length := by omega
      have g2 : i < ws.length := by omega
      have g3 : i < ts.length := by omega
      exact ⟨us, ws, ts, us[i], ws[i], ts[i], sqK_up q ha, sqK_up q hb, sqK_up q hc, by simp [g1], by simp [g2], by simp [g3]⟩
    · exact ⟨us, ws, ts, sqK_up q ha, sqK_up q hb, sqK_up q hc, by omega, by omega, by omega, by omega⟩
    · obtain ⟨T, x, y, z, h1, h2, h3, h4, h5, h6⟩ := y
      obtain ⟨dx, e1, q1⟩ := hda.get (h4 us (sqK_up q ha))
      obtain ⟨dy, e2, q2⟩ := hdb.get (h5 ws (sqK_up q hb))
      obtain ⟨dz, e3, q3⟩ := hdc.get (h6 ts (sqK_up q hc))
      exact ⟨.tuple [dx, dy, dz], triples_get e1 e2 e3, .inr ⟨T, [x, y, z], [dx, dy, dz], h1, h2, h3, rfl, .cons q1 (.cons q2 (.cons q3 .nil))⟩⟩
  · cases hf

def lR1 (f : FE) : FL := fun env => match f env with
  | some (.int n) => if -100000 < n ∧ n < 100000 then some ((List.range n.toNat).map fun (i : Nat) => PyData.int (i : Int)) else none
  | _ => none
theorem dp_range {K : PySem.W.Frag} {H : Hp} (l : List Nat) : DpAll K H (l.map fun i => V.int (0 + (i : Nat))) (l.map fun (i : Nat) => PyData.int (i : Int)) := by
  induction l with
  | nil => exact .nil
  | cons a l ih =>
    refine .cons ?_ ih
    show Dp K H (V.int (0 + (a : Int))) (.int (a : Int))
    rw [Int.zero_add]
    exact .int _
section
variable {X : Cx} {e : Expr} {f g : FE} {pos : Pos}
theorem l_listRange {p p2 pos2 : Pos} (hc : X.calm = true) (hg : Gl X "list") (hm : X.mg "list" = none) (hg2 : Gl X "range") (hm2 : X.mg "range" = none) (he : PE X e (tE X.K f)) (na : starEach [e] X.env = (false, eval e X.env) :: starEach [] X.env := by rfl)
    (na2 : starEach [.Call (.Name "range" p2) [e] [] pos2] X.env = (false, eval (.Call (.Name "range" p2) [e] [] pos2) X.env) :: starEach [] X.env := by rfl) :
    PE X (.Call (.Name "list" p) [.Call (.Name "range" p2) [e] [] pos2] [] pos) (tL X.K (lR1 f)) := pe_le (pe_listRg hc hg hm (prg_1 hg2 hm2 he na) na2) fun σ H Q ⟨Z, Hf, env, d, R, hf, k⟩ => by
  unfold lR1 at hf
  split at hf
  · rename_i n hn
    split at hf
    · rename_i hb
      cases hf
      refine ⟨Z, Hf, env, _, R, hn, fun v H1 Hf1 s1 d1 => ?_⟩
      cases d1.int_eq
      refine ⟨n, rfl, ⟨by omega, by omega, by omega, by omega, by omega⟩, fun q hq => ?_⟩
      refine k q _ _ _ (s1.trans (Stp.hid s1.i hq)) (s1.h.free hq) (s1.i.free hq) upd_same ?_
      unfold rgV
      rw [Int.sub_zero]
      exact dp_range _
    · cases hf
  · cases hf

def ownNe (i : Nat) (g : FE) : FE := fun env => match env[i]? with
  | some (some (.own l)) => (g env).bind fun y => if SeqAt.shaped (.list l) = true ∧ SeqAt.shaped y = true then some (.bool (!PyData.eqv (.list l) y)) else none
  | _ => none
theorem x_ownNe (i : Nat) {x : Str} {p : Pos} (hu : X.A.units + 64 < cLine) (hb : PE X e (tE X.K g)) (hN : X.N[i]? = some x := by rfl) (hv : Vis X.env.scope x := by first | exact Or.inl rfl | exact Or.inr (Or.inl rfl) | exact Or.inr (Or.inr rfl)) (hd : (x == ("__debug__" : Str)) = false := by decide)
    (hcd : (x == ("__classdict__" : Str)) = false := by decide) : PE X (.Compare (.Name x p) [.NotEq] [e] pos) (tE X.K (ownNe i g)) := pe_le (pe_cmpR (op_neD hu) (pe_var hN hv hd hcd) hb (nomark _)) fun σ H Q ⟨Z, Hf, env, d, R, hf, k⟩ => by
  unfold ownNe at hf
  split at hf
  · rename_i l hl
    obtain ⟨y, hy, hf⟩ := Option_bind_some hf
    split at hf
    · rename_i hc
      cases hf
      obtain ⟨w, hs, p, vs, rfl, hz, hfp, hp, ha⟩ := R.sl i _ hl
      refine ⟨.ref p, hs, Z, Hf, env, _, R, hy, fun v H1 Hf1 s1 d1 => ?_⟩
      exact ⟨_, _, .lst (SqL.of (s1.h p _ hp)) (DpAll_up (s1.f.trans s1.i) ha), Dp_up s1.i d1, hc.1, hc.2, k _ _ _ s1 (.bl _)⟩
    · cases hf
  · cases hf
def ownIn (i : Nat) (g : FE) : FE := fun env => match env[i]? with
  | some (some (.own l)) => (g env).bind fun y => if SeqAt.shaped y = true ∧ SeqAt.shaped (.list l) = true then some (.bool (l.any fun z => PyData.eqv z y)) else none
  | _ => none
theorem x_ownIn (i : Nat) {x : Str} {p : Pos} (hu : X.A.units + 65 < cLine) (hb : PE X e (tE X.K g)) (hm : behindInMarks .In (.Name x p) = false) (hN : X.N[i]? = some x := by rfl) (hv : Vis X.env.scope x := by first | exact Or.inl rfl | exact Or.inr (Or.inl rfl) | exact Or.inr (Or.inr rfl)) (hd : (x == ("__debug__" : Str)) = false := by decide)
    (hcd : (x == ("__classdict__" : Str)) = false := by decide) : PE X (.Compare e [.In] [.Name x p] pos) (tE X.K (ownIn i g)) := pe_le (pe_cmpR (op_inD hu) hb (pe_var hN hv hd hcd) hm) fun σ H Q ⟨Z, Hf, env, d, R, hf, k⟩ => by
  unfold ownIn at hf
  split at hf
  · rename_i l hl
    obtain ⟨y, hy, hf⟩ := Option_bind_some hf
    split at hf
    · rename_i hc
      cases hf
      refine ⟨Z, Hf, env, _, R, hy, fun v H1 Hf1 s1 d1 => ?_⟩
      obtain ⟨w, hs, p, vs, rfl, hz, hfp, hp, ha⟩ := (R.step s1).sl i _ hl
      exact ⟨.ref p, hs, _, _, Dp_up s1.i d1, .lst (SqL.of hp) (DpAll_up s1.i ha), hc.1, hc.2, k _ _ _ s1 (.bl _)⟩
    · cases hf
  · cases hf
/-- isinstance(x, list) of an own list -/
def ownIsL (i : Nat) : FE := fun env => match env[i]? with
  | some (some (.own _)) => some (.bool true)
  | _ => none
theorem x_ownIsL (i : Nat) {x : Str} {p p1 p2 : Pos} (hg : Gl X "isinstance") (hm : X.mg "isinstance" = none) (hg2 : Gl X "list") (hm2 : X.mg "list" = none) (hN : X.N[i]? = some x := by rfl) (hv : Vis X.env.scope x := by first | exact Or.inl rfl | exact Or.inr (Or.inl rfl) | exact Or.inr (Or.inr rfl)) (hd : (x == ("__debug__" : Str)) = false := by decide)
    (hcd : (x == ("__classdict__" : Str)) = false := by decide)
    (hs : starEach [.Name x p1, .Name "list" p2] X.env = (false, eval (.Name x p1) X.env) :: starEach [.Name "list" p2] X.env := by rfl) (hs2 : starEach [.Name "list" p2] X.env = (false, eval (.Name "list" p2) X.env) :: starEach [] X.env := by rfl) (hpl : (backTo pos (starEach [.Name "list" p2] X.env)).any (·.1) = false := by rfl) :
    PE X (.Call (.Name "isinstance" p) [.Name x p1, .Name "list" p2] [] pos) (tE X.K (ownIsL i)) := by
  have ht : PE X (.Name "list" p2) (tC (.ty "list")) := pe_bltn hg2 hm2 PyProof.Rows.boot_list rfl
  refine pe_le (pe_callB call_isi hg hm boot_isinstance (pa_cons (pe_var hN hv hd hcd) (pa_cons ht pa_nil hs2) hs) (by decide) (by decide) hs hpl) fun σ H Q ⟨Z, Hf, env, d, R, hf, k⟩ => ?_
  unfold ownIsL at hf
  split at hf
  · rename_i l hl
    cases hf
    obtain ⟨w, hs, p, vs, rfl, hz, hfp, hp, ha⟩ := R.sl i _ hl
    exact ⟨.ref p, hs, .ref p, .ty "list", .type "list", .type "list", true, rfl, .ty "list", .base (.lst hp), kit_ty (by decide +kernel), k _ H Hf (.refl R.st.i) (.bl true)⟩
  · cases hf
end
end Fi

namespace Fi
open PySem PySem.Spec PyProof.Rows L2
/-- statements that change no slot outside W -/
def FinF (K : PySem.W.Frag) (Z : Hp × Hp) (Hf : Hp) (σ : L2.St) (W : List Nat) (D : Ends) : Out → Prop
  | .next e => ∀ σ' H' Hf', Same Hf Hf' → Rel K Z Hf' H' e σ' → (∀ i : Nat, i ∉ W → σ'[i]? = σ[i]?) → D.nx σ' H'
  | .ret d => ∀ v H' Hf', Stp Z.1 Z.2 Hf' H' → Dp K Hf' v d → D.rt v H'
  | _ => False
theorem FinF.up {K : PySem.W.Frag} {Z : Hp × Hp} {Hf Hf' : Hp} {σ τ : L2.St} {W : List Nat} {D : Ends} (e : Same Hf Hf') (hs : ∀ i : Nat, i ∉ W → τ[i]? = σ[i]?) : ∀ {o : Out}, FinF K Z Hf σ W D o → FinF K Z Hf' τ W D o
  | .next _, h => fun σ' H' Hg s R q => h σ' H' Hg (e.trans s) R fun i hi => (q i hi).trans (hs i hi)
  | .ret _, h => h
  | .brk _, h => h
  | .cont _, h => h
  | .retL _, h => h
  | .retD _, h => h
def tSf (K : PySem.W.Frag) (W : List Nat) (f : FS) : TS := fun D σ H => ∃ (Z : Hp × Hp) (Hf : Hp) (env : En) (o : Out), Rel K Z Hf H env σ ∧ f env = some o ∧ FinF K Z Hf σ W D o
section
variable {X : Cx} {W : List Nat} {st : Stmt} {rest : List Stmt} {e : Expr} {pos : Pos} {f g : FS} {h : FE} {p : FT}
theorem sf_nil : PSs X [] (tSf X.K W sNext) := pss_le pss_nil fun D σ H ⟨Z, Hf, env, o, R, hf, k⟩ => by
  cases hf
  exact k σ H Hf (Same.refl _) R fun _ _ => rfl
theorem sf_cons (h1 : PS X st (tSf X.K W f)) (h2 : PSs X rest (tSf X.K W g)) : PSs X (st :: rest) (tSf X.K W (sSeq f g)) := pss_le (pss_cons h1 h2) fun D σ H ⟨Z, Hf, env, o, R, hf, k⟩ => by
  unfold sSeq at hf
  cases q : f env with
  | none =>
    rw [q] at hf
    cases hf
  | some o1 =>
    rw [q] at hf
    cases o1 with
    | next e1 => exact ⟨Z, Hf, env, .next e1, R, q, fun σ' H' Hf' s1 R' hs => ⟨Z, Hf', e1, o, R', hf, k.up s1 hs⟩⟩
    | brk e1 =>
      cases hf
      exact k.elim
    | cont e1 =>
      cases hf
      exact k.elim
    | ret d =>
      cases hf
      exact ⟨Z, Hf, env, .ret d, R, q, k⟩
    | retL d =>
      cases hf
      exact k.elim
    | retD d =>
      cases hf
      exact k.elim
theorem sf_one (h1 : PS X st (tSf X.K W f)) : PSs X [st] (tSf X.K W f) := pss_one h1
theorem sf_set (i : Nat) {x : Str} {pos' : Pos} (hN : X.N.Nodup) (he : PE X e (tE X.K h)) (hW : i ∈ W := by decide) (hi : X.N[i]? = some x := by rfl) (hx : Loc X.env.scope x := by first | exact Or.inl rfl | exact Or.inr rfl) (hs : swapsWith e (some (.Name x pos')) pos.line X.env = pure false := by rfl) (hf : X.fn x = true ∨ X.env.scope.names.lookup x = some .local := by first | exact .inl rfl | exact .inr rfl | assumption) :
    PS X (.Assign [.Name x pos'] e pos) (tSf X.K W (sSet i h)) := ps_le (ps_set hN hi hx he hs hf) fun D σ H ⟨Z, Hf, env, o, R, hf, k⟩ => by
  obtain ⟨d, hd, rfl⟩ := Option.map_eq_some_iff.mp hf
  refine ⟨Z, Hf, env, d, R, hd, fun v H1 Hf1 s1 d1 => k _ H1 Hf1 s1.f ((R.step s1).set i d1) fun j hj => ?_⟩
  rw [List.getElem?_set_ne (fun q => hj (by rw [← q]; exact hW))]
theorem sf_if {c : Expr} {a b : List Stmt} (hc : PT X c (tT X.K p)) (ha : PSs X a (tSf X.K W f)) (hb : PSs X b (tSf X.K W g)) : PS X (.If c a b pos) (tSf X.K W (sIf p f g)) := ps_le (ps_if hc ha hb) fun D σ H ⟨Z, Hf, env, o, R, hf, k⟩ => by
  unfold sIf at hf
  split at hf
  · rename_i hp
    exact ⟨Z, Hf, env, true, R, hp, fun H1 Hf1 s1 => iteT ⟨Z, Hf1, env, o, R.step s1, hf, k.up s1.f fun _ _ => rfl⟩⟩
  · rename_i hp
    exact ⟨Z, Hf, env, false, R, hp, fun H1 Hf1 s1 => iteF ⟨Z, Hf1, env, o, R.step s1, hf, k.up s1.f fun _ _ => rfl⟩⟩
  · cases hf
theorem sf_ret (he : PE X e (tE X.K h)) : PS X (.Return (some e) pos) (tSf X.K W (sRet h)) := ps_le (ps_ret he) fun D σ H ⟨Z, Hf, env, o, R, hf, k⟩ => by
  obtain ⟨d, hd, rfl⟩ := Option.map_eq_some_iff.mp hf
  exact ⟨Z, Hf, env, d, R, hd, fun v H1 Hf1 s1 d1 => k v H1 Hf1 (R.st.trans s1) d1⟩
end
theorem Rel.reown {K : PySem.W.Frag} {Z : Hp × Hp} {Hf H : Hp} {e : En} {σ : L2.St} {i : Nat} {p : Addr} {vs : List V} {l : List PyData} (R : Rel K Z Hf H e σ) (hs : σ[i]? = some (some (.ref p))) (hn : NoOwn e σ p) (hz : Z.2 p = none) (hf : Hf p = none) (hp : H p = some (.lst vs)) (hd : DpAll K Hf vs l) :
    Rel K Z Hf H (e.set i (some (.own l))) σ := by
  refine ⟨R.st, by rw [List.length_set, R.len], fun j s q => ?_, fun j k x y r ej ek hj hk => ?_⟩
  · rcases set_cases q with ⟨rfl, z⟩ | ⟨_, z⟩
    · cases z
      exact ⟨.ref p, hs, p, vs, rfl, hz, hf, hp, hd⟩
    · exact R.sl j s z
  · rcases set_cases ej with ⟨rfl, z⟩ | ⟨n1, z⟩
    · rcases set_cases ek with ⟨rfl, z2⟩ | ⟨n2, z2⟩
      · rfl
      · rw [hs] at hj
        cases hj
        exact absurd hk (hn k (.own y) z2 rfl)
    · rcases set_cases ek with ⟨rfl, z2⟩ | ⟨n2, z2⟩
      · rw [hs] at hk
        cases hk
        exact absurd hj (hn j (.own x) z rfl)
      · exact R.ds j k x y r z z2 hj hk
def forF (g : PyData → En → Option En) (fb : FS) : List PyData → FS
  | [], env => some (.next env)
  | d :: ds, env => (g d env).bind fun e1 => match fb e1 with
    | some (.next e) => forF g fb ds e
    | some (.ret d) => some (.ret d)
    | _ => none
theorem forF_inv {g : PyData → En → Option En} {fb : FS} (P : Nat → En → Prop) : ∀ (ds : List PyData) (k : Nat) (env : En), P k env →
    (∀ (i : Nat) (d : PyData) (e : En), ds[i]? = some d → P (k + i) e → ∃ e1 e2, g d e = some e1 ∧ fb e1 = some (.next e2) ∧ P (k + i + 1) e2) → ∃ e, forF g fb ds env = some (.next e) ∧ P (k + ds.length) e
  | [], k, env, h, _ => ⟨env, rfl, h⟩
  | d :: ds, k, env, h, hs => by
    obtain ⟨e1, e2, h1, h2, h3⟩ := hs 0 d env rfl h
    obtain ⟨e, q1, q2⟩ := forF_inv P ds (k + 1) e2 h3 fun i d' e hd hp => by
      have e0 : k + 1 + i = k + (i + 1) := by omega
      rw [e0] at hp ⊢
      exact hs (i + 1) d' e (by simpa using hd) hp
    refine ⟨e, by simp only [forF, h1, h2, Option.bind_some, q1], ?_⟩
    have e0 : k + (d :: ds).length = k + 1 + ds.length := by rw [List.length_cons]; omega
    rw [e0]
    exact q2
theorem Stp.unlock {A B C E : Hp} {p : Addr} {o : HO} (s : Stp A (upd B p o) C E) (hz : B p = none) : Stp A B C E :=
  ⟨s.f, s.i, fun b x e => s.h b x (by rw [upd_ne (ne_of_none e hz)]; exact e), fun b x e q => s.n b x (by rw [upd_ne (ne_of_none e hz)]; exact e) q⟩
def sForOE (i : Nat) (g : PyData → En → Option En) (fb : FS) : FS := fun env => match env[i]? with
  | some (some (.own l)) => match forF g fb (enumD l) (env.set i none) with
    | some (.next e) => some (.next (e.set i (some (.own l))))
    | some (.ret d) => some (.ret d)
    | _ => none
  | _ => none
theorem s_forOE (i : Nat) {X : Cx} {W sl : List Nat} {x : Str} {p1 p2 p3 pos tpos : Pos} {elts : List Expr} {kk : Nat} {g : PyData → En → Option En} {fb : FS} {body : List Stmt} (hp : PassesOwn (model X.prog X.w) X.A X.env X.xe) (hc : X.calm = true) (hg : Gl X "enumerate") (hm : X.mg "enumerate" = none)
    (htg : PG X (.Tuple elts kk tpos) (tG X.K false sl g)) (hb : PSs X body (tSf X.K W fb)) (hW : i ∉ W := by decide) (hsl : ∀ j ∈ sl, j ∈ W := by decide) (hN : X.N[i]? = some x := by rfl) (hv : Vis X.env.scope x := by first | exact Or.inl rfl | exact Or.inr (Or.inl rfl) | exact Or.inr (Or.inr rfl)) (hd : (x == ("__debug__" : Str)) = false := by decide)
    (hcd : (x == ("__classdict__" : Str)) = false := by decide) (hst : starEach [.Name x p1] X.env = [(false, eval (.Name x p1) X.env)] := by rfl)
    (hs : ∀ y, foldedSetIterable (.Call (.Name "enumerate" p2) [.Name x p1] [] p3) X.env y = pure y := by intro _; rfl) : PS X (.For (.Tuple elts kk tpos) (.Call (.Name "enumerate" p2) [.Name x p1] [] p3) body [] pos) (tS X.K (sForOE i g fb)) := by
  have ha : PA X [.Name x p1] (tCons (tVar i) tNil) := pa_cons (pe_var hN hv hd hcd) pa_nil (by rw [hst]; rfl)
  refine ps_le (ps_for hp hc (pi_enumK .l hg hm ha hst) htg hb hs) fun D σ H ⟨Z, Hf, env, o, R, hf, k⟩ => ?_
  unfold sForOE at hf
  split at hf
  · rename_i l hl
    obtain ⟨v, hsi, p, vs, rfl, hz, hfp, hpp, hda⟩ := R.sl i _ hl
    have hno : NoOwn (env.set i none) σ p := fun j y e hy q => by
      rcases set_cases e with ⟨_, z⟩ | ⟨hn, z⟩
      · cases z
      · cases y with
        | val d => cases hy
        | own y => exact hn (R.ds i j l y p hl z hsi q)
        | dct y =>
          obtain ⟨v, h1, p', xs, rfl, _, _, h2, _⟩ := R.sl j _ z
          rw [q] at h1
          cases h1
          rw [hpp] at h2
          cases h2
    have hR0 : Rel X.K Z Hf H (env.set i none) σ := by
      have := R.drop i (some (.ref p))
      have e : σ.set i (some (V.ref p)) = σ := by
        apply List.ext_getElem?
        intro j
        by_cases h : i = j
        · subst h
          rw [List.getElem?_set_self (List.getElem?_eq_some_iff.mp hsi).1, hsi]
        · rw [List.getElem?_set_ne h]
      rw [e] at this
      exact this
    have R0 := hR0.lock hfp hpp hno
    obtain ⟨o', ho'⟩ : ∃ o', forF g fb (enumD l) (env.set i none) = some o' := by
      cases q : forF g fb (enumD l) (env.set i none) with
      | none =>
        rw [q] at hf
        cases hf
      | some o' => exact ⟨o', rfl⟩
    rw [ho'] at hf
    refine ⟨.ref p, hsi, p, vs, rfl, .inl (.inl hpp), ?_⟩
    have hlen : (enumD l).length = vs.length := by
      unfold enumD
      rw [List.length_zipWith, List.length_range, hda.len, Nat.min_self]
    have w := walk_enumK (K := X.K) (k := .l) (a := p) (xs := vs)
    refine for_it w (fun j σ' H' => ∃ (Hf' : Hp) (env' : En), Same Hf Hf' ∧ Rel X.K (Z.1, upd Z.2 p (.lst vs)) Hf' H' env' σ' ∧ σ'[i]? = some (some (.ref p)) ∧ forF g fb ((enumD l).drop j) env' = some o') ⟨Hf, _, Same.refl _, R0, hsi, ho'⟩ (fun j σ' H' _ ⟨Hf', env', a, R', _⟩ => ?_) (fun j y σ' H' H2 hj ⟨Hf', env', a, R', hi', q⟩ yy => ?_) fun σ' H' ⟨Hf', env', a, R', hi', q⟩ => ?_
    · have : H' p = some (.lst vs) := R'.st.h p _ (by show upd Z.2 p (.lst vs) p = _; exact upd_same)
      exact .inl (.inl this)
    · obtain ⟨d, hd, hdr⟩ := drop_get (l := enumD l) (i := j) (by rw [hlen]; exact hj)
      rw [hdr] at q
      obtain ⟨e1, hg1, q'⟩ := Option_bind_some q
      clear q
      obtain ⟨T, a1, a2, rfl, hT, rfl, h4, h5⟩ := yy
      have e4 : V.int (j : Nat) = a1 := Option.some.inj h4
      subst e4
      obtain ⟨dy, h6, h7⟩ := hda.get h5
      have hjl : j < l.length := (List.getElem?_eq_some_iff.mp h6).1
      have ed : d = .tuple [.int (j : Int), dy] := by
        unfold enumD at hd
        rw [List.getElem?_zipWith, List.getElem?_range hjl, h6] at hd
        exact (Option.some.inj hd).symm
      subst ed
      have st2 := Stp.new (o := .tup [V.int (j : Nat), a2]) R'.st.i hT
      have hx : Dp X.K (upd Hf' T (.tup [V.int (j : Nat), a2])) (.ref T) (.tuple [.int (j : Int), dy]) := .tup (SqT.of upd_same) (.cons (.int _) (.cons (Dp_up (a.trans st2.f) h7) .nil))
      refine ⟨_, _, env', _, e1, R'.step st2, hx, hg1, fun σ3 H3 Hf3 s3 R3 pt _ _ => ?_⟩
      have up : Same Hf Hf3 := a.trans (st2.f.trans s3)
      have hi3 : σ3[i]? = some (some (.ref p)) := by rw [pt i fun z => hW (hsl i z)]; exact hi'
      cases hb1 : fb e1 with
      | none =>
        rw [hb1] at q'
        cases q'
      | some o1 =>
        rw [hb1] at q'
        refine ⟨_, Hf3, e1, o1, R3, hb1, ?_⟩
        cases o1 with
        | next e2 => exact fun σ4 H4 Hf4 s4 R4 hs4 => ⟨Hf4, e2, up.trans s4, R4, by rw [hs4 i hW]; exact hi3, q'⟩
        | cont e2 => cases q'
        | brk e2 => cases q'
        | ret d =>
          cases q'
          cases hf
          exact fun v H' Hf' st dd => k v H' Hf' (Stp.unlock st hz) dd
        | retL d => cases q'
        | retD d => cases q'
    · rw [List.drop_of_length_le (by rw [hlen]; exact Nat.le_refl _)] at q
      cases q
      cases hf
      obtain ⟨R2, hno2⟩ := Rel.unlock (Z := Z) R' hz
      have hH : H' p = some (.lst vs) := R'.st.h p _ (by show upd Z.2 p (.lst vs) p = _; exact upd_same)
      have hF : Hf' p = none := R'.st.n p (.lst vs) (by show upd Z.2 p (.lst vs) p = _; exact upd_same) (by show Z.1 p = none; exact R.st.f.free hfp)
      exact k σ' H' Hf' a (R2.reown hi' hno2 hz hF hH (DpAll_up a hda))
  · cases hf
def sPar3 (i j k : Nat) (r : FL) : FS := fun env => match r env with
  | some [x, y, z] => some (.next (((env.set i (some (.val x))).set j (some (.val y))).set k (some (.val z))))
  | _ => none
section
variable {X : Cx} {e : Expr} {pos : Pos} {g : FE} {l : FL}
theorem s_par3 (i j k : Nat) {x y z : Str} {a b c : Expr} {px py pz pt : Pos} {kt k2 pt2} (hc : X.calm = true) (hN : X.N.Nodup) (ha : PA X [a, b, c] (tA X.K l)) (hi : X.N[i]? = some x := by rfl) (hj : X.N[j]? = some y := by rfl) (hk : X.N[k]? = some z := by rfl) (hij : i ≠ j := by decide) (hik : i ≠ k := by decide) (hjk : j ≠ k := by decide)
    (hx : X.env.scope.names.lookup x = some .local := by rfl) (hy : X.env.scope.names.lookup y = some .local := by rfl) (hz : X.env.scope.names.lookup z = some .local := by rfl) (hw : swappedStores [.Tuple [.Name x px, .Name y py, .Name z pz] kt pt] (.Tuple [a, b, c] k2 pt2) X.env = pure (some [x, y, z]) := by rfl)
    (hs : swapsWithSole [.Tuple [.Name x px, .Name y py, .Name z pz] kt pt] (.Tuple [a, b, c] k2 pt2) pos.line X.env = pure false := by rfl) :
    PS X (.Assign [.Tuple [.Name x px, .Name y py, .Name z pz] kt pt] (.Tuple [a, b, c] k2 pt2) pos) (tS X.K (sPar3 i j k l)) := ps_le (ps_par3 hc hN hi hj hk hij hik hjk hx hy hz ha hw hs) fun D σ H ⟨Z, Hf, env, o, R, hf, kk⟩ => by
  unfold sPar3 at hf
  split at hf
  · rename_i u v w hl
    cases hf
    refine ⟨Z, Hf, env, _, R, hl, fun vs H1 Hf1 s1 d1 => ?_⟩
    obtain ⟨w1, w2, w3, rfl, e1, e2, e3⟩ := DpAll_three d1
    exact ⟨w1, w2, w3, rfl, kk _ H1 Hf1 s1.f ((((R.step s1).set i e1).set j e2).set k e3)⟩
  · cases hf
theorem t_ownNe (i : Nat) {x : Str} {p : Pos} (hu : X.A.units + 64 < cLine) (hb : PE X e (tE X.K g)) (hN : X.N[i]? = some x := by rfl) (hv : Vis X.env.scope x := by first | exact Or.inl rfl | exact Or.inr (Or.inl rfl) | exact Or.inr (Or.inr rfl)) (hd : (x == ("__debug__" : Str)) = false := by decide)
    (hcd : (x == ("__classdict__" : Str)) = false := by decide) : PT X (.Compare (.Name x p) [.NotEq] [e] pos) (tT X.K (asB (ownNe i g))) := pt_le (pt_cmpR (op_neD hu) (pe_var hN hv hd hcd) hb (nomark _)) fun σ H Q ⟨Z, Hf, env, d, R, hf, k⟩ => by
  have hf := asB_some hf
  unfold ownNe at hf
  split at hf
  · rename_i l hl
    obtain ⟨y, hy, hf⟩ := Option_bind_some hf
    split at hf
    · rename_i hc
      cases hf
      obtain ⟨w, hs, p, vs, rfl, hz, hfp, hp, ha⟩ := R.sl i _ hl
      refine ⟨.ref p, hs, Z, Hf, env, _, R, hy, fun v H1 Hf1 s1 d1 => ?_⟩
      exact ⟨_, _, .lst (SqL.of (s1.h p _ hp)) (DpAll_up (s1.f.trans s1.i) ha), Dp_up s1.i d1, hc.1, hc.2, _, rfl, k _ _ s1⟩
    · cases hf
  · cases hf
theorem t_ownIn (i : Nat) {x : Str} {p : Pos} (hu : X.A.units + 65 < cLine) (hb : PE X e (tE X.K g)) (hm : behindInMarks .In (.Name x p) = false) (hN : X.N[i]? = some x := by rfl) (hv : Vis X.env.scope x := by first | exact Or.inl rfl | exact Or.inr (Or.inl rfl) | exact Or.inr (Or.inr rfl)) (hd : (x == ("__debug__" : Str)) = false := by decide)
    (hcd : (x == ("__classdict__" : Str)) = false := by decide) : PT X (.Compare e [.In] [.Name x p] pos) (tT X.K (asB (ownIn i g))) := pt_le (pt_cmpR (op_inD hu) hb (pe_var hN hv hd hcd) hm) fun σ H Q ⟨Z, Hf, env, d, R, hf, k⟩ => by
  have hf := asB_some hf
  unfold ownIn at hf
  split at hf
  · rename_i l hl
    obtain ⟨y, hy, hf⟩ := Option_bind_some hf
    split at hf
    · rename_i hc
      cases hf
      refine ⟨Z, Hf, env, _, R, hy, fun v H1 Hf1 s1 d1 => ?_⟩
      obtain ⟨w, hs, p, vs, rfl, hz, hfp, hp, ha⟩ := (R.step s1).sl i _ hl
      exact ⟨.ref p, hs, _, _, Dp_up s1.i d1, .lst (SqL.of hp) (DpAll_up s1.i ha), hc.1, hc.2, _, rfl, k _ _ s1⟩
    · cases hf
  · cases hf
end
end Fi

namespace Fi
open PySem PySem.Spec PyProof.Rows L2
section
variable {X : Cx} {pins : List (Addr × Obj)} {σ : L2.St} {H : Hp} {s : Shared} {p c : Addr} {xs : List (List Int × Addr × Value)} {k : List Int} {E : Value → Shared → Prop}
theorem ext_new {P : Program} {w : World} {h : Heap} (d : DI p xs h) : ObjOk P w H h p (.ext (DI p xs)) := by
  obtain ⟨o, es, ep, h1, h2⟩ := d
  exact ⟨⟨o, es, ep, h1, h2⟩, ⟨o, h1⟩, fun a b ⟨o', es', ep', q1, q2⟩ kk => ⟨o', es', ep', kk o' q1, q2⟩⟩
theorem int_items {P : Program} {w : World} : ∀ {ks : List Int} {us : List Value}, Vals (ks.map V.int) us → ItemsAre (intKind P w) ks us
  | [], _, h => by cases h; exact .nil
  | i :: ks, _, h => by
    cases h with
    | cons a b =>
      obtain ⟨t, rfl⟩ := (show ∃ t, _ = Value.int i t from a)
      exact .cons (by show Value.isInt i (Value.int i t) = true; simp [Value.isInt]) (int_items b)
theorem key_is (I : Inv X pins σ H s) (h : SqT X.K H c (k.map V.int)) : (tupleKind (intKind X.prog X.w)).is s.heap k c := by
  obtain ⟨its, r, ⟨o, h1, h2, n, h3⟩, _⟩ := I.tuple h
  exact ⟨o, its.toArray, n, h1, h2, h3, by simpa using int_items r⟩
theorem dI_of (I : Inv X pins σ H s) (hD : H p = some (.ext (DI p xs))) (hk : ∀ x ∈ xs, SqT X.K H x.2.1 (x.1.map V.int)) (hn : (xs.map (·.1)).Nodup) : s.heap.DictOfH (tupleKind (intKind X.prog X.w)) p xs := by
  obtain ⟨⟨o, es, ep, h1, h2, h3, h4⟩, _⟩ := (show ObjOk X.prog X.w H s.heap p (.ext (DI p xs)) from I.hok p _ hD)
  exact ⟨o, es, ep, h1, h2, h3, h4, fun x hx => key_is I (hk x hx), hn⟩
/-- d[k] = v of a comprehension -/
theorem d_putI {r u : Value} {Q : Unit → Shared → Prop} (hu : X.A.units < cLine) (I : Inv X pins σ H s) (hD : H p = some (.ext (DI p xs))) (hk : ∀ x ∈ xs, SqT X.K H x.2.1 (x.1.map V.int)) (hn : (xs.map (·.1)).Nodup) (hz : xs.length < sizeLine) (hc : SqT X.K H c (k.map V.int)) (ru : RelV (.ref c) u)
    (h : ∀ s', Inv X pins σ (upd H p (.ext (DI p (storedH xs k c r)))) s' → ((storedH xs k c r).map (·.1)).Nodup → Q () s') : wpAny (model X.prog X.w) X.A (dictSet p u r) Q E s := by
  cases (show u = Value.ref c from ru)
  refine wpAny_dictSet_heap (knd := tupleKind (intKind X.prog X.w)) (hsz := Nat.le_of_lt hz) hu (key_is I hc) (dI_of I hD hk hn) fun h' dd' hs => ?_
  obtain ⟨o, es, ep, g1, g2, g3, g4, _, g5⟩ := dd'
  exact h _ (d_write I (by rw [hD]; exact True.intro) hs ⟨o, g1⟩ (ext_new ⟨o, es, ep, g1, g2, g3, g4⟩)) g5
theorem d_inI {u : Value} {Q : Value → Shared → Prop} (hu : X.A.units + 1 < cLine) (I : Inv X pins σ H s) (hD : H p = some (.ext (DI p xs))) (hp : (p == sysModules) = false) (hk : ∀ x ∈ xs, SqT X.K H x.2.1 (x.1.map V.int)) (hn : (xs.map (·.1)).Nodup) (hc : SqT X.K H c (k.map V.int)) (ru : RelV (.ref c) u)
    (h : ∀ s', Inv X pins σ H s' → Q (.bool (atKey xs k).isSome) s') : wpAny (model X.prog X.w) X.A (compareOp .In u (.ref p)) Q E s := by
  cases (show u = Value.ref c from ru)
  exact wpAny_in_heap (tupleKind_room_in1 hu) (key_is I hc) hp (dI_of I hD hk hn) (h _ (I.tok _))
end
/-- {k: v for target in iter}, the keys tuples of ints: D the new dict -/
def tDcT (K : PySem.W.Frag) (wi : TI) (g : TG) (tk tv : TE) (vs : List Nat) : TE := fun σ H Q => wi σ H fun J H1 => ∀ D, H1 D = none → (D == sysModules) = false → ∃ W : Nat → Nat → Hp → Prop, (∃ m, W 0 m (upd H1 D (.ext (DI D [])))) ∧ ∀ i m H, W i m H →
  (J.stop i H ∧ Q (.ref D) H) ∨ (J.go i H ∧ ∃ Nx : Hp → Prop, (∀ H', Nx H' → ∃ m', m' < m ∧ W (i + 1) m' H') ∧ ∀ x H', J.yld i H x H' → g x (L2.wipe σ vs) H' fun σ2 H2 => L2.wipe σ2 vs = L2.wipe σ vs ∧
    tk σ2 H2 fun y H4 => tv σ2 H4 fun z H5 => ∃ xs k c, y = .ref c ∧ SqT K H5 c (k.map V.int) ∧ H5 D = some (.ext (DI D xs)) ∧ (∀ x ∈ xs, SqT K H5 x.2.1 (x.1.map V.int)) ∧ (xs.map (·.1)).Nodup ∧ xs.length < sizeLine ∧
      ∀ r, RelV z r → ((storedH xs k c r).map (·.1)).Nodup → Nx (upd H5 D (.ext (DI D (storedH xs k c r)))))
theorem pe_dcT {X : Cx} {kx vx tg iter : Expr} {scope : Scope} {own : List (Str × Nat)} {pos : Pos} {wi : TI} {g : TG} {tk tv : TE} (hu : X.A.units < cLine) (hc : X.calm = true) (hN : X.N.Nodup) (hi : PI X tg iter wi) (ok : BlkOk X.N X.env.scope scope own)
    (hg : ∀ (s : Shared) (H : Hp) (C : Addr) (cl : List (Str × Addr)) (fp : List Addr), PG (X.blk s H scope (compEnvC scope cl C X.env) fp) tg g)
    (hk : ∀ (s : Shared) (H : Hp) (C : Addr) (cl : List (Str × Addr)) (fp : List Addr), PE (X.blk s H scope (compEnvC scope cl C X.env) fp) kx tk)
    (he : ∀ (s : Shared) (H : Hp) (C : Addr) (cl : List (Str × Addr)) (fp : List Addr), PE (X.blk s H scope (compEnvC scope cl C X.env) fp) vx tv) (hs : ∀ x, foldedSetIterable iter X.env x = pure x := by intro _; rfl) :
    PE X (.DictComp kx vx [⟨tg, iter, [], 0⟩] scope pos) (tDcT X.K wi g tk tv (own.map (·.2))) := by
  refine ⟨fun pins s σ H Q I h => ?_⟩
  rw [arm_eval_DictComp]
  have hfree : ∀ y ∈ scope.names, y.2 = .free → ∃ c, X.env.cells.lookup y.1 = some c := fun y hy e => by
    rcases ok.free y hy e with k | k
    · exact I.ok.has _ (.inl k)
    · exact I.ok.has _ (.inr k)
  refine wpAny_comprehension_free rfl hs (closure_ok hfree) ok.kind (fun y hy e => by rw [ok.uniq y hy, e]) (thn (hi.run pins s σ H _ I h) fun xv s1 hx => thn hx fun itv s2 h2 => ?_)
  obtain ⟨it, fp, tn, J, H2, e, I2, T, st2, f2, q⟩ := h2
  subst e
  refine wpAny_newObj_type (newEnv_comp ?_)
  generalize hD : s2.heap.objs.size = D
  have hDn : H2 D = none := I2.hok.fresh (Nat.le_of_eq hD)
  have hDs : (D == sysModules) = false := by
    have := I2.big
    rw [hD] at this
    exact beq_eq_false_iff_ne.mpr (Nat.ne_of_gt this)
  obtain ⟨W, ⟨m0, w0⟩, turn⟩ := q D hDn hDs
  generalize hs3 : ({ s2 with heap := s2.heap.push { cls := .type "dict", data := .dict #[] } } : Shared) = s3
  have I3 : Inv X pins σ (upd H2 D (.ext (DI D []))) s3 := by
    rw [← hs3]
    refine I2.laid (t' := s2.toks) (fun b o e => Heap.get?_push_of_some _ e) (Nat.le_of_eq hD) ?_
    rw [← hD]
    exact ext_new ⟨_, #[], 0, Heap.get?_push_size _ rfl, ⟨rfl, rfl, rfl⟩, rfl, rfl⟩
  have h3 : s3.heap = s2.heap.push { cls := .type "dict", data := .dict #[] } := by rw [← hs3]
  have f3 : ∀ b ∈ fp, FpOk X pins (upd H2 D (.ext (DI D []))) b ∧ b < s3.heap.objs.size := fun b hb => by
    obtain ⟨o, eo, _⟩ := T.obj _ _ st2 b hb
    have hlt := Heap.lt_size eo
    refine ⟨⟨?_, (f2 b hb).2⟩, by rw [h3, Heap.size_push]; exact Nat.lt_succ_of_lt hlt⟩
    rw [upd_ne (by rw [← hD]; exact Nat.ne_of_lt hlt)]
    exact (f2 b hb).1
  have st3 : tn 0 s3.heap := T.keep _ _ _ st2 fun b _ o e => by rw [h3]; exact Heap.get?_push_of_some _ e
  have I4 := block_start I3 ok hN f3
  have pg := hg s3 (upd H2 D (.ext (DI D []))) s3.heap.objs.size (cellsFrom (s3.heap.objs.size + 1) scope.names (cloFrom X.env.cells scope.names [])) fp
  have pk := hk s3 (upd H2 D (.ext (DI D []))) s3.heap.objs.size (cellsFrom (s3.heap.objs.size + 1) scope.names (cloFrom X.env.cells scope.names [])) fp
  have pe := he s3 (upd H2 D (.ext (DI D []))) s3.heap.objs.size (cellsFrom (s3.heap.objs.size + 1) scope.names (cloFrom X.env.cells scope.names [])) fp
  have nfp : ∀ b ∈ fp, (upd H2 D (.ext (DI D []))) b = none := fun b hb => (f3 b hb).1.1
  show codeAny _ _ (.compStart (.DictComp kx vx [⟨tg, iter, [], 0⟩] scope pos) 0 (.ref it) (.ref D) (compEnvC scope (cellsFrom (s3.heap.objs.size + 1) scope.names (cloFrom X.env.cells scope.names [])) s3.heap.objs.size X.env)) _ { s3 with heap := pushCells (s3.heap.push { cls := .type "dict", data := .dict #[] }) scope.names }
  generalize hce : compEnvC scope (cellsFrom (s3.heap.objs.size + 1) scope.names (cloFrom X.env.cells scope.names [])) s3.heap.objs.size X.env = ce at I4 pg pk pe ⊢
  have cL : ce.locals = s3.heap.objs.size := by subst hce; rfl
  generalize hH3 : upd H2 D (.ext (DI D [])) = H3 at I3 I4 pg pk pe w0 nfp f3
  generalize hs4 : ({ s3 with heap := pushCells (s3.heap.push { cls := .type "dict", data := .dict #[] }) scope.names } : Shared) = s4 at I4 ⊢
  have st4 : tn 0 s4.heap := T.keep _ _ _ st3 fun b _ o e => by rw [← hs4]; exact pushCells_keeps _ _ _ _ (Heap.get?_push_of_some _ e)
  have stat : ∀ {σ' : L2.St} {H' : Hp} {s' : Shared}, Inv (X.blk s3 H3 scope ce fp) [] σ' H' s' → (∀ b ∈ fp, H' b = none) → ∀ b ∈ fp, FpOk (X.blk s3 H3 scope ce fp) [] H' b := fun {σ' H' s'} I' hn b hb =>
    ⟨hn b hb, (I'.ok.exf b hb).1, I'.ok.exfs b hb, .inl hb, fun x c e => (I'.ok.exf b hb).2 x c e, fun p hp => absurd (show p ∈ ([] : List (Addr × Obj)) ++ [] from hp) (by simp)⟩
  have loop : codeAny (model X.prog X.w) X.A (.compLoop (.DictComp kx vx [⟨tg, iter, [], 0⟩] scope pos) 0 (.ref it) (.ref D) ce) (compPost (model X.prog X.w) X.A X.xe none (fun v s' => ∃ x H', Inv X pins σ H' s' ∧ RelV x v ∧ Q x H') (.ref D) s3.heap.objs.size) s4 := by
    refine compLoop_anyD (fun n s' => ∃ i H', Inv (X.blk s3 H3 scope ce fp) [] (L2.wipe σ (own.map (·.2))) H' s' ∧ tn i s'.heap ∧ (∀ b ∈ fp, H' b = none) ∧ W i n H') ?_ m0 ⟨0, H3, I4, st4, nfp, w0⟩
    rintro n s5 ⟨i, H5, I5, st5, n5, w5⟩
    rcases turn i n H5 w5 with ⟨stop, qq⟩ | ⟨go, Nx, hNx, step⟩
    · refine thnF (T.done (X.blk s3 H3 scope ce fp) rfl rfl rfl hc i [] s5 _ H5 (fun _ _ => False) I5 (stat I5 n5) st5 stop) fun r s6 ⟨hr, I6⟩ => ?_
      subst hr
      have I7 : Inv X pins σ H5 s6 := I3.call' (ch := fp) I6.os I6.base I6.hok I6.bare fun b hb => ⟨(f3 b hb).1.2.2.2.1, (f3 b hb).1.2.1, (f3 b hb).1.2.2.2.2.1, (f3 b hb).1.2.2.2.2.2⟩
      have nC : H5 s3.heap.objs.size = none := by
        have z : H5 ce.locals = none := I6.free
        rw [cL] at z
        exact z
      obtain ⟨m, hn, _⟩ := I6.loc
      have hn : s6.heap.Ns ce.locals m := hn
      rw [cL] at hn
      obtain ⟨f0, f1, _, f3', f4, f5⟩ := I3.fpOk (Nat.le_refl _) nC
      exact ⟨m, hn, fun h'' sb => ⟨.ref D, H5, I7.turned (t' := s6.toks) (fun b o hb e => (sb.2 b hb).trans e) f0 f1 f3' f4 f5, rfl, qq⟩⟩
    · refine thnF (T.item (X.blk s3 H3 scope ce fp) rfl rfl rfl hc i [] s5 _ H5 (fun _ _ => False) I5 (stat I5 n5) st5 go) fun r s6 ⟨u, hr, h6⟩ => ?_
      subst hr
      refine thnF h6 fun _ s7 ⟨x, H7, I7, r7, y7, st7, n7⟩ => ?_
      refine thnF (pg.run _ s7 _ H7 x u _ (I7.pinned (stat I7 n7) (T.obj _ _ st7)) r7 (step x H7 y7)) fun _ s8 ⟨σ8, H8, I8, hw8, q8⟩ => ?_
      have fin : ∀ {s' : Shared} {H' : Hp}, Inv (X.blk s3 H3 scope ce fp) ([] ++ pinsAt fp s7.heap) σ8 H' s' → Nx H' → ∃ m, m < n ∧ ∃ i H', Inv (X.blk s3 H3 scope ce fp) [] (L2.wipe σ (own.map (·.2))) H' s' ∧ tn i s'.heap ∧ (∀ b ∈ fp, H' b = none) ∧ W i m H' := fun {s' H'} I' nx => by
        obtain ⟨m', hm, w'⟩ := hNx H' nx
        have pin' : ∀ b ∈ fp, ∀ o, s7.heap.get? b = some o → s'.heap.get? b = some o ∧ H' b = none := fun b hb o e =>
          let z := I'.pin (b, o) (List.mem_append_right _ (List.mem_append_right _ (mem_pinsAt hb e)))
          ⟨z.1, z.2.1⟩
        refine ⟨m', hm, i + 1, H', (I'.unpinned (pins := [])).weak (by rw [← hw8, wipe_length]) (fun j v e => ?_), T.keep _ _ _ st7 fun b hb o e => (pin' b hb o e).1, fun b hb => ?_, w'⟩
        · rw [← hw8] at e
          exact (wipe_some e).1
        · obtain ⟨o, e, _⟩ := T.obj _ _ st7 b hb
          exact (pin' b hb o e).2
      refine wpAny_pure ?_
      rw [if_pos rfl]
      refine thnF (pk.run _ s8 σ8 H8 _ I8 q8) fun z s10 ⟨yk, H10, I10, r10, q10⟩ => ?_
      refine thnF (pe.run _ s10 σ8 H10 _ I10 q10) fun z2 s11 ⟨yv, H11, I11, r11, xs, kk, cc, ek, hcc, hD11, hks, hnd, hz11, nx⟩ => ?_
      subst ek
      exact d_putI (X := X.blk s3 H3 scope ce fp) hu I11 hD11 hks hnd hz11 hcc r10 fun s12 I12 nd => fin I12 (nx z2 r11 nd)
  exact codeAny_compStart_dict loop (T.self X.A 0 _ _ _ st4 loop)
def keyD : PyData → Option (List Int)
  | .tuple l => getInts l
  | _ => none
def hasD (kvs : List (List Int × PyData)) (k : List Int) : Bool := kvs.any fun kv => decide (kv.1 = k)
def putD (kvs : List (List Int × PyData)) (k : List Int) (v : PyData) : List (List Int × PyData) := if hasD kvs k = true then kvs.map (fun kv => if kv.1 = k then (kv.1, v) else kv) else kvs ++ [(k, v)]
def dcD (g : PyData → En → Option En) (fk fv : FE) (env : En) : List PyData → List (List Int × PyData) → Option (List (List Int × PyData))
  | [], acc => some acc
  | d :: ds, acc => (g d env).bind fun e1 => (fk e1).bind fun kd => (fv e1).bind fun v => (keyD kd).bind fun k => dcD g fk fv env ds (putD acc k v)
def dDc (fi : FL) (g : PyData → En → Option En) (fk fv : FE) (vs : List Nat) : En → Option (List (List Int × PyData)) := fun env => (fi env).bind fun ds => if ds.length < 100000 then dcD g fk fv (wipeE env vs) ds [] else none
def tD (K : PySem.W.Frag) (f : En → Option (List (List Int × PyData))) : TE := fun σ H Q => ∃ (Z : Hp × Hp) (Hf : Hp) (env : En) (kvs : List (List Int × PyData)), Rel K Z Hf H env σ ∧ f env = some kvs ∧
  ∀ p xs H' Hf', Stp Hf H Hf' H' → H p = none → Hf' p = none → H' p = some (.ext (DI p xs)) → (p == sysModules) = false → DctOk K Hf' xs kvs → Q (.ref p) H'
section
variable {K : PySem.W.Frag} {H Hf : Hp}
theorem ints_all : ∀ {vs : List V} {k : List Int}, DpAll K H vs (k.map .int) → vs = k.map V.int
  | _, [], h => by cases h; rfl
  | _, i :: k, h => by
    cases h with
    | cons a b => rw [a.int_eq, ints_all b]; rfl
theorem key_tup {v : V} {d : PyData} {k : List Int} (h : Dp K H v d) (e : keyD d = some k) : ∃ c, v = .ref c ∧ SqT K H c (k.map V.int) := by
  cases d with
  | tuple l =>
    have e : getInts l = some k := e
    have e2 := getInts_eq e
    subst e2
    cases h with
    | tup hs ha => exact ⟨_, rfl, by rw [← ints_all ha]; exact hs⟩
  | _ => cases e
theorem at_has {k : List Int} : ∀ {xs : List (List Int × Addr × Value)} {kvs : List (List Int × PyData)}, Paired (KeyOk K Hf) xs kvs → (atKey xs k).isSome = hasD kvs k
  | _, _, .nil => rfl
  | x :: xs, kv :: kvs, .cons a b => by
    have ih := at_has (k := k) b
    unfold atKey at ih ⊢
    unfold hasD at ih ⊢
    rw [List.find?_cons, List.any_cons, a.1]
    by_cases e : kv.1 = k
    · simp [e]
    · simp only [decide_eq_false e, Bool.false_or]
      exact ih
theorem put_map {k : List Int} {r : Value} {w : V} {v : PyData} (rw' : RelV w r) (hw : Dp K Hf w v) : ∀ {xs : List (List Int × Addr × Value)} {kvs : List (List Int × PyData)}, Paired (KeyOk K Hf) xs kvs → Paired (KeyOk K Hf) (xs.map (putAt k r)) (kvs.map fun kv => if kv.1 = k then (kv.1, v) else kv)
  | _, _, .nil => .nil
  | x :: xs, kv :: kvs, .cons a b => by
    refine .cons ?_ (put_map rw' hw b)
    obtain ⟨a1, a2, a3⟩ := a
    show KeyOk K Hf (putAt k r x) (if kv.1 = k then (kv.1, v) else kv)
    unfold putAt
    by_cases e : x.1 = k
    · rw [if_pos e, if_pos (a1 ▸ e)]
      exact ⟨a1, a2, w, rw', hw⟩
    · rw [if_neg e, if_neg (a1 ▸ e)]
      exact ⟨a1, a2, a3⟩
theorem pair_app {α β : Type} {F : α → β → Prop} {x : α} {y : β} (h : F x y) : ∀ {l : List α} {m : List β}, Paired F l m → Paired F (l ++ [x]) (m ++ [y])
  | _, _, .nil => .cons h .nil
  | _, _, .cons a b => .cons a (pair_app h b)
theorem put_ok {xs : List (List Int × Addr × Value)} {kvs : List (List Int × PyData)} {k : List Int} {c : Addr} {r : Value} {w : V} {v : PyData} (h : DctOk K Hf xs kvs) (hl : xs.length < 100000) (hc : SqT K Hf c (k.map V.int)) (rw' : RelV w r) (hw : Dp K Hf w v) (nd : ((storedH xs k c r).map (·.1)).Nodup) :
    DctOk K Hf (storedH xs k c r) (putD kvs k v) ∧ (storedH xs k c r).length ≤ xs.length + 1 := by
  have e := at_has (k := k) h.2.2
  cases ha : atKey xs k with
  | none =>
    rw [ha] at e
    have e' : hasD kvs k = false := e.symm
    rw [storedH_new ha] at nd ⊢
    unfold putD
    rw [e', if_neg Bool.false_ne_true]
    exact ⟨⟨nd, by rw [List.length_append]; exact hl, pair_app ⟨rfl, hc, w, rw', hw⟩ h.2.2⟩, by rw [List.length_append]; exact Nat.le_refl _⟩
  | some q =>
    rw [ha] at e
    have e' : hasD kvs k = true := e.symm
    rw [storedH_old ha] at nd ⊢
    unfold putD
    rw [if_pos e']
    exact ⟨⟨nd, by rw [List.length_map]; exact h.2.1, put_map rw' hw h.2.2⟩, by rw [List.length_map]; omega⟩
theorem DctOk.keys {xs : List (List Int × Addr × Value)} {kvs : List (List Int × PyData)} (h : DctOk K Hf xs kvs) (s : Same Hf H) : ∀ x ∈ xs, SqT K H x.2.1 (x.1.map V.int) := by
  have all : ∀ {l : List (List Int × Addr × Value)} {m : List (List Int × PyData)}, Paired (KeyOk K Hf) l m → ∀ x ∈ l, SqT K H x.2.1 (x.1.map V.int) := by
    intro l m q
    induction q with
    | nil => intro x hx; exact nomatch hx
    | cons a b ih =>
      intro x hx
      rcases List.mem_cons.mp hx with e | hx
      · subst e
        exact sqT_up s a.2.1
      · exact ih x hx
  exact all h.2.2
theorem tDcT_of {fi : FL} {g : PyData → En → Option En} {fk fv : FE} {vs sl : List Nat} (hsl : ∀ i ∈ sl, i ∈ vs) {σ : L2.St} {H : Hp} {Q : VK} (w : tD K (dDc fi g fk fv vs) σ H Q) : tDcT K (tI K fi) (tG K false sl g) (tE K fk) (tE K fv) vs σ H Q := by
  obtain ⟨Z, Hf, env, out, R, hf, k⟩ := w
  obtain ⟨ds, hds, hf⟩ := Option_bind_some hf
  split at hf
  · rename_i hlen
    refine ⟨Z, Hf, env, ds, R, hds, fun J H1 Hf1 s1 w D hD hDs => ?_⟩
    have hD0 : H D = none := s1.h.free hD
    have hDf : Hf1 D = none := s1.i.free hD
    have hid := Stp.hid (o := .ext (DI D [])) s1.i hD
    refine ⟨fun i m H' => m = ds.length - i ∧ i ≤ ds.length ∧ ∃ (Hf' : Hp) (xs : List (List Int × Addr × Value)) (acc : List (List Int × PyData)), Stp Hf1 H1 Hf' H' ∧ Hf' D = none ∧ H' D = some (.ext (DI D xs)) ∧ DctOk K Hf' xs acc ∧ xs.length ≤ i ∧ dcD g fk fv (wipeE env vs) (ds.drop i) acc = some out,
      ⟨ds.length, by simp, Nat.zero_le _, Hf1, [], [], hid, hDf, upd_same, ⟨List.nodup_nil, by simp, .nil⟩, Nat.le_refl _, hf⟩, ?_⟩
    rintro i m H' ⟨rfl, hi, Hf', xs, acc, st, h1, h2, h3, hl, h4⟩
    by_cases hlt : i < ds.length
    · refine .inr ⟨w.goes i H' hlt (st.f.trans st.i), fun H'' => ∃ (Hf' : Hp) (xs : List (List Int × Addr × Value)) (acc : List (List Int × PyData)), Stp Hf1 H1 Hf' H'' ∧ Hf' D = none ∧ H'' D = some (.ext (DI D xs)) ∧ DctOk K Hf' xs acc ∧ xs.length ≤ i + 1 ∧ dcD g fk fv (wipeE env vs) (ds.drop (i + 1)) acc = some out,
        fun H'' q => ⟨ds.length - (i + 1), by omega, rfl, hlt, q⟩, fun x H2 y => ?_⟩
      have y := w.yields i H' x H2 hlt (st.f.trans st.i) y
      obtain ⟨d, hd, hdr⟩ := drop_get hlt
      rw [hdr] at h4
      obtain ⟨e1, hg1, h4⟩ := Option_bind_some h4
      obtain ⟨kd, hk1, h4⟩ := Option_bind_some h4
      obtain ⟨vd, hv1, h4⟩ := Option_bind_some h4
      obtain ⟨kk, hkk, h4⟩ := Option_bind_some h4
      have R1 : Rel K Z Hf' H' (wipeE env vs) (L2.wipe σ vs) := ((R.step s1).wipe vs).step st
      obtain ⟨Hf2, st2, hx⟩ := yd_item y hd R1 st.f
      refine ⟨Z, Hf2, wipeE env vs, d, e1, R1.step st2, hx, hg1, fun σ3 H3 Hf3 s3 R3 pt ln mm => ?_⟩
      obtain ⟨rfl, rfl⟩ := mm rfl
      have hw : L2.wipe σ3 vs = L2.wipe σ vs := by
        rw [← wipe_wipe σ vs]
        exact wipe_same (ln.trans rfl) fun i hi => pt i fun q => hi (hsl i q)
      refine ⟨hw, Z, Hf3, e1, kd, R3, hk1, fun yv H4 Hf4 s4 d4 => ⟨Z, Hf4, e1, vd, R3.step s4, hv1, fun zv H5 Hf5 s5 d5 => ?_⟩⟩
      obtain ⟨c, rfl, hc⟩ := key_tup (Dp_up s5.f d4) hkk
      have st5 := ((st.trans st2).trans s4).trans s5
      have up : Same Hf' Hf5 := st2.f.trans (s4.f.trans s5.f)
      have g1 : Hf5 D = none := s5.n D _ (s4.h D _ (st2.h D _ h2)) (s4.n D _ (st2.h D _ h2) (st2.n D _ h2 h1))
      have g2 : H5 D = some (.ext (DI D xs)) := s5.h D _ (s4.h D _ (st2.h D _ h2))
      have h3' := h3.up up
      have hxl : xs.length < 100000 := by omega
      refine ⟨xs, kk, c, rfl, sqT_up s5.i hc, g2, h3'.keys s5.i, h3.1, Nat.lt_of_lt_of_le hxl (by decide : 100000 ≤ sizeLine), fun r hr nd => ?_⟩
      obtain ⟨q1, q2⟩ := put_ok h3' hxl hc hr d5 nd
      refine ⟨Hf5, _, _, ⟨st5.f, fun b o e => ?_, fun b o e => ?_, st5.n⟩, g1, upd_same, q1, by omega, h4⟩
      · rw [upd_ne (ne_of_none e g1)]
        exact st5.i b o e
      · rw [upd_ne (ne_of_none e hD)]
        exact st5.h b o e
    · have e : i = ds.length := by omega
      subst e
      rw [List.drop_of_length_le (Nat.le_refl _)] at h4
      cases h4
      exact .inl ⟨w.stops H' (st.f.trans st.i), k D xs H' Hf' (s1.trans st) hD0 h1 h2 hDs h3⟩
  · cases hf
end
/-- a new dict is stored -/
theorem Rel.setDct {K : PySem.W.Frag} {Z : Hp × Hp} {Hf H Hf' H' : Hp} {env : En} {σ : L2.St} {p : Addr} {xs : List (List Int × Addr × Value)} {kvs : List (List Int × PyData)} (R : Rel K Z Hf H env σ) (s : Stp Hf H Hf' H') (i : Nat) (h0 : H p = none) (h1 : Hf' p = none) (h2 : H' p = some (.ext (DI p xs))) (hm : (p == sysModules) = false) (h3 : DctOk K Hf' xs kvs) :
    Rel K Z Hf' H' (env.set i (some (.dct kvs))) (σ.set i (some (.ref p))) := by
  have R' := R.step s
  have hz : Z.2 p = none := R.st.h.free h0
  refine ⟨R'.st, by rw [List.length_set, List.length_set, R.len], fun j t e => ?_, fun j k x y q ej ek hj hk => ?_⟩
  · rcases set_cases e with ⟨rfl, z⟩ | ⟨hn, z⟩
    · cases z
      have hl := set_some_lt e
      exact ⟨.ref p, List.getElem?_set_self (by rw [← R.len]; exact hl), p, xs, rfl, hz, h1, h2, hm, h3⟩
    · obtain ⟨w, g1, g2⟩ := R'.sl j t z
      exact ⟨w, by rw [List.getElem?_set_ne hn]; exact g1, g2⟩
  · rcases set_cases ej with ⟨rfl, z⟩ | ⟨hn, z⟩
    · cases z
    · rcases set_cases ek with ⟨rfl, z2⟩ | ⟨hn2, z2⟩
      · cases z2
      · rw [List.getElem?_set_ne hn] at hj
        rw [List.getElem?_set_ne hn2] at hk
        exact R.ds j k x y q z z2 hj hk
def sDct (i : Nat) (f : En → Option (List (List Int × PyData))) : FS := fun env => (f env).map fun kvs => .next (env.set i (some (.dct kvs)))
section
variable {X : Cx} {e : Expr} {pos : Pos}
theorem s_dct (i : Nat) {x : Str} {pos' : Pos} {f : En → Option (List (List Int × PyData))} (hN : X.N.Nodup) (he : PE X e (tD X.K f)) (hi : X.N[i]? = some x := by rfl) (hx : Loc X.env.scope x := by first | exact Or.inl rfl | exact Or.inr rfl) (hs : swapsWith e (some (.Name x pos')) pos.line X.env = pure false := by rfl) (hf : X.fn x = true ∨ X.env.scope.names.lookup x = some .local := by first | exact .inl rfl | exact .inr rfl | assumption) :
    PS X (.Assign [.Name x pos'] e pos) (tS X.K (sDct i f)) := ps_le (ps_set hN hi hx he hs hf) fun D σ H ⟨Z, Hf, env, o, R, hf, k⟩ => by
  obtain ⟨d, hd, rfl⟩ := Option.map_eq_some_iff.mp hf
  exact ⟨Z, Hf, env, d, R, hd, fun p xs H1 Hf1 s1 h0 h1 h2 hm d1 => k _ H1 Hf1 s1.f (R.setDct s1 i h0 h1 h2 hm d1)⟩
variable {kx vx tg iter : Expr} {scope : Scope} {own : List (Str × Nat)} {fi : FL} {g : PyData → En → Option En} {fk fv : FE} {sl vs : List Nat}
theorem x_dc (hu : X.A.units < cLine) (hc : X.calm = true) (hN : X.N.Nodup) (hi : PI X tg iter (tI X.K fi)) (ok : BlkOk X.N X.env.scope scope own)
    (hg : ∀ (s : Shared) (H : Hp) (C : Addr) (cl : List (Str × Addr)) (fp : List Addr), PG (X.blk s H scope (compEnvC scope cl C X.env) fp) tg (tG X.K false sl g))
    (hk : ∀ (s : Shared) (H : Hp) (C : Addr) (cl : List (Str × Addr)) (fp : List Addr), PE (X.blk s H scope (compEnvC scope cl C X.env) fp) kx (tE X.K fk))
    (he : ∀ (s : Shared) (H : Hp) (C : Addr) (cl : List (Str × Addr)) (fp : List Addr), PE (X.blk s H scope (compEnvC scope cl C X.env) fp) vx (tE X.K fv)) (hvs : own.map (·.2) = vs := by rfl) (hsl : ∀ i ∈ sl, i ∈ vs := by decide) (hs : ∀ x, foldedSetIterable iter X.env x = pure x := by intro _; rfl) :
    PE X (.DictComp kx vx [⟨tg, iter, [], 0⟩] scope pos) (tD X.K (dDc fi g fk fv vs)) := by
  subst hvs
  exact pe_le (pe_dcT hu hc hN hi ok hg hk he hs) fun _ _ _ w => tDcT_of hsl w
/-- y in d -/
def dctIn (i : Nat) (f : FE) : FE := fun env => match env[i]? with
  | some (some (.dct kvs)) => (f env).bind fun y => (keyD y).bind fun k => some (.bool (hasD kvs k))
  | _ => none
def rInI (K : PySem.W.Frag) : R2 := fun x y H Q => ∃ c p xs k, x = .ref c ∧ y = .ref p ∧ SqT K H c (k.map V.int) ∧ H p = some (.ext (DI p xs)) ∧ (p == sysModules) = false ∧ (∀ x ∈ xs, SqT K H x.2.1 (x.1.map V.int)) ∧ (xs.map (·.1)).Nodup ∧ Q (.bl (atKey xs k).isSome) H
theorem op_inI (hu : X.A.units + 1 < cLine) : OpR X (compareOp .In) (rInI X.K) := by
  intro pins s σ H x y v u Q I rx ry h
  obtain ⟨c, p, xs, k, rfl, rfl, hc, hp, hm, hk, hn, q⟩ := h
  cases (show u = Value.ref p from ry)
  exact d_inI hu I hp hm hk hn hc rx fun s' I' => ⟨.bl _, _, I', rfl, q⟩
theorem x_dctIn (i : Nat) {x : Str} {p : Pos} {f : FE} (hu : X.A.units + 1 < cLine) (hb : PE X e (tE X.K f)) (hm : behindInMarks .In (.Name x p) = false) (hN : X.N[i]? = some x := by rfl) (hv : Vis X.env.scope x := by first | exact Or.inl rfl | exact Or.inr (Or.inl rfl) | exact Or.inr (Or.inr rfl)) (hd : (x == ("__debug__" : Str)) = false := by decide)
    (hcd : (x == ("__classdict__" : Str)) = false := by decide) : PE X (.Compare e [.In] [.Name x p] pos) (tE X.K (dctIn i f)) := pe_le (pe_cmpR (op_inI hu) hb (pe_var hN hv hd hcd) hm) fun σ H Q ⟨Z, Hf, env, d, R, hf, k⟩ => by
  unfold dctIn at hf
  split at hf
  · rename_i l hl
    obtain ⟨y, hy, hf⟩ := Option_bind_some hf
    obtain ⟨kk, hkk, hf⟩ := Option_bind_some hf
    cases hf
    refine ⟨Z, Hf, env, _, R, hy, fun v H1 Hf1 s1 d1 => ?_⟩
    obtain ⟨w, hs, p, xs, rfl, hz, hfp, hp, hm, ha⟩ := (R.step s1).sl i _ hl
    obtain ⟨c, rfl, hc⟩ := key_tup d1 hkk
    refine ⟨.ref p, hs, c, p, xs, kk, rfl, rfl, sqT_up s1.i hc, hp, hm, ha.keys s1.i, ha.1, ?_⟩
    rw [at_has ha.2.2]
    exact k _ _ _ s1 (.bl _)
  · cases hf
end
theorem u0 {k : Nat} {A : Around} (r : Room k A) : A.units < cLine := by have := r.un; omega
theorem u1 {k : Nat} {A : Around} (r : Room k A) : A.units + 1 < cLine := by have := r.un; omega
/-- x, y = [..], [..] : two new lists -/
def sOwn2 (i j : Nat) (la lb : FL) : FS := fun env => (la env).bind fun xs => (lb env).bind fun ys => some (.next ((env.set i (some (.own xs))).set j (some (.own ys))))
theorem s_own2 (i j : Nat) {X : Cx} {x y : Str} {a b : Expr} {px py pt pos : Pos} {kt k2 pt2} {la lb : FL} (hc : X.calm = true) (hN : X.N.Nodup) (ha : PE X a (tL X.K la)) (hb : PE X b (tL X.K lb)) (hi : X.N[i]? = some x := by rfl) (hj : X.N[j]? = some y := by rfl)
    (hx : Loc X.env.scope x := by first | exact Or.inl rfl | exact Or.inr rfl) (hf : X.fn x = true ∨ X.env.scope.names.lookup x = some .local := by first | exact .inl rfl | exact .inr rfl | assumption)
    (hy : Loc X.env.scope y := by first | exact Or.inl rfl | exact Or.inr rfl) (hf2 : X.fn y = true ∨ X.env.scope.names.lookup y = some .local := by first | exact .inl rfl | exact .inr rfl | assumption)
    (na : starEach [a, b] X.env = (false, eval a X.env) :: starEach [b] X.env := by rfl) (nb : starEach [b] X.env = (false, eval b X.env) :: starEach [] X.env := by rfl)
    (hs : swapsWithSole [.Tuple [.Name x px, .Name y py] kt pt] (.Tuple [a, b] k2 pt2) pos.line X.env = pure false := by rfl) (hw : swappedStores [.Tuple [.Name x px, .Name y py] kt pt] (.Tuple [a, b] k2 pt2) X.env = pure none := by rfl) :
    PS X (.Assign [.Tuple [.Name x px, .Name y py] kt pt] (.Tuple [a, b] k2 pt2) pos) (tS X.K (sOwn2 i j la lb)) := by
  refine ps_le (ps_asg (pe_tup (pa_cons ha (pa_cons hb pa_nil nb) na)) (pg_tup hc (pgs_cons (pg_name hN hi hx hf) (pgs_cons (pg_name hN hj hy hf2) pgs_nil))) hs hw) fun D σ H ⟨Z, Hf, env, o, R, hf, k⟩ => ?_
  obtain ⟨xs, hxs, hf⟩ := Option_bind_some hf
  obtain ⟨ys, hys, hf⟩ := Option_bind_some hf
  cases hf
  refine ⟨Z, Hf, env, xs, R, hxs, fun p vs H1 Hf1 s1 h0 h1 h2 d1 => ⟨Z, Hf1, env, ys, R.step s1, hys, fun q us H2 Hf2 s2 g0 g1 g2 d2 => ⟨by show (2 : Nat) ≤ sizeLine; decide, fun r hr => ⟨r, [.ref p, .ref q], rfl, SqT.of upd_same, rfl, .ref p, [.ref q], rfl, .ref q, [], rfl, rfl, ?_⟩⟩⟩⟩
  exact k _ _ Hf2 (s1.f.trans s2.f) (((R.setOwn s1 i h0 h1 h2 d1).setOwn s2 j g0 g1 g2 d2).step (Stp.hid s2.i hr))
end Fi

namespace Fi
open PySem PySem.Spec PyProof.Rows L2
section
variable {X : Cx} {pins : List (Addr × Obj)} {σ : L2.St} {H : Hp} {s : Shared} {p c : Addr} {xs : List (List Int × Addr × Value)} {k : List Int} {E : Value → Shared → Prop}
theorem d_notInI {u : Value} {Q : Value → Shared → Prop} (hu : X.A.units + 1 < cLine) (I : Inv X pins σ H s) (hD : H p = some (.ext (DI p xs))) (hp : (p == sysModules) = false) (hk : ∀ x ∈ xs, SqT X.K H x.2.1 (x.1.map V.int)) (hn : (xs.map (·.1)).Nodup) (hc : SqT X.K H c (k.map V.int)) (ru : RelV (.ref c) u)
    (h : ∀ s', Inv X pins σ H s' → Q (.bool (!(atKey xs k).isSome)) s') : wpAny (model X.prog X.w) X.A (compareOp .NotIn u (.ref p)) Q E s := by
  cases (show u = Value.ref c from ru)
  exact wpAny_notIn_heap (tupleKind_room_in1 hu) (key_is I hc) hp (dI_of I hD hk hn) (h _ (I.tok _))
theorem d_setI {r u : Value} {Q : Unit → Shared → Prop} (hu : X.A.units + 1 < cLine) (I : Inv X pins σ H s) (hD : H p = some (.ext (DI p xs))) (hk : ∀ x ∈ xs, SqT X.K H x.2.1 (x.1.map V.int)) (hn : (xs.map (·.1)).Nodup) (hz : xs.length < sizeLine) (hc : SqT X.K H c (k.map V.int)) (ru : RelV (.ref c) u)
    (h : ∀ s', Inv X pins σ (upd H p (.ext (DI p (storedH xs k c r)))) s' → ((storedH xs k c r).map (·.1)).Nodup → Q () s') : wpAny (model X.prog X.w) X.A (setItem (.ref p) u r) Q E s := by
  cases (show u = Value.ref c from ru)
  refine wpAny_setItem_heap (knd := tupleKind (intKind X.prog X.w)) (hsz := Nat.le_of_lt hz) (tupleKind_room_in1 hu) (key_is I hc) (dI_of I hD hk hn) fun h' dd' hs => ?_
  obtain ⟨o, es, ep, g1, g2, g3, g4, _, g5⟩ := dd'
  exact h _ (d_write I (by rw [hD]; exact True.intro) hs ⟨o, g1⟩ (ext_new ⟨o, es, ep, g1, g2, g3, g4⟩)) g5
theorem d_getI {u : Value} {q : Addr × Value} {Q : Value → Shared → Prop} (hu : X.A.units + 1 < cLine) (I : Inv X pins σ H s) (hD : H p = some (.ext (DI p xs))) (hk : ∀ x ∈ xs, SqT X.K H x.2.1 (x.1.map V.int)) (hn : (xs.map (·.1)).Nodup) (hc : SqT X.K H c (k.map V.int)) (ru : RelV (.ref c) u) (hq : atKey xs k = some q)
    (h : ∀ s', Inv X pins σ H s' → Q q.2 s') : wpAny (model X.prog X.w) X.A (getItem (.ref p) u) Q E s := by
  cases (show u = Value.ref c from ru)
  exact wpAny_getItem_heap (tupleKind_room_in1 hu) (key_is I hc) (dI_of I hD hk hn) hq (h _ (I.tok _))
end
def tDisp1 (K : PySem.W.Frag) (tk tv : TE) : TE := fun σ H Q => ∀ p, H p = none → (p == sysModules) = false → tk σ (upd H p (.ext (DI p []))) fun y H1 => tv σ H1 fun z H2 => H2 p = some (.ext (DI p [])) ∧ ∃ k c, y = .ref c ∧ SqT K H2 c (k.map V.int) ∧
  ∀ r, RelV z r → Q (.ref p) (upd H2 p (.ext (DI p (storedH [] k c r))))
theorem pe_disp1 {X : Cx} {kx vx : Expr} {pos : Pos} {tk tv : TE} (hu : X.A.units < cLine) (hk : PE X kx tk) (hv : PE X vx tv) : PE X (.Dict [some kx] [vx] pos) (tDisp1 X.K tk tv) := by
  refine ⟨fun pins s σ H Q I q => ?_⟩
  have hn := I.hok.fresh (Nat.le_refl s.heap.objs.size)
  have hs : (s.heap.objs.size == sysModules) = false := beq_eq_false_iff_ne.mpr (Nat.ne_of_gt I.big)
  have I1 := I.laid (a := s.heap.objs.size) (o := .ext (DI s.heap.objs.size [])) (h' := s.heap.push { cls := .type "dict", data := .dict #[] }) (t' := s.toks) (fun _ _ q => Heap.get?_push_of_some _ q) (Nat.le_refl _) (ext_new ⟨_, #[], 0, Heap.get?_push_size _ rfl, ⟨rfl, rfl, rfl⟩, rfl, rfl⟩)
  refine wpAny_Dict_any rfl rfl (by simp) (by show 1 ≤ 15; decide) (pairTrees_cons_walk (thn (hk.run pins _ σ _ _ I1 (q _ hn hs)) fun u s1 ⟨y, H1, I1', ry, q1⟩ => thn (hv.run pins s1 σ H1 _ I1' q1) fun u2 s2 ⟨z, H2, I2, rz, e, kk, c, ey, hc, q2⟩ => pairTrees_nil_walk ?_))
  subst ey
  unfold storeAll
  rw [List.forIn_cons]
  refine wpAny_bind (wpAny_bind (d_putI hu I2 e (fun x hx => nomatch hx) List.nodup_nil (by decide) hc ry fun s3 I3 _ => wpAny_pure ?_))
  simp only [List.forIn_nil]
  exact wpAny_pure ⟨.ref _, _, I3, rfl, q2 u2 rz⟩
def dDisp1 (fk fv : FE) : En → Option (List (List Int × PyData)) := fun env => (fk env).bind fun kd => (fv env).bind fun v => (keyD kd).bind fun k => some [(k, v)]
section
variable {X : Cx} {kx vx e : Expr} {pos : Pos} {fk fv f h g : FE}
theorem d_disp1 (hu : X.A.units < cLine) (hk : PE X kx (tE X.K fk)) (hv : PE X vx (tE X.K fv)) : PE X (.Dict [some kx] [vx] pos) (tD X.K (dDisp1 fk fv)) := pe_le (pe_disp1 hu hk hv) fun σ H Q ⟨Z, Hf, env, kvs, R, hf, k⟩ => by
  obtain ⟨kd, hkd, hf⟩ := Option_bind_some hf
  obtain ⟨v, hvv, hf⟩ := Option_bind_some hf
  obtain ⟨kk, hkk, hf⟩ := Option_bind_some hf
  cases hf
  intro p hp hs
  have s0 := Stp.hid (o := .ext (DI p [])) R.st.i hp
  refine ⟨Z, Hf, env, kd, R.step s0, hkd, fun y H1 Hf1 s1 d1 => ⟨Z, Hf1, env, v, (R.step s0).step s1, hvv, fun z H2 Hf2 s2 d2 => ?_⟩⟩
  have st := (s0.trans s1).trans s2
  have hH : H2 p = some (.ext (DI p [])) := s2.h p _ (s1.h p _ upd_same)
  have hF : Hf2 p = none := s2.n p _ (s1.h p _ upd_same) (s1.n p _ upd_same (R.st.i.free hp))
  obtain ⟨c, rfl, hc⟩ := key_tup (Dp_up s2.f d1) hkk
  refine ⟨hH, kk, c, rfl, sqT_up s2.i hc, fun r hr => ?_⟩
  refine k p _ _ Hf2 ⟨st.f, fun b o q => ?_, fun b o q => ?_, st.n⟩ hp hF upd_same hs ⟨?_, ?_, ?_⟩
  · rw [upd_ne (ne_of_none q hF)]
    exact st.i b o q
  · rw [upd_ne (ne_of_none q hp)]
    exact st.h b o q
  · rw [storedH_new rfl]
    exact List.pairwise_singleton _ _
  · rw [storedH_new rfl]
    show 1 ≤ 100000
    decide
  · rw [storedH_new rfl]
    exact .cons ⟨rfl, hc, z, hr, d2⟩ .nil
def noD (env : En) : Bool := env.all fun s => match s with
  | some (.dct _) => false
  | _ => true
theorem noD_at {env : En} (h : noD env = true) {j : Nat} {m : List (List Int × PyData)} (e : env[j]? = some (some (.dct m))) : False := by
  have := List.all_eq_true.mp h _ (List.mem_of_getElem? e)
  cases this
theorem Rel.mutD {K : PySem.W.Frag} {Z : Hp × Hp} {Hf H : Hp} {env : En} {σ : L2.St} {i : Nat} {l l' : List (List Int × PyData)} {p : Addr} {xs' : List (List Int × Addr × Value)} (R : Rel K Z Hf H env σ) (he : env[i]? = some (some (.dct l))) (hs : σ[i]? = some (some (.ref p))) (hn : noD (env.set i none) = true) (h3 : DctOk K Hf xs' l') :
    Rel K Z Hf (upd H p (.ext (DI p xs'))) (env.set i (some (.dct l'))) σ := by
  obtain ⟨v, g1, q, vs, rfl, hz, hf, hp, hm, hd⟩ := R.sl i _ he
  rw [hs] at g1
  cases g1
  refine ⟨⟨R.st.f, fun b o e => ?_, fun b o e => ?_, R.st.n⟩, by rw [List.length_set, R.len], fun j t e => ?_, fun j k x y q ej ek hj hk => ?_⟩
  · rw [upd_ne (ne_of_none e hf)]
    exact R.st.i b o e
  · rw [upd_ne (ne_of_none e hz)]
    exact R.st.h b o e
  · rcases set_cases e with ⟨rfl, z⟩ | ⟨hne, z⟩
    · cases z
      exact ⟨.ref p, hs, p, xs', rfl, hz, hf, upd_same, hm, h3⟩
    · obtain ⟨w, g1, g2⟩ := R.sl j t z
      refine ⟨w, g1, ?_⟩
      cases t with
      | val d => exact g2
      | own m =>
        obtain ⟨r, ws, rfl, a, b, c, d⟩ := g2
        exact ⟨r, ws, rfl, a, b, by rw [upd_ne (ne_of c hp (fun z => nomatch z))]; exact c, d⟩
      | dct m => exact (noD_at hn (j := j) (m := m) (by rw [List.getElem?_set_ne hne]; exact z)).elim
  · rcases set_cases ej with ⟨rfl, z⟩ | ⟨hn, z⟩
    · cases z
    · rcases set_cases ek with ⟨rfl, z2⟩ | ⟨hn2, z2⟩
      · cases z2
      · exact R.ds j k x y q z z2 hj hk
def sDPutI (K : PySem.W.Frag) (td ty tv : TE) : TS := fun D σ H => tv σ H fun v H1 => td σ H1 fun x H2 => ty σ H2 fun y H3 => ∃ p xs k c, x = .ref p ∧ y = .ref c ∧ SqT K H3 c (k.map V.int) ∧ H3 p = some (.ext (DI p xs)) ∧ (∀ x ∈ xs, SqT K H3 x.2.1 (x.1.map V.int)) ∧ (xs.map (·.1)).Nodup ∧ xs.length < sizeLine ∧
  ∀ r, RelV v r → ((storedH xs k c r).map (·.1)).Nodup → D.nx σ (upd H3 p (.ext (DI p (storedH xs k c r))))
theorem ps_dputI {o i value : Expr} {pos' : Pos} {td ty tv : TE} (hu : X.A.units + 1 < cLine) (ho : PE X o td) (hi : PE X i ty) (hv : PE X value tv) (hs : swapsWith value (some (.Subscript o i pos')) pos.line X.env = pure false) :
    PS X (.Assign [.Subscript o i pos'] value pos) (sDPutI X.K td ty tv) := by
  refine ⟨fun pins s σ H D I h => ?_⟩
  refine wpAny_Assign_Subscript (thn (hv.run pins s σ H _ I h) fun r s1 ⟨v, H1, I1, rv, q1⟩ => thn (ho.run pins s1 σ H1 _ I1 q1) fun u s2 ⟨x, H2, I2, rx, q2⟩ => thn (hi.run pins s2 σ H2 _ I2 q2) fun iv s3 ⟨y, H3, I3, ry, p, xs, k, c, ex, ey, hc, hD, hk, hn, hz, q3⟩ => ?_) hs
  subst ex ey
  obtain rfl : u = Value.ref p := rx
  exact d_setI hu I3 hD hk hn hz hc ry fun s4 I4 nd => ⟨σ, _, I4, q3 r rv nd⟩
def sDPut (i : Nat) (f g : FE) : FS := fun env => match env[i]? with
  | some (some (.dct kvs)) => (g env).bind fun v => (f env).bind fun kd => (keyD kd).bind fun k => if kvs.length < 100000 ∧ noD (env.set i none) = true then some (.next (env.set i (some (.dct (putD kvs k v))))) else none
  | _ => none
theorem s_dput (i : Nat) {x : Str} {p pos' : Pos} (hu : X.A.units + 1 < cLine) (hk : PE X kx (tE X.K f)) (hv : PE X vx (tE X.K g)) (hN : X.N[i]? = some x := by rfl) (hvis : Vis X.env.scope x := by first | exact Or.inl rfl | exact Or.inr (Or.inl rfl) | exact Or.inr (Or.inr rfl)) (hd : (x == ("__debug__" : Str)) = false := by decide)
    (hcd : (x == ("__classdict__" : Str)) = false := by decide) (hs : swapsWith vx (some (.Subscript (.Name x p) kx pos')) pos.line X.env = pure false := by rfl) :
    PS X (.Assign [.Subscript (.Name x p) kx pos'] vx pos) (tS X.K (sDPut i f g)) := ps_le (ps_dputI hu (pe_var hN hvis hd hcd) hk hv hs) fun D σ H ⟨Z, Hf, env, o, R, hf, k⟩ => by
  unfold sDPut at hf
  split at hf
  · rename_i kvs hl
    obtain ⟨v, hv, hf⟩ := Option_bind_some hf
    obtain ⟨kd, hkd, hf⟩ := Option_bind_some hf
    obtain ⟨kk, hkk, hf⟩ := Option_bind_some hf
    split at hf
    · rename_i hc
      cases hf
      refine ⟨Z, Hf, env, v, R, hv, fun w H1 Hf1 s1 d1 => ?_⟩
      obtain ⟨_, hs1, q, xs0, rfl, _⟩ := (R.step s1).sl i _ hl
      refine ⟨.ref q, hs1, Z, Hf1, env, kd, R.step s1, hkd, fun y H2 Hf2 s2 d2 => ?_⟩
      have R2 := (R.step s1).step s2
      obtain ⟨_, hs2, q2, xs, rfl, hz, hfp, hp, hm, ha⟩ := R2.sl i _ hl
      rw [hs1] at hs2
      cases hs2
      obtain ⟨c, rfl, hcc⟩ := key_tup d2 hkk
      have hxl : xs.length < 100000 := by rw [Paired.length ha.2.2]; exact hc.1
      refine ⟨q, xs, kk, c, rfl, rfl, sqT_up s2.i hcc, hp, ha.keys s2.i, ha.1, Nat.lt_of_lt_of_le hxl (by decide : 100000 ≤ sizeLine), fun r hr nd => ?_⟩
      obtain ⟨q1, _⟩ := put_ok ha hxl hcc hr (Dp_up s2.f d1) nd
      exact k _ _ Hf2 (s1.f.trans s2.f) (R2.mutD hl hs1 hc.2 q1)
    · cases hf
  · cases hf
def dctNotIn (i : Nat) (f : FE) : FE := fun env => match env[i]? with
  | some (some (.dct kvs)) => (f env).bind fun y => (keyD y).bind fun k => some (.bool (!hasD kvs k))
  | _ => none
def rNotInI (K : PySem.W.Frag) : R2 := fun x y H Q => ∃ c p xs k, x = .ref c ∧ y = .ref p ∧ SqT K H c (k.map V.int) ∧ H p = some (.ext (DI p xs)) ∧ (p == sysModules) = false ∧ (∀ x ∈ xs, SqT K H x.2.1 (x.1.map V.int)) ∧ (xs.map (·.1)).Nodup ∧ Q (.bl (!(atKey xs k).isSome)) H
theorem op_notInI (hu : X.A.units + 1 < cLine) : OpR X (compareOp .NotIn) (rNotInI X.K) := by
  intro pins s σ H x y v u Q I rx ry h
  obtain ⟨c, p, xs, k, rfl, rfl, hc, hp, hm, hk, hn, q⟩ := h
  cases (show u = Value.ref p from ry)
  exact d_notInI hu I hp hm hk hn hc rx fun s' I' => ⟨.bl _, _, I', rfl, q⟩
theorem t_dctNotIn (i : Nat) {x : Str} {p : Pos} (hu : X.A.units + 1 < cLine) (hb : PE X e (tE X.K f)) (hm : behindInMarks .NotIn (.Name x p) = false) (hN : X.N[i]? = some x := by rfl) (hv : Vis X.env.scope x := by first | exact Or.inl rfl | exact Or.inr (Or.inl rfl) | exact Or.inr (Or.inr rfl)) (hd : (x == ("__debug__" : Str)) = false := by decide)
    (hcd : (x == ("__classdict__" : Str)) = false := by decide) : PT X (.Compare e [.NotIn] [.Name x p] pos) (tT X.K (asB (dctNotIn i f))) := pt_le (pt_cmpR (op_notInI hu) hb (pe_var hN hv hd hcd) hm) fun σ H Q ⟨Z, Hf, env, d, R, hf, k⟩ => by
  have hf := asB_some hf
  unfold dctNotIn at hf
  split at hf
  · rename_i l hl
    obtain ⟨y, hy, hf⟩ := Option_bind_some hf
    obtain ⟨kk, hkk, hf⟩ := Option_bind_some hf
    cases hf
    refine ⟨Z, Hf, env, _, R, hy, fun v H1 Hf1 s1 d1 => ?_⟩
    obtain ⟨w, hs, p, xs, rfl, hz, hfp, hp, hm, ha⟩ := (R.step s1).sl i _ hl
    obtain ⟨c, rfl, hc⟩ := key_tup d1 hkk
    refine ⟨.ref p, hs, c, p, xs, kk, rfl, rfl, sqT_up s1.i hc, hp, hm, ha.keys s1.i, ha.1, ?_⟩
    rw [at_has ha.2.2]
    exact ⟨_, rfl, k _ _ s1⟩
  · cases hf
def getDct (kvs : List (List Int × PyData)) (k : List Int) : Option PyData := (kvs.find? fun kv => decide (kv.1 = k)).map (·.2)
theorem at_getD {K : PySem.W.Frag} {Hf : Hp} {k : List Int} {d : PyData} : ∀ {xs : List (List Int × Addr × Value)} {kvs : List (List Int × PyData)}, Paired (KeyOk K Hf) xs kvs → getDct kvs k = some d → ∃ q, atKey xs k = some q ∧ ∃ w, RelV w q.2 ∧ Dp K Hf w d
  | _, _, .nil, h => by cases h
  | x :: xs, kv :: kvs, .cons a b, h => by
    unfold getDct at h
    unfold atKey
    rw [List.find?_cons] at h ⊢
    rw [a.1]
    by_cases e : kv.1 = k
    · rw [decide_eq_true e] at h ⊢
      cases h
      exact ⟨x.2, rfl, a.2.2⟩
    · rw [decide_eq_false e] at h ⊢
      exact at_getD b h
def dctIx (i : Nat) (f : FE) : FE := fun env => match env[i]? with
  | some (some (.dct kvs)) => (f env).bind fun y => (keyD y).bind fun k => getDct kvs k
  | _ => none
def tDGetI (K : PySem.W.Frag) (td ty : TE) : TE := fun σ H Q => td σ H fun x H1 => ty σ H1 fun y H2 => ∃ p xs k c q w, x = .ref p ∧ y = .ref c ∧ SqT K H2 c (k.map V.int) ∧ H2 p = some (.ext (DI p xs)) ∧ (∀ x ∈ xs, SqT K H2 x.2.1 (x.1.map V.int)) ∧ (xs.map (·.1)).Nodup ∧ atKey xs k = some q ∧ RelV w q.2 ∧ Q w H2
theorem pe_dgetI {o i : Expr} {td ty : TE} (hu : X.A.units + 1 < cLine) (ho : PE X o td) (hi : PE X i ty) (hs : NoSl i) : PE X (.Subscript o i pos) (tDGetI X.K td ty) := by
  refine ⟨fun pins s σ H Q I h => ?_⟩
  refine subD_of PySem.F.slot_dict_getitem.lookup hs (thn (ho.run pins s σ H _ I h) fun u s1 ⟨x, H1, I1, rx, q1⟩ => thn (hi.run pins s1 σ H1 _ I1 q1) fun iv s2 ⟨y, H2, I2, ry, p, xs, k, c, q, w, ex, ey, hc, hD, hk, hn, hq, rw', q2⟩ => ?_)
  subst ex ey
  obtain rfl : u = Value.ref p := rx
  exact ⟨(dI_of I2 hD hk hn).typeIs, d_getI hu I2 hD hk hn hc ry hq fun s3 I3 => ⟨w, H2, I3, rw', q2⟩⟩
theorem x_dctIx (i : Nat) {x : Str} {p : Pos} (hu : X.A.units + 1 < cLine) (hb : PE X e (tE X.K f)) (hs : NoSl e) (hN : X.N[i]? = some x := by rfl) (hv : Vis X.env.scope x := by first | exact Or.inl rfl | exact Or.inr (Or.inl rfl) | exact Or.inr (Or.inr rfl)) (hd : (x == ("__debug__" : Str)) = false := by decide)
    (hcd : (x == ("__classdict__" : Str)) = false := by decide) : PE X (.Subscript (.Name x p) e pos) (tE X.K (dctIx i f)) := pe_le (pe_dgetI hu (pe_var hN hv hd hcd) hb hs) fun σ H Q ⟨Z, Hf, env, d, R, hf, k⟩ => by
  unfold dctIx at hf
  split at hf
  · rename_i l hl
    obtain ⟨y, hy, hf⟩ := Option_bind_some hf
    obtain ⟨kk, hkk, hf⟩ := Option_bind_some hf
    obtain ⟨w, hs, p, xs0, rfl, _⟩ := R.sl i _ hl
    refine ⟨.ref p, hs, Z, Hf, env, _, R, hy, fun v H1 Hf1 s1 d1 => ?_⟩
    obtain ⟨_, hs2, p2, xs, rfl, hz, hfp, hp, hm, ha⟩ := (R.step s1).sl i _ hl
    rw [hs] at hs2
    cases hs2
    obtain ⟨c, rfl, hc⟩ := key_tup d1 hkk
    obtain ⟨q, hq, w, rw', dw⟩ := at_getD ha.2.2 hf
    exact ⟨p, xs, kk, c, q, w, rfl, rfl, sqT_up s1.i hc, hp, ha.keys s1.i, ha.1, hq, rw', k _ _ _ s1 dw⟩
  · cases hf
def sRetDct (i : Nat) : FS := fun env => match env[i]? with
  | some (some (.dct l)) => some (.retD l)
  | _ => none
theorem s_retDct (i : Nat) {x : Str} {p : Pos} (hN : X.N[i]? = some x := by rfl) (hv : Vis X.env.scope x := by first | exact Or.inl rfl | exact Or.inr (Or.inl rfl) | exact Or.inr (Or.inr rfl)) (hd : (x == ("__debug__" : Str)) = false := by decide)
    (hcd : (x == ("__classdict__" : Str)) = false := by decide) : PS X (.Return (some (.Name x p)) pos) (tS X.K (sRetDct i)) := ps_le (ps_ret (pe_var hN hv hd hcd)) fun D σ H ⟨Z, Hf, env, o, R, hf, k⟩ => by
  unfold sRetDct at hf
  split at hf
  · rename_i l hl
    cases hf
    obtain ⟨w, hs, p, vs, rfl, hz, hf, hp, hm, ha⟩ := R.sl i _ hl
    exact ⟨.ref p, hs, k p vs H Hf R.st hz hf hp hm ha⟩
  · cases hf
def dCallF (F : List PyData → Option Sl) (r : FL) : En → Option (List (List Int × PyData)) := fun env => (r env).bind fun ds => match F ds with
  | some (.dct l) => some l
  | _ => none
theorem d_fn {j k n : Nat} {x : Str} {F : List PyData → Option Sl} {es : List Expr} {p : Pos} {r : FL} (G : Known X.prog X.w X.K X.mg X.base j x n F) (hr : Room k X.A) (ha : PA X (e :: es) (tA X.K r)) (hln : ∀ env ds, r env = some ds → ds.length = es.length + 1) (hg : Gl X x := by rfl) (hjk : j ≤ k := by decide) (hn : n = es.length + 1 := by rfl) (hdb : (x == ("__debug__" : Str)) = false := by decide) (he : starEach (e :: es) X.env = (false, eval e X.env) :: starEach es X.env := by rfl) (hpl : (backTo pos (starEach es X.env)).any (·.1) = false := by rfl) :
    PE X (.Call (.Name x p) (e :: es) [] pos) (tD X.K (dCallF F r)) := by
  subst hn
  obtain ⟨f, fd, ps, h1, h2, h3, h4⟩ := G.ex
  refine pe_le (pe_call h1 (hr.mono hjk) hg h2 h3 h4 .nil pass0 ha hdb he hpl) fun σ H Q ⟨Z, Hf, env, d, R, hf, kk⟩ => ?_
  obtain ⟨ds, hds, hf⟩ := Option_bind_some hf
  refine ⟨Z, Hf, env, ds, R, hds, fun vs H1 Hf1 s1 d1 => ?_⟩
  show spD X.K (es.length + 1) F (vs ++ []) H1 Q E0
  rw [List.append_nil]
  refine ⟨by rw [d1.len]; exact hln env ds hds, ?_⟩
  split at hf
  · rename_i l hz
    cases hf
    exact ⟨Hf1, ds, _, s1.i, d1, hz, fun q vs H2 Hf2 s2 h0 h1 h2 hm d2 => kk q vs H2 Hf2 (s1.trans s2) (s1.h.free h0) h1 h2 hm d2⟩
  · cases hf
/-- x, y, z = {..}, a, b -/
def sParD (i j k : Nat) (d : En → Option (List (List Int × PyData))) (f g : FE) : FS := fun env => (d env).bind fun kvs => (f env).bind fun u => (g env).bind fun v => some (.next (((env.set i (some (.dct kvs))).set j (some (.val u))).set k (some (.val v))))
theorem s_parD (i j k : Nat) {x y z : Str} {a b c : Expr} {d : En → Option (List (List Int × PyData))} {px py pz pt : Pos} {kt k2 pt2} (hc : X.calm = true) (hN : X.N.Nodup) (ha : PE X a (tD X.K d)) (hb : PE X b (tE X.K f)) (hcc : PE X c (tE X.K g)) (hi : X.N[i]? = some x := by rfl) (hj : X.N[j]? = some y := by rfl) (hk : X.N[k]? = some z := by rfl) (hij : i ≠ j := by decide) (hik : i ≠ k := by decide) (hjk : j ≠ k := by decide)
    (hx : X.env.scope.names.lookup x = some .local := by rfl) (hy : X.env.scope.names.lookup y = some .local := by rfl) (hz : X.env.scope.names.lookup z = some .local := by rfl)
    (n1 : starEach [a, b, c] X.env = (false, eval a X.env) :: starEach [b, c] X.env := by rfl) (n2 : starEach [b, c] X.env = (false, eval b X.env) :: starEach [c] X.env := by rfl) (n3 : starEach [c] X.env = (false, eval c X.env) :: starEach [] X.env := by rfl)
    (hw : swappedStores [.Tuple [.Name x px, .Name y py, .Name z pz] kt pt] (.Tuple [a, b, c] k2 pt2) X.env = pure (some [x, y, z]) := by rfl)
    (hs : swapsWithSole [.Tuple [.Name x px, .Name y py, .Name z pz] kt pt] (.Tuple [a, b, c] k2 pt2) pos.line X.env = pure false := by rfl) :
    PS X (.Assign [.Tuple [.Name x px, .Name y py, .Name z pz] kt pt] (.Tuple [a, b, c] k2 pt2) pos) (tS X.K (sParD i j k d f g)) := ps_le (ps_par3 hc hN hi hj hk hij hik hjk hx hy hz (pa_cons ha (pa_cons hb (pa_cons hcc pa_nil n3) n2) n1) hw hs) fun D σ H ⟨Z, Hf, env, o, R, hf, kk⟩ => by
  obtain ⟨kvs, h1, hf⟩ := Option_bind_some hf
  obtain ⟨u, h2, hf⟩ := Option_bind_some hf
  obtain ⟨v, h3, hf⟩ := Option_bind_some hf
  cases hf
  refine ⟨Z, Hf, env, kvs, R, h1, fun p xs H1 Hf1 s1 g0 g1 g2 gm d1 => ⟨Z, Hf1, env, u, R.step s1, h2, fun w2 H2 Hf2 s2 d2 => ⟨Z, Hf2, env, v, (R.step s1).step s2, h3, fun w3 H3 Hf3 s3 d3 => ⟨.ref p, w2, w3, rfl, ?_⟩⟩⟩⟩
  exact kk _ H3 Hf3 (s1.f.trans (s2.f.trans s3.f)) (((((R.setDct s1 i g0 g1 g2 gm d1).step s2).step s3).set j (Dp_up s3.f d2)).set k d3)
end
end Fi

namespace Fi
open PySem PySem.Spec PyProof.Rows L2
theorem tuple_mul1 (l : Addr) (items : Array Value) (n : Nat) (dd : Option Addr) (sl : Array (Option Value)) (u : Tok) :
    Meets (Builtin.«tuple.__mul__» ⟨[.ref l, .int 1 u], []⟩) (fun _ R s => s.heap.get? l = some { cls := .type "tuple", dict := dd, data := .seq items n, slots := sl } ∧ R (.ok (.ret (Value.ref l))) s) :=
  .of_wp fun prog w A R s h => by
    obtain ⟨hp, g, d, tk, os⟩ := s
    obtain ⟨hl, h⟩ := h
    have f1 := AutoSeq1.idx_int
    have c0 : (decide ((1 : Int) < -(2 ^ 63)) || decide ((1 : Int) ≥ 2 ^ 63)) = false := by decide
    have c1 : (items.isEmpty || (1 : Int) == 1) = true := by rw [Bool.or_eq_true]; exact .inr rfl
    wp_walk using wpAny_loadPart' hl
    repeat (first
      | (refine wpAny_ite_false (decide_eq_false (by rw [c0]; exact Bool.false_ne_true)) ?_; wp_walk using wpAny_loadPart' hl)
      | (refine wpAny_ite_true (decide_eq_true c1) ?_; wp_walk using wpAny_loadPart' hl))
    exact ⟨_, rfl, h⟩
def rRep1 (K : PySem.W.Frag) : R2 := fun x y H Q => ∃ l xs, x = .ref l ∧ y = .int 1 ∧ SqT K H l xs ∧ Q (.ref l) H
section
variable {X : Cx}
theorem op_rep1 : OpR X (binaryOp .Mult) (rRep1 X.K) := by
  intro pins s σ H x y v u Q I rx ry h
  obtain ⟨l, xs, rfl, rfl, hT, q⟩ := h
  cases rx
  obtain ⟨t, rfl⟩ := ry
  obtain ⟨its, r, ⟨⟨cls, dd, data, sl⟩, ho, hc, n, hd⟩, hs⟩ := I.tuple hT
  simp only at hc hd
  subst hc hd
  exact wpAny_binaryOp_repeat_ref (T := "tuple") (U := "int") (by decide) ⟨_, ho, rfl⟩ (fun s' => typeIs_int s' 1 t) noFill_tuple_mul F.fills_int_mul F.slot_int_rmul repeat_tuple F.slot_int_index.lookup
    (call_meets F.slot_int_rmul (typeIs_int s 1 t) F.entry_int_rmul (F.args_int_rmul_2 _ _) (int_rmul_tuple 1 t l its.toArray n dd sl)
      ⟨ho, rfl, ⟨_, ho, rfl⟩, call_meets F.slot_tuple_mul ⟨_, ho, rfl⟩ F.entry_tuple_mul (F.args_tuple_mul_2 _ _) (tuple_mul1 l its.toArray n dd sl t) ⟨ho, .ref l, H, I, rfl, q⟩⟩)
def fMulT : PyData → PyData → Option PyData
  | .tuple ds, .int k => if ds ≠ [] ∧ 1 ≤ k ∧ k ≤ 1000 ∧ ds.length ≤ 1000 then some (.tuple (List.replicate k.toNat ds).flatten) else none
  | _, _ => none
theorem od_mulT : OpD X (binaryOp .Mult) fMulT := by
  intro pins s σ H x y v u Q I rx ry ⟨Hf, dx, dy, dz, hi, hx, hy, hf, k⟩
  unfold fMulT at hf
  split at hf
  · rename_i ds kk
    split at hf
    · rename_i hc
      cases hf
      cases hy.int_eq
      cases hx with
      | @tup l vs _ hs ha =>
        by_cases h1 : kk = 1
        · subst h1
          refine op_rep1 pins s σ H _ _ v u Q I rx ry ⟨l, vs, rfl, rfl, sqT_up hi hs, k _ _ _ (.refl hi) (.tup hs ?_)⟩
          have e : (List.replicate (1 : Int).toNat ds).flatten = ds := by
            show (List.replicate 1 ds).flatten = ds
            simp
          rw [e]
          exact ha
        · refine op_repT pins s σ H _ _ v u Q I rx ry ⟨l, kk, vs, rfl, rfl, sqT_up hi hs, fun e => ?_, by omega, hc.2.2.1, by rw [ha.len]; exact hc.2.2.2, fun p hp => ?_⟩
          · subst e
            cases ha
            exact hc.1 rfl
          · exact k _ _ _ (Stp.new hi hp) (.tup (SqT.of upd_same) (DpAll_up (same_new (hi.free hp)) (DpAll_rep ha _)))
    · cases hf
  · cases hf
end
def getStrs : List PyData → Option (List Str)
  | [] => some []
  | .str x :: r => (getStrs r).bind fun l => some (x :: l)
  | _ => none
def fNotInT : PyData → PyData → Option PyData
  | .str x, .tuple ds => (getStrs ds).bind fun ss => some (.bool (!inV (.str x) (ss.map V.str)))
  | _, _ => none
theorem strs_all {K : PySem.W.Frag} {H : Hp} : ∀ {vs : List V} {ds : List PyData} {ss : List Str}, DpAll K H vs ds → getStrs ds = some ss → vs = ss.map V.str
  | _, [], _, h, e => by cases h; cases e; rfl
  | _, d :: ds, _, .cons a b, e => by
    cases d with
    | str x =>
      obtain ⟨l, hl, e⟩ := Option_bind_some (show (getStrs ds).bind _ = _ from e)
      cases e
      rw [a.str_eq, strs_all b hl]
      rfl
    | _ => cases e
theorem flat_strs : ∀ ss : List Str, (ss.map V.str).all flatV = true
  | [] => rfl
  | _ :: ss => by
    rw [List.map_cons, List.all_cons, flat_strs ss]
    rfl
theorem od_notInT {X : Cx} : OpD X (compareOp .NotIn) fNotInT := by
  intro pins s σ H x y v u Q I rx ry ⟨Hf, dx, dy, dz, hi, hx, hy, hf, k⟩
  unfold fNotInT at hf
  split at hf
  · rename_i x ds
    obtain ⟨ss, hss, hf⟩ := Option_bind_some hf
    cases hf
    cases hx.str_eq
    cases hy with
    | @tup l vs _ hs ha =>
      have e := strs_all ha hss
      subst e
      exact op_notIn_seq pins s σ H _ _ v u Q I rx ry ⟨l, _, rfl, .inr (sqT_up hi hs), rfl, flat_strs ss, k _ _ _ (.refl hi) (.bl _)⟩
  · cases hf
end Fi

namespace Lw
open PySem L2 Fi
/-! ### what each def computes -/
def lp_shortest_script_0 : FS := (sIf (asB (e2 fLt (e2 fIx (eVar 2) (eVar 6)) (e2 fIx (eVar 1) (eVar 6)))) (sApp 5 (eTup (aCons (eC (.str "spend")) (aCons (eVar 6) (aCons (e2 fSub (e2 fIx (eVar 1) (eVar 6)) (e2 fIx (eVar 2) (eVar 6))) aNil))))) sNext)
def b_shortest_script : FS := (sSeq (sSet 3 (eL (lR1 (eCall fLen (aCons (eVar 0) aNil)))))
    (sSeq (sOwn 4 (lLc (iL (eVar 3)) (gSet 6) (asB (e2 fGt (e2 fIx (eVar 2) (eVar 6)) (e2 fIx (eVar 1) (eVar 6)))) (eVar 6) [6])) (sFrz 4 (sSeq (sOwn 5 (lLst aNil))
    (sSeq (sIf (asB (e2 fNe (eVar 4) (eL (lLst aNil)))) (sSeq (sSet 7 (e2 fIx (eVar 4) (e1 fNeg (eC (.int 1)))))
    (sSeq (sSet 8 (e2 fSub (e2 fAdd (eCall fSum (aCons (eL (lLc (iL (eL (lSl (eVar 3) oNone (oSome (eVar 7))))) (gSet 6) pYes (e2 fSub (e2 fIx (eVar 0) (eVar 6)) (e2 fIx (eVar 1) (eVar 6))) [6])) aNil)) (e2 fIx (eVar 2) (eVar 7))) (e2 fIx (eVar 1) (eVar 7))))
    (sSeq (sApp 5 (eTup (aCons (eC (.str "pour")) (aCons (eVar 8) aNil))))
    (sSet 1 (e2 fAdd (e2 fAdd (eSlT (eVar 0) oNone (oSome (eVar 7))) (eTup (aCons (e2 fIx (eVar 2) (eVar 7)) aNil))) (eSlT (eVar 1) (oSome (e2 fAdd (eVar 7) (eC (.int 1)))) oNone)))))) sNext)
    (sSeq (sFor (iL (eVar 3)) (gSet 6) lp_shortest_script_0)
    (sFrz 5 (sRet (eCall fTuple (aCons (eVar 5) aNil))))))))))
def F_shortest_script : List PyData → Option Sl := fnD 9 b_shortest_script
def b__law_cell : FS := (sSeq (sIf (asB (e2 fLt (eVar 1) (eCall fLen (aCons (eVar 0) aNil)))) (sRet (e2 fIx (eVar 0) (eVar 1))) sNext)
    (sSeq (sIf (asB (e2 fEq (eCall fLen (aCons (eVar 0) aNil)) (eC (.int 0)))) (sRet (e2 fAdd (e2 fMul (eC (.int 7919)) (eVar 1)) (eC (.int 101)))) sNext)
    (sRet (e2 fAdd (e2 fMod (e2 fIx (eVar 0) (e2 fMod (eVar 1) (eCall fLen (aCons (eVar 0) aNil)))) (eC (.int 1000003))) (e2 fMul (eC (.int 7919)) (eVar 1))))))
def F__law_cell : List PyData → Option Sl := fnD 2 b__law_cell
def b__law_caps : FS := (sRet (eCall fTuple (aCons (eL (lLc (iL (eL (lSl (eVar 0) (oSome (eC (.int 1))) (oSome (e2 fAdd (eC (.int 2)) (e2 fMod (e2 fIx (eVar 0) (eC (.int 0))) (eVar 1))))))) (gSet 3) pYes (e2 fAdd (eC (.int 1)) (e2 fMod (eVar 3) (eVar 2))) [3])) aNil)))
def F__law_caps : List PyData → Option Sl := fnD 4 b__law_caps
def lp__law_levels_0 : FS := (sSeq (sSet 5 (e2 fMod (e2 fDiv (eVar 4) (eC (.int 1000))) (eC (.int 4))))
    (sIf (asB (e2 fEq (eVar 5) (eC (.int 0)))) (sSet 2 (e2 fAdd (eVar 2) (eTup (aCons (eVar 3) aNil)))) (sIf (asB (e2 fEq (eVar 5) (eC (.int 1)))) (sSet 2 (e2 fAdd (eVar 2) (eTup (aCons (eC (.int 0)) aNil)))) (sSet 2 (e2 fAdd (eVar 2) (eTup (aCons (e2 fMod (eVar 4) (e2 fAdd (eVar 3) (eC (.int 1)))) aNil)))))))
def b__law_levels : FS := (sSeq (sSet 2 (eTup aNil))
    (sSeq (sFor (iZ .t .l (aCons (eVar 1) (aCons (eVar 0) aNil))) (gTupF 2 (gsCons (gSet 3) (gsCons (gSet 4) gsNil))) lp__law_levels_0)
    (sRet (eVar 2))))
def F__law_levels : List PyData → Option Sl := fnD 6 b__law_levels
def lp__law_run_0 : FS := (sSeq (sSet 9 (eIf (asB (e2 fGt (eVar 6) (e2 fSub (eVar 8) (ownIx 4 (eVar 7))))) (e2 fSub (eVar 8) (ownIx 4 (eVar 7))) (eVar 6)))
    (sAsg (eTup (aCons (e2 fAdd (ownIx 4 (eVar 7)) (eVar 9)) (aCons (e2 fSub (eVar 6) (eVar 9)) aNil))) (gTupF 2 (gsCons (gSub 4 (eVar 7)) (gsCons (gSet 6) gsNil)))))
def lp__law_run_1 : FS := (sIf (asB (e2 fEq (e2 fIx (eVar 3) (eC (.int 0))) (eC (.str "spend")))) (sSeq (sIf (asB (e2 fGt (e2 fIx (eVar 3) (eC (.int 2))) (ownIx 4 (e2 fIx (eVar 3) (eC (.int 1)))))) (sRet (eC .none)) sNext)
    (sAsg (e2 fSub (ownIx 4 (e2 fIx (eVar 3) (eC (.int 1)))) (e2 fIx (eVar 3) (eC (.int 2)))) (gSub 4 (e2 fIx (eVar 3) (eC (.int 1)))))) (sSeq (sSet 6 (e2 fIx (eVar 3) (eC (.int 1))))
    (sSeq (sFor (iEn .t (aCons (eVar 0) aNil)) (gTupF 2 (gsCons (gSet 7) (gsCons (gSet 8) gsNil))) lp__law_run_0)
    (sSet 5 (e2 fAdd (eVar 5) (eVar 6))))))
def b__law_run : FS := (sSeq (sParL 4 5 (lCall fList (aCons (eVar 1) aNil)) (eC (.int 0)))
    (sSeq (sFor (iT (eVar 2)) (gSet 3) lp__law_run_1)
    (sFrz 4 (sRet (eTup (aCons (eCall fTuple (aCons (eVar 4) aNil)) (aCons (eVar 5) aNil)))))))
def F__law_run : List PyData → Option Sl := fnD 10 b__law_run
def lp__law_all_levels_0 : FS := (sSet 3 (eL (lCat (eVar 3) (eL (lLc (iR1 (aCons (e2 fAdd (eVar 2) (eC (.int 1))) aNil)) (gSet 5) pYes (e2 fAdd (eVar 4) (eTup (aCons (eVar 5) aNil))) [5])))))
def lp__law_all_levels_1 : FS := (sSeq (sSet 3 (eL (lLst aNil)))
    (sSeq (sFor (iL (eVar 1)) (gSet 4) lp__law_all_levels_0)
    (sSet 1 (eVar 3))))
def b__law_all_levels : FS := (sSeq (sSet 1 (eL (lLst (aCons (eTup aNil) aNil))))
    (sSeq (sFor (iT (eVar 0)) (gSet 2) lp__law_all_levels_1)
    (sRet (eVar 1))))
def F__law_all_levels : List PyData → Option Sl := fnD 6 b__law_all_levels
def lp__law_formula_0 : FS := (sIf (tOrF (tAndF (asB (e2 fLt (eVar 6) (eVar 4))) (asB (e2 fLt (e2 fIx (eVar 2) (eVar 6)) (e2 fIx (eVar 0) (eVar 6))))) (tAndF (asB (e2 fGt (eVar 6) (eVar 4))) (asB (e2 fLt (e2 fIx (eVar 2) (eVar 6)) (e2 fIx (eVar 1) (eVar 6)))))) (sSet 5 (e2 fAdd (eVar 5) (eC (.int 1)))) sNext)
def b__law_formula : FS := (sSeq (sOwn 3 (lLc (iR1 (aCons (eCall fLen (aCons (eVar 0) aNil)) aNil)) (gSet 6) (asB (e2 fGt (e2 fIx (eVar 2) (eVar 6)) (e2 fIx (eVar 1) (eVar 6)))) (eVar 6) [6])) (sFrz 3 (sSeq (sSet 4 (eIf (asB (e2 fNe (eVar 3) (eL (lLst aNil)))) (e2 fIx (eVar 3) (e1 fNeg (eC (.int 1)))) (e2 fSub (eC (.int 0)) (eC (.int 1)))))
    (sSeq (sSet 5 (eCall fIntB (aCons (e2 fNe (eVar 3) (eL (lLst aNil))) aNil)))
    (sSeq (sFor (iR1 (aCons (eCall fLen (aCons (eVar 0) aNil)) aNil)) (gSet 6) lp__law_formula_0)
    (sRet (eVar 5)))))))
def F__law_formula : List PyData → Option Sl := fnD 7 b__law_formula
def b_fewest_steps : FS := (sRet (eCall fLen (aCons (eCallF F_shortest_script (aCons (eVar 0) (aCons (eVar 1) (aCons (eVar 2) aNil)))) aNil)))
def F_fewest_steps : List PyData → Option Sl := fnD 3 b_fewest_steps
def lp__law_digits_0 : FS := (sSeq (sSet 9 (e2 fMul (e2 fMod (eVar 5) (e2 fIx (eVar 4) (e2 fMod (eVar 8) (eC (.int 8))))) (e2 fAdd (eC (.int 48271)) (e2 fMul (e2 fMul (eC (.int 2)) (eVar 8)) (eVar 8)))))
    (sSeq (sSet 9 (e2 fAdd (e2 fAdd (eVar 9) (e2 fMul (e2 fMul (eC (.int 7919)) (e2 fAdd (eVar 8) (eC (.int 1)))) (e2 fAdd (eVar 8) (eC (.int 1))))) (e2 fMul (eC (.int 104729)) (eVar 1))))
    (sSeq (sSet 9 (e2 fMod (eVar 9) (e2 fIx (eVar 4) (e2 fMod (e2 fAdd (e2 fMul (eC (.int 3)) (eVar 8)) (eVar 1)) (eC (.int 8))))))
    (sSeq (sSet 9 (e2 fMod (e2 fMul (e2 fMul (eVar 9) (eVar 9)) (eVar 9)) (e2 fIx (eVar 4) (e2 fMod (e2 fAdd (eVar 8) (eC (.int 5))) (eC (.int 8))))))
    (sSeq (sIf (asB (e2 fGt (eVar 6) (eC (.int 0)))) (sSet 9 (eVar 6)) sNext)
    (sSeq (sApp 7 (e2 fMod (eVar 9) (eVar 3)))
    (sSet 6 (e2 fDiv (eVar 6) (eVar 3)))))))))
def b__law_digits : FS := (sSeq (sSet 4 (eTup (aCons (eC (.int 2147483647)) (aCons (eC (.int 2147483629)) (aCons (eC (.int 2147483587)) (aCons (eC (.int 2147483579)) (aCons (eC (.int 2147483563)) (aCons (eC (.int 2147483549)) (aCons (eC (.int 2147483543)) (aCons (eC (.int 2147483497)) aNil))))))))))
    (sSeq (sSet 5 (eCallF F__law_cell (aCons (eVar 0) (aCons (eVar 1) aNil))))
    (sSeq (sSet 6 (eIf (asB (e2 fGe (eVar 5) (e2 fPow (eC (.int 10)) (eC (.int 18))))) (eVar 5) (eC (.int 0))))
    (sSeq (sOwn 7 (lLst aNil))
    (sSeq (sFor (iR1 (aCons (eVar 2) aNil)) (gSet 8) lp__law_digits_0)
    (sRetO 7))))))
def F__law_digits : List PyData → Option Sl := fnD 10 b__law_digits
def lp__law_search_0 : FS := (sSet 7 (eL (lCat (eVar 7) (eL (lLc (iR1 (aCons (e2 fIx (eVar 6) (eVar 8)) aNil)) (gSet 11) pYes (e2 fAdd (e2 fAdd (eSlT (eVar 6) oNone (oSome (eVar 8))) (eTup (aCons (eVar 11) aNil))) (eSlT (eVar 6) (oSome (e2 fAdd (eVar 8) (eC (.int 1)))) oNone)) [11])))))
def lp__law_search_1 : FS := (sIf (asB (dctNotIn 2 (eVar 9))) (sSeq (sDPut 2 (eVar 9) (eVar 4))
    (sApp 5 (eVar 9))) sNext)
def lp__law_search_2 : FS := (sSeq (sOwn 7 (lLc (iR2 (aCons (eC (.int 1)) (aCons (e2 fAdd (eCall fSum (aCons (eVar 0) aNil)) (eC (.int 1))) aNil))) (gSet 10) pYes (e2 fIx (eCallF F__law_run (aCons (eVar 0) (aCons (eVar 6) (aCons (eTup (aCons (eTup (aCons (eC (.str "pour")) (aCons (eVar 10) aNil))) aNil)) aNil)))) (eC (.int 0))) [10])) (sFrz 7 (sSeq (sFor (iR1 (aCons (eCall fLen (aCons (eVar 0) aNil)) aNil)) (gSet 8) lp__law_search_0)
    (sFor (iL (eVar 7)) (gSet 9) lp__law_search_1))))
def lp__law_search_3 : FS := (sSeq (sSet 4 (e2 fAdd (eVar 4) (eC (.int 1))))
    (sSeq (sOwn 5 (lLst aNil))
    (sSeq (sFor (iL (eVar 3)) (gSet 6) lp__law_search_2)
    (sFrz 5 (sSet 3 (eVar 5))))))
def b__law_search : FS := (sSeq (sParD 2 3 4 (dDisp1 (eVar 1) (eC (.int 0))) (eL (lLst (aCons (eVar 1) aNil))) (eC (.int 0)))
    (sSeq (whileD (asB (e2 fNe (eVar 3) (eL (lLst aNil)))) lp__law_search_3 64)
    (sRetDct 2)))
def F__law_search : List PyData → Option Sl := fnD 12 b__law_search
def lp__law_led_0 : FS := (sIf (tOrF (asB (e2 fNotInT (e2 fIx (eVar 5) (eC (.int 0))) (eTup (aCons (eC (.str "pour")) (aCons (eC (.str "spend")) aNil))))) (tOrF (asB (e2 fNe (eCall fLen (aCons (eVar 5) aNil)) (eIf (asB (e2 fEq (e2 fIx (eVar 5) (eC (.int 0))) (eC (.str "pour")))) (eC (.int 2)) (eC (.int 3))))) (asB (e2 fLt (e2 fIx (eVar 5) (e1 fNeg (eC (.int 1)))) (eC (.int 0)))))) (sRet (eC (.bool false))) sNext)
def b__law_led : FS := (sSeq (sSet 4 (eCallF F_shortest_script (aCons (eVar 0) (aCons (eVar 1) (aCons (eVar 2) aNil)))))
    (sSeq (sIf (tOrF (tNotF (asB (eIsI "tuple" (eVar 4)))) (tOrF (asB (e2 fNe (eCall fLen (aCons (eVar 4) aNil)) (eVar 3))) (asB (e2 fNe (eCallF F_fewest_steps (aCons (eVar 0) (aCons (eVar 1) (aCons (eVar 2) aNil)))) (eVar 3))))) (sRet (eC (.bool false))) sNext)
    (sSeq (sFor (iT (eVar 4)) (gSet 5) lp__law_led_0)
    (sSeq (sSet 6 (eCallF F__law_run (aCons (eVar 0) (aCons (eVar 1) (aCons (eVar 4) aNil)))))
    (sRet (eAnd (e2 fIsNot (eVar 6) (eC .none)) (e2 fEq (e2 fIx (eVar 6) (eC (.int 0))) (eVar 2))))))))
def F__law_led : List PyData → Option Sl := fnD 7 b__law_led
def lp_law_0 : FS := (sIf (tOrF (asB (e2 fNe (dctIx 5 (eVar 6)) (eCallF F__law_formula (aCons (eVar 3) (aCons (eVar 4) (aCons (eVar 6) aNil)))))) (tNotF (asB (eCallF F__law_led (aCons (eVar 3) (aCons (eVar 4) (aCons (eVar 6) (aCons (dctIx 5 (eVar 6)) aNil)))))))) (sRet (eC (.bool false))) sNext)
def lp_law_1 : FS := (sIf (tNotF (asB (eCallF F__law_led (aCons (eVar 3) (aCons (eVar 4) (aCons (eVar 7) (aCons (eCallF F__law_formula (aCons (eVar 3) (aCons (eVar 4) (aCons (eVar 7) aNil)))) aNil))))))) (sRet (eC (.bool false))) sNext)
def lp_law_2 : FS := (sSeq (sSet 2 (eL (lCallF F__law_digits (aCons (eVar 0) (aCons (eVar 1) (aCons (eC (.int 60)) (aCons (eC (.int 27720)) aNil)))))))
    (sSeq (sSet 3 (eCallF F__law_caps (aCons (eVar 2) (aCons (eC (.int 3)) (aCons (eC (.int 4)) aNil)))))
    (sSeq (sSet 4 (eCallF F__law_levels (aCons (eL (lSl (eVar 2) (oSome (eC (.int 9))) oNone)) (aCons (eVar 3) aNil))))
    (sSeq (sDct 5 (dCallF F__law_search (aCons (eVar 3) (aCons (eVar 4) aNil))))
    (sSeq (sFor (iL (eCallF F__law_all_levels (aCons (eVar 3) aNil))) (gSet 6) lp_law_0)
    (sSeq (sSet 3 (eCallF F__law_caps (aCons (eL (lSl (eVar 2) (oSome (eC (.int 20))) oNone)) (aCons (eC (.int 6)) (aCons (eC (.int 20000)) aNil)))))
    (sSeq (sSet 4 (eCallF F__law_levels (aCons (eL (lSl (eVar 2) (oSome (eC (.int 30))) oNone)) (aCons (eVar 3) aNil))))
    (sSeq (sSet 6 (eCallF F__law_levels (aCons (eL (lSl (eVar 2) (oSome (eC (.int 40))) oNone)) (aCons (eVar 3) aNil))))
    (sFor (iT (eTup (aCons (eVar 6) (aCons (eVar 3) (aCons (e2 fMulT (eTup (aCons (eC (.int 0)) aNil)) (eCall fLen (aCons (eVar 3) aNil))) (aCons (eVar 4) (aCons (e2 fAdd (eSlT (eVar 6) oNone (oSome (eC (.int 1)))) (eSlT (eVar 4) (oSome (eC (.int 1))) oNone)) aNil))))))) (gSet 7) lp_law_1)))))))))
def b_law : FS := (sSeq (sFor (iR1 (aCons (eC (.int 6)) aNil)) (gSet 1) lp_law_2)
    (sRet (eAnd (e2 fEq (eCallF F_fewest_steps (aCons (eTup (aCons (eC (.int 5)) (aCons (eC (.int 9)) aNil))) (aCons (eTup (aCons (eC (.int 1)) (aCons (eC (.int 0)) aNil))) (aCons (eTup (aCons (eC (.int 2)) (aCons (eC (.int 4)) aNil))) aNil)))) (eC (.int 2))) (e2 fEq (eCallF F_shortest_script (aCons (eTup (aCons (eC (.int 5)) (aCons (eC (.int 9)) aNil))) (aCons (eTup (aCons (eC (.int 1)) (aCons (eC (.int 0)) aNil))) (aCons (eTup (aCons (eC (.int 5)) (aCons (eC (.int 2)) aNil))) aNil)))) (eTup (aCons (eTup (aCons (eC (.str "pour")) (aCons (eC (.int 6)) aNil))) aNil))))))
def F_law : List PyData → Option Sl := fnD 8 b_law
end Lw
namespace Lw
open PySem L2 Fi
/-! ### evaluation -/
theorem forD_step {g : PyData → En → Option En} {fb : FS} {d : PyData} {ds : List PyData} {env e1 e2 : En} {o : Option Out} (hg : g d env = some e1) (hb : fb e1 = some (.next e2)) (h : forD g fb ds e2 = o) : forD g fb (d :: ds) env = o := by
  simp only [forD, hg, hb, Option.bind_some, h]
theorem forD_ret {g : PyData → En → Option En} {fb : FS} {d v : PyData} {ds : List PyData} {env e1 : En} (hg : g d env = some e1) (hb : fb e1 = some (.ret v)) : forD g fb (d :: ds) env = some (.ret v) := by
  simp only [forD, hg, hb, Option.bind_some]
theorem forD_nil {g : PyData → En → Option En} {fb : FS} {env : En} : forD g fb [] env = some (.next env) := rfl
/-- a loop by an invariant -/
theorem forD_inv {g : PyData → En → Option En} {fb : FS} (P : Nat → En → Prop) : ∀ (ds : List PyData) (k : Nat) (env : En), P k env →
    (∀ (i : Nat) (d : PyData) (e : En), ds[i]? = some d → P (k + i) e → ∃ e1 e2, g d e = some e1 ∧ fb e1 = some (.next e2) ∧ P (k + i + 1) e2) → ∃ e, forD g fb ds env = some (.next e) ∧ P (k + ds.length) e
  | [], k, env, h, _ => ⟨env, rfl, h⟩
  | d :: ds, k, env, h, hs => by
    obtain ⟨e1, e2, h1, h2, h3⟩ := hs 0 d env rfl h
    obtain ⟨e, q1, q2⟩ := forD_inv P ds (k + 1) e2 h3 fun i d' e hd hp => by
      have e0 : k + 1 + i = k + (i + 1) := by omega
      rw [e0] at hp ⊢
      exact hs (i + 1) d' e (by simpa using hd) hp
    refine ⟨e, forD_step h1 h2 q1, ?_⟩
    have e0 : k + (d :: ds).length = k + 1 + ds.length := by rw [List.length_cons]; omega
    rw [e0]
    exact q2
theorem sSeq_next {f g : FS} {env e : En} {o : Option Out} (h : f env = some (.next e)) (h2 : g e = o) : sSeq f g env = o := by
  simp only [sSeq, h, h2]
theorem sSeq_ret {f g : FS} {env : En} {d : PyData} (h : f env = some (.ret d)) : sSeq f g env = some (.ret d) := by
  simp only [sSeq, h]
theorem set_next {i : Nat} {f : FE} {env : En} {d : PyData} (h : f env = some d) : sSet i f env = some (.next (env.set i (some (.val d)))) := by
  simp only [sSet, h, Option.map_some]
theorem for_next {fi : FL} {g : PyData → En → Option En} {fb : FS} {env : En} {ds : List PyData} {o : Option Out} (h : fi env = some ds) (h2 : forD g fb ds env = o) : sFor fi g fb env = o := by
  simp only [sFor, h, Option.bind_some, h2]
theorem fn_ret {n : Nat} {b : FS} {ds : List PyData} {d : PyData} (h : b (entry n ds) = some (.ret d)) : fnD n b ds = some (.val d) := by
  simp only [fnD, h]
theorem fn_retL {n : Nat} {b : FS} {ds l : List PyData} (h : b (entry n ds) = some (.retL l)) : fnD n b ds = some (.own l) := by
  simp only [fnD, h]
theorem fAdd_int (a b : Int) : fAdd (.int a) (.int b) = some (.int (a + b)) := rfl
theorem fAdd_tup {a b : List PyData} (h : a.length + b.length ≤ 100000) : fAdd (.tuple a) (.tuple b) = some (.tuple (a ++ b)) := by
  simp only [fAdd, if_pos h]
theorem fMul_l {a b : Int} (h1 : -18446744073709551616 < a) (h2 : a < 18446744073709551616) : fMul (.int a) (.int b) = some (.int (a * b)) := by
  show (if _ then _ else _) = _
  exact if_pos (.inl ⟨h1, h2⟩)
theorem fMul_r {a b : Int} (h1 : -18446744073709551616 < b) (h2 : b < 18446744073709551616) : fMul (.int a) (.int b) = some (.int (a * b)) := by
  show (if _ then _ else _) = _
  exact if_pos (.inr ⟨h1, h2⟩)
theorem fDiv_ok {a b : Int} (h1 : 0 < b) (h2 : b < 1073741824) : fDiv (.int a) (.int b) = some (.int (a / b)) := by
  show (if _ then _ else _) = _
  exact if_pos ⟨h1, h2⟩
theorem fMod_ok {a b : Int} (h1 : 0 < b) : fMod (.int a) (.int b) = some (.int (a % b)) := by
  show (if _ then _ else _) = _
  exact if_pos h1
theorem fPow_ok {a b : Int} (h1 : 0 ≤ b) (h2 : b ≤ 1000000) (h3 : a.natAbs < 18446744073709551616) : fPow (.int a) (.int b) = some (.int (a ^ b.toNat)) := by
  show (if _ then _ else _) = _
  exact if_pos ⟨h1, h2, h3⟩
theorem fEq_int (a b : Int) : fEq (.int a) (.int b) = some (.bool (decide (a = b))) := rfl
theorem fEq_str (a b : Str) : fEq (.str a) (.str b) = some (.bool (decide (a = b))) := rfl
theorem fEq_bool (a b : Bool) : fEq (.bool a) (.bool b) = some (.bool (decide (a = b))) := rfl
theorem fNe_int (a b : Int) : fNe (.int a) (.int b) = some (.bool (!decide (a = b))) := rfl
theorem fNe_str (a b : Str) : fNe (.str a) (.str b) = some (.bool (!decide (a = b))) := rfl
theorem fNe_bool (a b : Bool) : fNe (.bool a) (.bool b) = some (.bool (!decide (a = b))) := rfl
theorem eqv_self {d : PyData} (h : SeqAt.shaped d = true) : PyData.eqv d d = true := SeqAt.eqv_refl d (SeqAt.canLay_of_shaped h)
theorem fNe_self {d : PyData} (h : SeqAt.shaped d = true) : fNe d d = some (.bool false) := by
  have e := eqv_self h
  cases d <;> simp_all [fNe]
theorem fEq_self {d : PyData} (h : SeqAt.shaped d = true) : fEq d d = some (.bool true) := by
  have e := eqv_self h
  cases d <;> simp_all [fEq]
theorem at_0 {x : PyData} {l : List PyData} : atI (x :: l) 0 = some x := atI_nat (j := 0) rfl
theorem at_1 {x y : PyData} {l : List PyData} : atI (x :: y :: l) 1 = some y := atI_nat (j := 1) rfl
theorem at_2 {x y z : PyData} {l : List PyData} : atI (x :: y :: z :: l) 2 = some z := atI_nat (j := 2) rfl
theorem at_get {l : List Int} {k : Nat} (h : k < l.length) : atI (l.map PyData.int) (k : Int) = some (.int (l.getD k 0)) := by
  refine atI_nat ?_
  rw [List.getElem?_map, List.getElem?_eq_getElem h, List.getD_eq_getElem?_getD, List.getElem?_eq_getElem h]
  rfl
theorem at_getZ {l : List Int} {z : Int} (h0 : 0 ≤ z) (h : z < l.length) : atI (l.map PyData.int) z = some (.int (l.getD z.toNat 0)) := by
  obtain ⟨k, rfl⟩ : ∃ k : Nat, z = k := ⟨z.toNat, by omega⟩
  rw [at_get (by omega), Int.toNat_natCast]
theorem ixN_nat {n k : Nat} (h : k < n) : ixN n (k : Int) = some k := by
  unfold ixN
  rw [if_pos (by omega), if_pos (by omega), Int.toNat_natCast]
theorem cut_to {l : List PyData} {b : Nat} : cutD l none (some (b : Int)) = l.take b := by
  unfold cutD
  rw [HT.sIx_none, HT.sIx_nat, List.drop_zero, Nat.sub_zero]
  by_cases h : b ≤ l.length
  · rw [Nat.min_eq_left h]
  · rw [Nat.min_eq_right (by omega), List.take_length, List.take_of_length_le (by omega)]
theorem cut_from {l : List PyData} {a : Nat} : cutD l (some (a : Int)) none = l.drop a := by
  unfold cutD
  rw [HT.sIx_none, HT.sIx_nat]
  by_cases h : a ≤ l.length
  · rw [Nat.min_eq_left h, List.take_of_length_le (by rw [List.length_drop]; exact Nat.le_refl _)]
  · rw [Nat.min_eq_right (by omega), List.drop_of_length_le (Nat.le_refl _), List.drop_of_length_le (by omega), List.take_nil]
theorem cut_mid {l : List PyData} {a b : Nat} : cutD l (some (a : Int)) (some (b : Int)) = (l.drop a).take (b - a) := by
  unfold cutD
  rw [HT.sIx_nat, HT.sIx_nat]
  by_cases h : a ≤ l.length
  · rw [Nat.min_eq_left h]
    by_cases hb : b ≤ l.length
    · rw [Nat.min_eq_left hb]
    · rw [Nat.min_eq_right (by omega), List.take_of_length_le (by rw [List.length_drop]; exact Nat.le_refl _), List.take_of_length_le (by rw [List.length_drop]; omega)]
  · rw [Nat.min_eq_right (show l.length ≤ a by omega), List.drop_of_length_le (Nat.le_refl _), List.drop_of_length_le (show l.length ≤ a by omega), List.take_nil, List.take_nil]
theorem cut_fromZ {l : List PyData} {z : Int} (h : 0 ≤ z) : cutD l (some z) none = l.drop z.toNat := by
  obtain ⟨k, rfl⟩ : ∃ k : Nat, z = k := ⟨z.toNat, by omega⟩
  rw [cut_from, Int.toNat_natCast]
theorem cut_toZ {l : List PyData} {z : Int} (h : 0 ≤ z) : cutD l none (some z) = l.take z.toNat := by
  obtain ⟨k, rfl⟩ : ∃ k : Nat, z = k := ⟨z.toNat, by omega⟩
  rw [cut_to, Int.toNat_natCast]
/-! ### rows -/
inductive Step where
  | pour (a : Int)
  | spend (i : Nat) (a : Int)
abbrev eT (l : List Int) : PyData := .tuple (l.map .int)
abbrev eStep (s : Step) : PyData := match s with
  | .pour a => .tuple [.str "pour", .int a]
  | .spend i a => .tuple [.str "spend", .int (i : Int), .int a]
abbrev eS (s : List Step) : PyData := .tuple (s.map eStep)
def eR : Option (List Int × Int) → PyData
  | none => .none
  | some r => .tuple [eT r.1, .int r.2]
theorem pour_spend : (("pour" : Str) = "spend") = False := by
  have : ¬ (("pour" : Str) = "spend") := by decide +kernel
  simp [this]
theorem spend_pour : (("spend" : Str) = "pour") = False := by
  have : ¬ (("spend" : Str) = "pour") := by decide +kernel
  simp [this]
def pourM : List Int → List Int → Int → List Int × Int
  | c :: cs, l :: ls, a => ((l + min a (c - l)) :: (pourM cs ls (a - min a (c - l))).1, (pourM cs ls (a - min a (c - l))).2)
  | _, _, a => ([], a)
def stepM (caps lv : List Int) : Step → Option (List Int × Int)
  | .pour a => some (pourM caps lv a)
  | .spend i a => if lv.getD i 0 < a then none else some (lv.set i (lv.getD i 0 - a), 0)
def runA (caps : List Int) : List Int → Int → List Step → Option (List Int × Int)
  | lv, x, [] => some (lv, x)
  | lv, x, s :: r => match stepM caps lv s with
    | none => none
    | some p => runA caps p.1 (x + p.2) r
abbrev runM (caps lv : List Int) (s : List Step) : Option (List Int × Int) := runA caps lv 0 s
/-- the levels fit the caps -/
def Lv : List Int → List Int → Prop
  | [], [] => True
  | c :: cs, l :: ls => 0 ≤ l ∧ l ≤ c ∧ Lv cs ls
  | _, _ => False
def StOk (n : Nat) : Step → Prop
  | .pour a => 0 ≤ a
  | .spend i a => i < n ∧ 0 ≤ a
theorem pourM_len : ∀ {cs ls : List Int} {a : Int}, cs.length = ls.length → (pourM cs ls a).1.length = ls.length
  | [], [], _, _ => rfl
  | c :: cs, l :: ls, a, h => by
    simp only [pourM, List.length_cons]
    rw [pourM_len (by simpa using h)]
theorem stepM_len {caps lv : List Int} {s : Step} {p : List Int × Int} (hl : caps.length = lv.length) (h : stepM caps lv s = some p) : p.1.length = lv.length := by
  cases s with
  | pour a =>
    cases h
    exact pourM_len hl
  | spend i a =>
    simp only [stepM] at h
    split at h
    · cases h
    · cases h
      rw [List.length_set]
theorem Lv.len : ∀ {cs ls : List Int}, Lv cs ls → cs.length = ls.length
  | [], [], _ => rfl
  | _ :: _, _ :: _, h => by rw [List.length_cons, List.length_cons, h.2.2.len]
  | [], _ :: _, h => h.elim
  | _ :: _, [], h => h.elim
theorem Lv.get : ∀ {cs ls : List Int} {i : Nat}, Lv cs ls → i < ls.length → 0 ≤ ls.getD i 0 ∧ ls.getD i 0 ≤ cs.getD i 0
  | c :: cs, l :: ls, 0, h, _ => ⟨h.1, h.2.1⟩
  | c :: cs, l :: ls, i + 1, h, hi => by
    have := h.2.2.get (i := i) (by simpa using hi)
    simpa using this
  | [], [], i, _, h => by simp at h
  | [], _ :: _, _, h, _ => h.elim
  | _ :: _, [], _, h, _ => h.elim
theorem Lv.set : ∀ {cs ls : List Int} {i : Nat} {v : Int}, Lv cs ls → 0 ≤ v → v ≤ cs.getD i 0 → Lv cs (ls.set i v)
  | c :: cs, l :: ls, 0, v, h, h0, h1 => ⟨h0, by simpa using h1, h.2.2⟩
  | c :: cs, l :: ls, i + 1, v, h, h0, h1 => ⟨h.1, h.2.1, h.2.2.set h0 (by simpa using h1)⟩
  | [], [], i, v, h, _, _ => h
  | [], _ :: _, _, _, h, _, _ => h.elim
  | _ :: _, [], _, _, h, _, _ => h.elim
theorem Lv.pour : ∀ {cs ls : List Int} {a : Int}, Lv cs ls → 0 ≤ a → Lv cs (pourM cs ls a).1 ∧ 0 ≤ (pourM cs ls a).2
  | [], [], a, h, h0 => ⟨trivial, h0⟩
  | c :: cs, l :: ls, a, h, h0 => by
    obtain ⟨h1, h2, h3⟩ := h
    have ih := h3.pour (a := a - min a (c - l)) (by omega)
    exact ⟨⟨by omega, by omega, ih.1⟩, ih.2⟩
  | [], _ :: _, _, h, _ => h.elim
  | _ :: _, [], _, h, _ => h.elim
theorem Lv.step {caps lv : List Int} {s : Step} {p : List Int × Int} (h : Lv caps lv) (hs : StOk caps.length s) (e : stepM caps lv s = some p) : Lv caps p.1 ∧ 0 ≤ p.2 := by
  cases s with
  | pour a =>
    cases e
    exact h.pour hs
  | spend i a =>
    simp only [stepM] at e
    split at e
    · cases e
    · cases e
      obtain ⟨h1, h2⟩ := h.get (i := i) (by rw [← h.len]; exact hs.1)
      have h3 : 0 ≤ a := hs.2
      exact ⟨h.set (by omega) (by omega), Int.le_refl _⟩
theorem Lv.run : ∀ {s : List Step} {caps lv : List Int} {x : Int} {p : List Int × Int}, Lv caps lv → (∀ t ∈ s, StOk caps.length t) → runA caps lv x s = some p → Lv caps p.1 ∧ x ≤ p.2
  | [], _, _, _, _, h, _, e => by
    cases e
    exact ⟨h, Int.le_refl _⟩
  | t :: s, caps, lv, x, p, h, hs, e => by
    unfold runA at e
    split at e
    · cases e
    · rename_i q hq
      obtain ⟨h1, h2⟩ := h.step (hs t (by simp)) hq
      obtain ⟨h3, h4⟩ := Lv.run h1 (fun u hu => hs u (by simp [hu])) e
      exact ⟨h3, by omega⟩
theorem Lv.snoc : ∀ {cs ls : List Int} {c l : Int}, Lv cs ls → 0 ≤ l → l ≤ c → Lv (cs ++ [c]) (ls ++ [l])
  | [], [], c, l, _, h0, h1 => ⟨h0, h1, trivial⟩
  | _ :: _, _ :: _, c, l, h, h0, h1 => ⟨h.1, h.2.1, h.2.2.snoc h0 h1⟩
  | [], _ :: _, _, _, h, _, _ => h.elim
  | _ :: _, [], _, _, h, _, _ => h.elim
/-! ### data that are compared -/
theorem canLay_ints : ∀ l : List Int, PyData.canLayAll0 (l.map .int) = true
  | [] => rfl
  | _ :: l => by
    show (PyData.canLay0 (.int _) && PyData.canLayAll0 (l.map .int)) = true
    rw [canLay_ints l]
    rfl
theorem depth_ints : ∀ l : List Int, PyData.depthAll (l.map .int) ≤ 1
  | [] => by simp [PyData.depthAll]
  | _ :: l => by
    have := depth_ints l
    simp only [List.map_cons, PyData.depthAll, PyData.depth]
    omega
theorem shaped_eR (r : Option (List Int × Int)) : SeqAt.shaped (eR r) = true := by
  cases r with
  | none => rfl
  | some p =>
    have h := depth_ints p.1
    have h2 := canLay_ints p.1
    simp only [SeqAt.shaped, eR, PyData.canLay0, PyData.canLayAll0, h2, PyData.depth, PyData.depthAll, Bool.and_true, Bool.true_and, decide_eq_true_eq]
    omega
end Lw

namespace Lw
open PySem L2 Fi
/-- the law's own pour, place by place -/
theorem lpour_loop (L S x3 x5 : Option Sl) (caps : List Int) (C : Option Sl) : ∀ (cs ls : List Int) (pl : List Int) (i : Nat) (a : Int) (x7 x8 x9 : Option Sl), cs.length = ls.length → pl.length = i → ∃ y7 y8 y9,
    forD (gTupF 2 (gsCons (gSet 7) (gsCons (gSet 8) gsNil))) lp__law_run_0 (List.zipWith (fun (i : Nat) y => .tuple [.int (i : Int), y]) (List.range' i cs.length) (cs.map .int)) [C, L, S, x3, some (.own ((pl ++ ls).map .int)), x5, some (.val (.int a)), x7, x8, x9]
      = some (.next [C, L, S, x3, some (.own ((pl ++ (pourM cs ls a).1).map .int)), x5, some (.val (.int (pourM cs ls a).2)), y7, y8, y9])
  | [], [], pl, i, a, x7, x8, x9, _, _ => ⟨x7, x8, x9, by simp [forD, pourM]⟩
  | [], _ :: _, _, _, _, _, _, _, h, _ => by simp at h
  | _ :: _, [], _, _, _, _, _, _, h, _ => by simp at h
  | c :: cs, l :: ls, pl, i, a, x7, x8, x9, h, hi => by
    have hlt : i < (pl ++ l :: ls).length := by simp; omega
    have gv : (pl ++ l :: ls).getD i 0 = l := by
      rw [List.getD_eq_getElem?_getD, List.getElem?_append_right (by omega), hi, Nat.sub_self]
      rfl
    have g1 : atI ((pl ++ l :: ls).map PyData.int) (i : Int) = some (.int l) := by
      have := at_get hlt
      rw [gv] at this
      exact this
    have hx : ixN ((pl ++ l :: ls).map PyData.int).length (i : Int) = some i := ixN_nat (by rw [List.length_map]; exact hlt)
    have hset : ∀ v : Int, ((pl ++ l :: ls).map PyData.int).set i (.int v) = ((pl ++ [v]) ++ ls).map .int := fun v => by
      rw [← List.map_set]
      congr 1
      subst hi
      simp [List.set_append]
    obtain ⟨y7, y8, y9, ih⟩ := lpour_loop L S x3 x5 caps C cs ls (pl ++ [l + min a (c - l)]) (i + 1) (a - min a (c - l)) (some (.val (.int i))) (some (.val (.int c))) (some (.val (.int (min a (c - l))))) (by simpa using h) (by simp [hi])
    have hb : lp__law_run_0 [C, L, S, x3, some (.own ((pl ++ l :: ls).map .int)), x5, some (.val (.int a)), some (.val (.int i)), some (.val (.int c)), x9]
        = some (.next [C, L, S, x3, some (.own (((pl ++ [l + min a (c - l)]) ++ ls).map .int)), x5, some (.val (.int (a - min a (c - l)))), some (.val (.int i)), some (.val (.int c)), some (.val (.int (min a (c - l))))]) := by
      simp only [List.length_map] at hx
      by_cases hlt2 : c - l < a
      · have em : min a (c - l) = c - l := by omega
        simp only [sSeq, sSet, sOwn, sPar, sParL,  sIf, sRet, sRetL, sRetO, sDrop, sAug, sApp, sFrz, frz, sAsg, gSet, gsNil, gsCons, gTupF, Fi.gSub, sFor, iL, iT, iR1, iR2, iZ, iEn, itemsK, eVar, eC, Fi.e2, Fi.e1, asB, eChain, tAndF, tOrF, tNotF, eAnd, eOr, eNot, eIf, aNil, aCons, eTup, lLst, eL, eCall, lCall, eCallF, lCallF, eSlT, lSl, oNone, oSome, ownIx, ownLen, lLc, wipeE, pYes, sNext, fnD, entry, fAdd_int, fSub, fMul_l, fMul_r, fDiv_ok, fMod_ok, fPow_ok, fLt, fLe, fGt, fGe, fEq_int, fEq_str, fEq_bool, fNe_int, fNe_str, fNe_bool, isN, fIs, fIsNot, fIx, fNeg, fLen, fMin, fMax, fTuple, fList, fIntB, fSum, fAll, fAny, at_0, at_1, at_2, eT, eS, eStep, eR, getInts_map, Option.bind_some, Option.map_some, List.getElem?_cons_succ, List.getElem?_cons_zero, List.set_cons_succ, List.set_cons_zero, List.length_cons, List.length_nil, List.length_map, List.map_cons, List.map_nil, List.nil_append, List.cons_append, List.replicate, Nat.zero_add, Nat.reduceAdd, Nat.reduceSub, decide_true, decide_false, reduceIte, Nat.reduceLeDiff, Nat.reduceLT, Int.reduceLT, Int.reduceLE, Int.reduceNeg, Int.reducePow, and_self, or_self, and_true, true_and, or_true, true_or, Bool.not_true, Bool.not_false, pour_spend, spend_pour, lp__law_run_0, g1, hlt2, em, hx, hset]
      · have em : min a (c - l) = a := by omega
        simp only [sSeq, sSet, sOwn, sPar, sParL,  sIf, sRet, sRetL, sRetO, sDrop, sAug, sApp, sFrz, frz, sAsg, gSet, gsNil, gsCons, gTupF, Fi.gSub, sFor, iL, iT, iR1, iR2, iZ, iEn, itemsK, eVar, eC, Fi.e2, Fi.e1, asB, eChain, tAndF, tOrF, tNotF, eAnd, eOr, eNot, eIf, aNil, aCons, eTup, lLst, eL, eCall, lCall, eCallF, lCallF, eSlT, lSl, oNone, oSome, ownIx, ownLen, lLc, wipeE, pYes, sNext, fnD, entry, fAdd_int, fSub, fMul_l, fMul_r, fDiv_ok, fMod_ok, fPow_ok, fLt, fLe, fGt, fGe, fEq_int, fEq_str, fEq_bool, fNe_int, fNe_str, fNe_bool, isN, fIs, fIsNot, fIx, fNeg, fLen, fMin, fMax, fTuple, fList, fIntB, fSum, fAll, fAny, at_0, at_1, at_2, eT, eS, eStep, eR, getInts_map, Option.bind_some, Option.map_some, List.getElem?_cons_succ, List.getElem?_cons_zero, List.set_cons_succ, List.set_cons_zero, List.length_cons, List.length_nil, List.length_map, List.map_cons, List.map_nil, List.nil_append, List.cons_append, List.replicate, Nat.zero_add, Nat.reduceAdd, Nat.reduceSub, decide_true, decide_false, reduceIte, Nat.reduceLeDiff, Nat.reduceLT, Int.reduceLT, Int.reduceLE, Int.reduceNeg, Int.reducePow, and_self, or_self, and_true, true_and, or_true, true_or, Bool.not_true, Bool.not_false, pour_spend, spend_pour, lp__law_run_0, g1, hlt2, em, hx, hset]
    refine ⟨y7, y8, y9, ?_⟩
    rw [List.length_cons, List.range'_succ, List.map_cons, List.zipWith_cons_cons]
    refine forD_step (e1 := [C, L, S, x3, some (.own ((pl ++ l :: ls).map .int)), x5, some (.val (.int a)), some (.val (.int i)), some (.val (.int c)), x9]) rfl hb (ih.trans ?_)
    simp only [pourM, List.append_assoc, List.singleton_append]
theorem lrun_loop {caps : List Int} (hc : caps.length ≤ 100) (L S : Option Sl) : ∀ (s : List Step) (lv : List Int) (x : Int) (y3 y6 y7 y8 y9 : Option Sl), caps.length = lv.length → (∀ t ∈ s, StOk caps.length t) →
    match runA caps lv x s with
    | none => forD (gSet 3) lp__law_run_1 (s.map eStep) [some (.val (eT caps)), L, S, y3, some (.own (lv.map .int)), some (.val (.int x)), y6, y7, y8, y9] = some (.ret .none)
    | some p => ∃ z3 z6 z7 z8 z9, forD (gSet 3) lp__law_run_1 (s.map eStep) [some (.val (eT caps)), L, S, y3, some (.own (lv.map .int)), some (.val (.int x)), y6, y7, y8, y9]
        = some (.next [some (.val (eT caps)), L, S, z3, some (.own (p.1.map .int)), some (.val (.int p.2)), z6, z7, z8, z9])
  | [], lv, x, y3, y6, y7, y8, y9, hl, hs => ⟨y3, y6, y7, y8, y9, rfl⟩
  | .pour a :: s, lv, x, y3, y6, y7, y8, y9, hl, hs => by
    obtain ⟨w7, w8, w9, hp⟩ := lpour_loop L S (some (.val (eStep (.pour a)))) (some (.val (.int x))) caps (some (.val (eT caps))) caps lv [] 0 a y7 y8 y9 hl rfl
    have ih := lrun_loop hc L S s (pourM caps lv a).1 (x + (pourM caps lv a).2) (some (.val (eStep (.pour a)))) (some (.val (.int (pourM caps lv a).2))) w7 w8 w9 (by rw [pourM_len hl, hl]) (fun t ht => hs t (by simp [ht]))
    have hb : lp__law_run_1 [some (.val (eT caps)), L, S, some (.val (eStep (.pour a))), some (.own (lv.map .int)), some (.val (.int x)), y6, y7, y8, y9]
        = some (.next [some (.val (eT caps)), L, S, some (.val (eStep (.pour a))), some (.own ((pourM caps lv a).1.map .int)), some (.val (.int (x + (pourM caps lv a).2))), some (.val (.int (pourM caps lv a).2)), w7, w8, w9]) := by
      simp only [List.nil_append, eT, eStep] at hp
      rw [← List.range_eq_range'] at hp
      simp only [sSeq, sSet, sOwn, sPar, sParL,  sIf, sRet, sRetL, sRetO, sDrop, sAug, sApp, sFrz, frz, sAsg, gSet, gsNil, gsCons, gTupF, Fi.gSub, sFor, iL, iT, iR1, iR2, iZ, iEn, itemsK, eVar, eC, Fi.e2, Fi.e1, asB, eChain, tAndF, tOrF, tNotF, eAnd, eOr, eNot, eIf, aNil, aCons, eTup, lLst, eL, eCall, lCall, eCallF, lCallF, eSlT, lSl, oNone, oSome, ownIx, ownLen, lLc, wipeE, pYes, sNext, fnD, entry, fAdd_int, fSub, fMul_l, fMul_r, fDiv_ok, fMod_ok, fPow_ok, fLt, fLe, fGt, fGe, fEq_int, fEq_str, fEq_bool, fNe_int, fNe_str, fNe_bool, isN, fIs, fIsNot, fIx, fNeg, fLen, fMin, fMax, fTuple, fList, fIntB, fSum, fAll, fAny, at_0, at_1, at_2, eT, eS, eStep, eR, getInts_map, Option.bind_some, Option.map_some, List.getElem?_cons_succ, List.getElem?_cons_zero, List.set_cons_succ, List.set_cons_zero, List.length_cons, List.length_nil, List.length_map, List.map_cons, List.map_nil, List.nil_append, List.cons_append, List.replicate, Nat.zero_add, Nat.reduceAdd, Nat.reduceSub, decide_true, decide_false, reduceIte, Nat.reduceLeDiff, Nat.reduceLT, Int.reduceLT, Int.reduceLE, Int.reduceNeg, Int.reducePow, and_self, or_self, and_true, true_and, or_true, true_or, Bool.not_true, Bool.not_false, pour_spend, spend_pour, lp__law_run_1, enumD, hp]
    simp only [runA, stepM]
    cases hr : runA caps (pourM caps lv a).1 (x + (pourM caps lv a).2) s with
    | none =>
      rw [hr] at ih
      exact forD_step rfl hb ih
    | some p =>
      rw [hr] at ih
      obtain ⟨z3, z6, z7, z8, z9, ih⟩ := ih
      exact ⟨z3, z6, z7, z8, z9, forD_step rfl hb ih⟩
  | .spend i a :: s, lv, x, y3, y6, y7, y8, y9, hl, hs => by
    have hi : i < caps.length := (hs (.spend i a) (by simp)).1
    have hil : i < lv.length := by omega
    have hg := at_get hil
    simp only [runA, stepM]
    by_cases hlt : lv.getD i 0 < a
    · simp only [if_pos hlt]
      refine forD_ret rfl ?_
      show lp__law_run_1 [some (.val (eT caps)), L, S, some (.val (eStep (.spend i a))), some (.own (lv.map .int)), some (.val (.int x)), y6, y7, y8, y9] = _
      simp only [sSeq, sSet, sOwn, sPar, sParL,  sIf, sRet, sRetL, sRetO, sDrop, sAug, sApp, sFrz, frz, sAsg, gSet, gsNil, gsCons, gTupF, Fi.gSub, sFor, iL, iT, iR1, iR2, iZ, iEn, itemsK, eVar, eC, Fi.e2, Fi.e1, asB, eChain, tAndF, tOrF, tNotF, eAnd, eOr, eNot, eIf, aNil, aCons, eTup, lLst, eL, eCall, lCall, eCallF, lCallF, eSlT, lSl, oNone, oSome, ownIx, ownLen, lLc, wipeE, pYes, sNext, fnD, entry, fAdd_int, fSub, fMul_l, fMul_r, fDiv_ok, fMod_ok, fPow_ok, fLt, fLe, fGt, fGe, fEq_int, fEq_str, fEq_bool, fNe_int, fNe_str, fNe_bool, isN, fIs, fIsNot, fIx, fNeg, fLen, fMin, fMax, fTuple, fList, fIntB, fSum, fAll, fAny, at_0, at_1, at_2, eT, eS, eStep, eR, getInts_map, Option.bind_some, Option.map_some, List.getElem?_cons_succ, List.getElem?_cons_zero, List.set_cons_succ, List.set_cons_zero, List.length_cons, List.length_nil, List.length_map, List.map_cons, List.map_nil, List.nil_append, List.cons_append, List.replicate, Nat.zero_add, Nat.reduceAdd, Nat.reduceSub, decide_true, decide_false, reduceIte, Nat.reduceLeDiff, Nat.reduceLT, Int.reduceLT, Int.reduceLE, Int.reduceNeg, Int.reducePow, and_self, or_self, and_true, true_and, or_true, true_or, Bool.not_true, Bool.not_false, pour_spend, spend_pour, lp__law_run_1, hg, hlt]
    · simp only [if_neg hlt, Int.add_zero]
      have ih := lrun_loop hc L S s (lv.set i (lv.getD i 0 - a)) x (some (.val (eStep (.spend i a)))) y6 y7 y8 y9 (by rw [List.length_set, hl]) (fun t ht => hs t (by simp [ht]))
      have hx : ixN (lv.map PyData.int).length (i : Int) = some i := ixN_nat (by rw [List.length_map]; exact hil)
      simp only [List.length_map] at hx
      have hset : (lv.map PyData.int).set i (.int (lv.getD i 0 - a)) = (lv.set i (lv.getD i 0 - a)).map .int := by rw [← List.map_set]
      have hb : lp__law_run_1 [some (.val (eT caps)), L, S, some (.val (eStep (.spend i a))), some (.own (lv.map .int)), some (.val (.int x)), y6, y7, y8, y9]
          = some (.next [some (.val (eT caps)), L, S, some (.val (eStep (.spend i a))), some (.own ((lv.set i (lv.getD i 0 - a)).map .int)), some (.val (.int x)), y6, y7, y8, y9]) := by
        simp only [sSeq, sSet, sOwn, sPar, sParL,  sIf, sRet, sRetL, sRetO, sDrop, sAug, sApp, sFrz, frz, sAsg, gSet, gsNil, gsCons, gTupF, Fi.gSub, sFor, iL, iT, iR1, iR2, iZ, iEn, itemsK, eVar, eC, Fi.e2, Fi.e1, asB, eChain, tAndF, tOrF, tNotF, eAnd, eOr, eNot, eIf, aNil, aCons, eTup, lLst, eL, eCall, lCall, eCallF, lCallF, eSlT, lSl, oNone, oSome, ownIx, ownLen, lLc, wipeE, pYes, sNext, fnD, entry, fAdd_int, fSub, fMul_l, fMul_r, fDiv_ok, fMod_ok, fPow_ok, fLt, fLe, fGt, fGe, fEq_int, fEq_str, fEq_bool, fNe_int, fNe_str, fNe_bool, isN, fIs, fIsNot, fIx, fNeg, fLen, fMin, fMax, fTuple, fList, fIntB, fSum, fAll, fAny, at_0, at_1, at_2, eT, eS, eStep, eR, getInts_map, Option.bind_some, Option.map_some, List.getElem?_cons_succ, List.getElem?_cons_zero, List.set_cons_succ, List.set_cons_zero, List.length_cons, List.length_nil, List.length_map, List.map_cons, List.map_nil, List.nil_append, List.cons_append, List.replicate, Nat.zero_add, Nat.reduceAdd, Nat.reduceSub, decide_true, decide_false, reduceIte, Nat.reduceLeDiff, Nat.reduceLT, Int.reduceLT, Int.reduceLE, Int.reduceNeg, Int.reducePow, and_self, or_self, and_true, true_and, or_true, true_or, Bool.not_true, Bool.not_false, pour_spend, spend_pour, lp__law_run_1, hg, hlt, hx, hset]
      cases hr : runA caps (lv.set i (lv.getD i 0 - a)) x s with
      | none =>
        rw [hr] at ih
        exact forD_step rfl hb ih
      | some p =>
        rw [hr] at ih
        obtain ⟨z3, z6, z7, z8, z9, ih⟩ := ih
        exact ⟨z3, z6, z7, z8, z9, forD_step rfl hb ih⟩
theorem lrun_ok {caps lv : List Int} {s : List Step} (hc : caps.length ≤ 100) (hl : caps.length = lv.length) (hs : ∀ t ∈ s, StOk caps.length t) : F__law_run [eT caps, eT lv, eS s] = some (.val (eR (runM caps lv s))) := by
  have h := lrun_loop hc (some (.val (eT lv))) (some (.val (eS s))) s lv 0 none none none none none hl hs
  cases hr : runM caps lv s with
  | none =>
    have hr' : runA caps lv 0 s = none := hr
    rw [hr'] at h
    refine fn_ret ?_
    unfold b__law_run
    simp only [eT, eS] at h ⊢
    simp only [sSeq, sSet, sOwn, sPar, sParL,  sIf, sRet, sRetL, sRetO, sDrop, sAug, sApp, sFrz, frz, sAsg, gSet, gsNil, gsCons, gTupF, Fi.gSub, sFor, iL, iT, iR1, iR2, iZ, iEn, itemsK, eVar, eC, Fi.e2, Fi.e1, asB, eChain, tAndF, tOrF, tNotF, eAnd, eOr, eNot, eIf, aNil, aCons, eTup, lLst, eL, eCall, lCall, eCallF, lCallF, eSlT, lSl, oNone, oSome, ownIx, ownLen, lLc, wipeE, pYes, sNext, fnD, entry, fAdd_int, fSub, fMul_l, fMul_r, fDiv_ok, fMod_ok, fPow_ok, fLt, fLe, fGt, fGe, fEq_int, fEq_str, fEq_bool, fNe_int, fNe_str, fNe_bool, isN, fIs, fIsNot, fIx, fNeg, fLen, fMin, fMax, fTuple, fList, fIntB, fSum, fAll, fAny, at_0, at_1, at_2, eT, eS, eStep, eR, getInts_map, Option.bind_some, Option.map_some, List.getElem?_cons_succ, List.getElem?_cons_zero, List.set_cons_succ, List.set_cons_zero, List.length_cons, List.length_nil, List.length_map, List.map_cons, List.map_nil, List.nil_append, List.cons_append, List.replicate, Nat.zero_add, Nat.reduceAdd, Nat.reduceSub, decide_true, decide_false, reduceIte, Nat.reduceLeDiff, Nat.reduceLT, Int.reduceLT, Int.reduceLE, Int.reduceNeg, Int.reducePow, and_self, or_self, and_true, true_and, or_true, true_or, Bool.not_true, Bool.not_false, pour_spend, spend_pour, h]
  | some p =>
    have hr' : runA caps lv 0 s = some p := hr
    rw [hr'] at h
    obtain ⟨z3, z6, z7, z8, z9, h⟩ := h
    refine fn_ret ?_
    unfold b__law_run
    simp only [eT, eS] at h ⊢
    simp only [sSeq, sSet, sOwn, sPar, sParL,  sIf, sRet, sRetL, sRetO, sDrop, sAug, sApp, sFrz, frz, sAsg, gSet, gsNil, gsCons, gTupF, Fi.gSub, sFor, iL, iT, iR1, iR2, iZ, iEn, itemsK, eVar, eC, Fi.e2, Fi.e1, asB, eChain, tAndF, tOrF, tNotF, eAnd, eOr, eNot, eIf, aNil, aCons, eTup, lLst, eL, eCall, lCall, eCallF, lCallF, eSlT, lSl, oNone, oSome, ownIx, ownLen, lLc, wipeE, pYes, sNext, fnD, entry, fAdd_int, fSub, fMul_l, fMul_r, fDiv_ok, fMod_ok, fPow_ok, fLt, fLe, fGt, fGe, fEq_int, fEq_str, fEq_bool, fNe_int, fNe_str, fNe_bool, isN, fIs, fIsNot, fIx, fNeg, fLen, fMin, fMax, fTuple, fList, fIntB, fSum, fAll, fAny, at_0, at_1, at_2, eT, eS, eStep, eR, getInts_map, Option.bind_some, Option.map_some, List.getElem?_cons_succ, List.getElem?_cons_zero, List.set_cons_succ, List.set_cons_zero, List.length_cons, List.length_nil, List.length_map, List.map_cons, List.map_nil, List.nil_append, List.cons_append, List.replicate, Nat.zero_add, Nat.reduceAdd, Nat.reduceSub, decide_true, decide_false, reduceIte, Nat.reduceLeDiff, Nat.reduceLT, Int.reduceLT, Int.reduceLE, Int.reduceNeg, Int.reducePow, and_self, or_self, and_true, true_and, or_true, true_or, Bool.not_true, Bool.not_false, pour_spend, spend_pour, h]
end Lw

namespace Lw
open PySem L2 Fi
theorem cell_ok (ns : List Int) (k : Nat) (hk : k ≤ 1000) (hl : ns.length ≤ 63) : ∃ c : Int, F__law_cell [.list (ns.map .int), .int k] = some (.val (.int c)) := by
  by_cases h1 : (k : Int) < (ns.length : Int)
  · have hg := at_get (l := ns) (k := k) (by omega)
    refine ⟨ns.getD k 0, fn_ret ?_⟩
    unfold b__law_cell
    simp only [sSeq, sSet, sOwn, sPar, sParL,  sIf, sRet, sRetL, sRetO, sDrop, sAug, sApp, sFrz, frz, sAsg, gSet, gsNil, gsCons, gTupF, Fi.gSub, sFor, iL, iT, iR1, iR2, iZ, iEn, itemsK, eVar, eC, Fi.e2, Fi.e1, asB, eChain, tAndF, tOrF, tNotF, eAnd, eOr, eNot, eIf, aNil, aCons, eTup, lLst, eL, eCall, lCall, eCallF, lCallF, eSlT, lSl, oNone, oSome, ownIx, ownLen, lLc, wipeE, pYes, sNext, fnD, entry, fAdd_int, fSub, fMul_l, fMul_r, fDiv_ok, fMod_ok, fPow_ok, fLt, fLe, fGt, fGe, fEq_int, fEq_str, fEq_bool, fNe_int, fNe_str, fNe_bool, isN, fIs, fIsNot, fIx, fNeg, fLen, fMin, fMax, fTuple, fList, fIntB, fSum, fAll, fAny, at_0, at_1, at_2, eT, eS, eStep, eR, getInts_map, Option.bind_some, Option.map_some, List.getElem?_cons_succ, List.getElem?_cons_zero, List.set_cons_succ, List.set_cons_zero, List.length_cons, List.length_nil, List.length_map, List.map_cons, List.map_nil, List.nil_append, List.cons_append, List.replicate, Nat.zero_add, Nat.reduceAdd, Nat.reduceSub, decide_true, decide_false, reduceIte, Nat.reduceLeDiff, Nat.reduceLT, Int.reduceLT, Int.reduceLE, Int.reduceNeg, Int.reducePow, and_self, or_self, and_true, true_and, or_true, true_or, Bool.not_true, Bool.not_false, pour_spend, spend_pour, h1, hg]
  · by_cases h2 : (ns.length : Int) = 0
    · have e : ns = [] := List.eq_nil_of_length_eq_zero (by omega)
      subst e
      have h3 : ¬ ((k : Int) < ((0 : Nat) : Int)) := by omega
      have h4 : (((0 : Nat) : Int) = 0) = True := by simp
      refine ⟨7919 * k + 101, fn_ret ?_⟩
      unfold b__law_cell
      simp only [sSeq, sSet, sOwn, sPar, sParL,  sIf, sRet, sRetL, sRetO, sDrop, sAug, sApp, sFrz, frz, sAsg, gSet, gsNil, gsCons, gTupF, Fi.gSub, sFor, iL, iT, iR1, iR2, iZ, iEn, itemsK, eVar, eC, Fi.e2, Fi.e1, asB, eChain, tAndF, tOrF, tNotF, eAnd, eOr, eNot, eIf, aNil, aCons, eTup, lLst, eL, eCall, lCall, eCallF, lCallF, eSlT, lSl, oNone, oSome, ownIx, ownLen, lLc, wipeE, pYes, sNext, fnD, entry, fAdd_int, fSub, fMul_l, fMul_r, fDiv_ok, fMod_ok, fPow_ok, fLt, fLe, fGt, fGe, fEq_int, fEq_str, fEq_bool, fNe_int, fNe_str, fNe_bool, isN, fIs, fIsNot, fIx, fNeg, fLen, fMin, fMax, fTuple, fList, fIntB, fSum, fAll, fAny, at_0, at_1, at_2, eT, eS, eStep, eR, getInts_map, Option.bind_some, Option.map_some, List.getElem?_cons_succ, List.getElem?_cons_zero, List.set_cons_succ, List.set_cons_zero, List.length_cons, List.length_nil, List.length_map, List.map_cons, List.map_nil, List.nil_append, List.cons_append, List.replicate, Nat.zero_add, Nat.reduceAdd, Nat.reduceSub, decide_true, decide_false, reduceIte, Nat.reduceLeDiff, Nat.reduceLT, Int.reduceLT, Int.reduceLE, Int.reduceNeg, Int.reducePow, and_self, or_self, and_true, true_and, or_true, true_or, Bool.not_true, Bool.not_false, pour_spend, spend_pour, h3, h4]
    · have hpos : 0 < (ns.length : Int) := by omega
      have hm0 := Int.emod_nonneg (k : Int) h2
      have hm1 := Int.emod_lt_of_pos (k : Int) hpos
      have hg := at_getZ (l := ns) hm0 hm1
      refine ⟨ns.getD ((k : Int) % (ns.length : Int)).toNat 0 % 1000003 + 7919 * k, fn_ret ?_⟩
      unfold b__law_cell
      simp only [sSeq, sSet, sOwn, sPar, sParL,  sIf, sRet, sRetL, sRetO, sDrop, sAug, sApp, sFrz, frz, sAsg, gSet, gsNil, gsCons, gTupF, Fi.gSub, sFor, iL, iT, iR1, iR2, iZ, iEn, itemsK, eVar, eC, Fi.e2, Fi.e1, asB, eChain, tAndF, tOrF, tNotF, eAnd, eOr, eNot, eIf, aNil, aCons, eTup, lLst, eL, eCall, lCall, eCallF, lCallF, eSlT, lSl, oNone, oSome, ownIx, ownLen, lLc, wipeE, pYes, sNext, fnD, entry, fAdd_int, fSub, fMul_l, fMul_r, fDiv_ok, fMod_ok, fPow_ok, fLt, fLe, fGt, fGe, fEq_int, fEq_str, fEq_bool, fNe_int, fNe_str, fNe_bool, isN, fIs, fIsNot, fIx, fNeg, fLen, fMin, fMax, fTuple, fList, fIntB, fSum, fAll, fAny, at_0, at_1, at_2, eT, eS, eStep, eR, getInts_map, Option.bind_some, Option.map_some, List.getElem?_cons_succ, List.getElem?_cons_zero, List.set_cons_succ, List.set_cons_zero, List.length_cons, List.length_nil, List.length_map, List.map_cons, List.map_nil, List.nil_append, List.cons_append, List.replicate, Nat.zero_add, Nat.reduceAdd, Nat.reduceSub, decide_true, decide_false, reduceIte, Nat.reduceLeDiff, Nat.reduceLT, Int.reduceLT, Int.reduceLE, Int.reduceNeg, Int.reducePow, and_self, or_self, and_true, true_and, or_true, true_or, Bool.not_true, Bool.not_false, pour_spend, spend_pour, h1, h2, hpos, hg]
def primesL : List PyData := [.int 2147483647, .int 2147483629, .int 2147483587, .int 2147483579, .int 2147483563, .int 2147483549, .int 2147483543, .int 2147483497]
theorem prime_at (m : Int) : ∃ p : Int, atI primesL (m % 8) = some (.int p) ∧ 0 < p ∧ p < 2147483648 := by
  have h0 := Int.emod_nonneg m (show (8 : Int) ≠ 0 by decide)
  have h1 := Int.emod_lt_of_pos m (show (0 : Int) < 8 by decide)
  generalize m % 8 = r at h0 h1
  have : r = 0 ∨ r = 1 ∨ r = 2 ∨ r = 3 ∨ r = 4 ∨ r = 5 ∨ r = 6 ∨ r = 7 := by omega
  rcases this with rfl | rfl | rfl | rfl | rfl | rfl | rfl | rfl
  · exact ⟨_, atI_nat (j := 0) rfl, by decide, by decide⟩
  · exact ⟨_, atI_nat (j := 1) rfl, by decide, by decide⟩
  · exact ⟨_, atI_nat (j := 2) rfl, by decide, by decide⟩
  · exact ⟨_, atI_nat (j := 3) rfl, by decide, by decide⟩
  · exact ⟨_, atI_nat (j := 4) rfl, by decide, by decide⟩
  · exact ⟨_, atI_nat (j := 5) rfl, by decide, by decide⟩
  · exact ⟨_, atI_nat (j := 6) rfl, by decide, by decide⟩
  · exact ⟨_, atI_nat (j := 7) rfl, by decide, by decide⟩
theorem digits_eval1 (S C x9 : Option Sl) (idx base cell rest p1 p2 p3 M k : Int) (acc prs : List PyData)
    (g1 : atI prs (k % 8) = some (.int p1)) (g2 : atI prs ((3 * k + idx) % 8) = some (.int p2)) (g3 : atI prs ((k + 5) % 8) = some (.int p3)) (a1 : 0 < p1) (a2 : 0 < p2) (a3 : 0 < p3)
    (m1 : -18446744073709551616 < cell % p1) (n1 : cell % p1 < 18446744073709551616) (m2 : -18446744073709551616 < k) (n2 : k < 18446744073709551616) (m3 : -18446744073709551616 < k + 1) (n3 : k + 1 < 18446744073709551616)
    (hM : (cell % p1 * (48271 + 2 * k * k) + 7919 * (k + 1) * (k + 1) + 104729 * idx) % p2 = M) (m4 : -18446744073709551616 < M) (m5 : M < 18446744073709551616) (ha : acc.length < 100000) (hb : 0 < base ∧ base < 1073741824) (hr : 0 < rest) :
    lp__law_digits_0 [S, some (.val (.int idx)), C, some (.val (.int base)), some (.val (.tuple prs)), some (.val (.int cell)), some (.val (.int rest)), some (.own acc), some (.val (.int k)), x9] = some (.next [S, some (.val (.int idx)), C, some (.val (.int base)), some (.val (.tuple prs)), some (.val (.int cell)), some (.val (.int (rest / base))), some (.own (acc ++ [.int (rest % base)])), some (.val (.int k)), some (.val (.int (rest)))]) := by
  simp only [sSeq, sSet, sOwn, sPar, sParL,  sIf, sRet, sRetL, sRetO, sDrop, sAug, sApp, sFrz, frz, sAsg, gSet, gsNil, gsCons, gTupF, Fi.gSub, sFor, iL, iT, iR1, iR2, iZ, iEn, itemsK, eVar, eC, Fi.e2, Fi.e1, asB, eChain, tAndF, tOrF, tNotF, eAnd, eOr, eNot, eIf, aNil, aCons, eTup, lLst, eL, eCall, lCall, eCallF, lCallF, eSlT, lSl, oNone, oSome, ownIx, ownLen, lLc, wipeE, pYes, sNext, fnD, entry, fAdd_int, fSub, fMul_l, fMul_r, fDiv_ok, fMod_ok, fPow_ok, fLt, fLe, fGt, fGe, fEq_int, fEq_str, fEq_bool, fNe_int, fNe_str, fNe_bool, isN, fIs, fIsNot, fIx, fNeg, fLen, fMin, fMax, fTuple, fList, fIntB, fSum, fAll, fAny, at_0, at_1, at_2, eT, eS, eStep, eR, getInts_map, Option.bind_some, Option.map_some, List.getElem?_cons_succ, List.getElem?_cons_zero, List.set_cons_succ, List.set_cons_zero, List.length_cons, List.length_nil, List.length_map, List.map_cons, List.map_nil, List.nil_append, List.cons_append, List.replicate, Nat.zero_add, Nat.reduceAdd, Nat.reduceSub, decide_true, decide_false, reduceIte, Nat.reduceLeDiff, Nat.reduceLT, Int.reduceLT, Int.reduceLE, Int.reduceNeg, Int.reducePow, and_self, or_self, and_true, true_and, or_true, true_or, Bool.not_true, Bool.not_false, pour_spend, spend_pour, lp__law_digits_0, g1, g2, g3, a1, a2, a3, m1, n1, m2, n2, m3, n3, hM, m4, m5, hr, ha, hb]
theorem digits_eval2 (S C x9 : Option Sl) (idx base cell rest p1 p2 p3 M k : Int) (acc prs : List PyData)
    (g1 : atI prs (k % 8) = some (.int p1)) (g2 : atI prs ((3 * k + idx) % 8) = some (.int p2)) (g3 : atI prs ((k + 5) % 8) = some (.int p3)) (a1 : 0 < p1) (a2 : 0 < p2) (a3 : 0 < p3)
    (m1 : -18446744073709551616 < cell % p1) (n1 : cell % p1 < 18446744073709551616) (m2 : -18446744073709551616 < k) (n2 : k < 18446744073709551616) (m3 : -18446744073709551616 < k + 1) (n3 : k + 1 < 18446744073709551616)
    (hM : (cell % p1 * (48271 + 2 * k * k) + 7919 * (k + 1) * (k + 1) + 104729 * idx) % p2 = M) (m4 : -18446744073709551616 < M) (m5 : M < 18446744073709551616) (ha : acc.length < 100000) (hb : 0 < base ∧ base < 1073741824) (hr : ¬ 0 < rest) :
    lp__law_digits_0 [S, some (.val (.int idx)), C, some (.val (.int base)), some (.val (.tuple prs)), some (.val (.int cell)), some (.val (.int rest)), some (.own acc), some (.val (.int k)), x9] = some (.next [S, some (.val (.int idx)), C, some (.val (.int base)), some (.val (.tuple prs)), some (.val (.int cell)), some (.val (.int (rest / base))), some (.own (acc ++ [.int (M * M * M % p3 % base)])), some (.val (.int k)), some (.val (.int (M * M * M % p3)))]) := by
  simp only [sSeq, sSet, sOwn, sPar, sParL,  sIf, sRet, sRetL, sRetO, sDrop, sAug, sApp, sFrz, frz, sAsg, gSet, gsNil, gsCons, gTupF, Fi.gSub, sFor, iL, iT, iR1, iR2, iZ, iEn, itemsK, eVar, eC, Fi.e2, Fi.e1, asB, eChain, tAndF, tOrF, tNotF, eAnd, eOr, eNot, eIf, aNil, aCons, eTup, lLst, eL, eCall, lCall, eCallF, lCallF, eSlT, lSl, oNone, oSome, ownIx, ownLen, lLc, wipeE, pYes, sNext, fnD, entry, fAdd_int, fSub, fMul_l, fMul_r, fDiv_ok, fMod_ok, fPow_ok, fLt, fLe, fGt, fGe, fEq_int, fEq_str, fEq_bool, fNe_int, fNe_str, fNe_bool, isN, fIs, fIsNot, fIx, fNeg, fLen, fMin, fMax, fTuple, fList, fIntB, fSum, fAll, fAny, at_0, at_1, at_2, eT, eS, eStep, eR, getInts_map, Option.bind_some, Option.map_some, List.getElem?_cons_succ, List.getElem?_cons_zero, List.set_cons_succ, List.set_cons_zero, List.length_cons, List.length_nil, List.length_map, List.map_cons, List.map_nil, List.nil_append, List.cons_append, List.replicate, Nat.zero_add, Nat.reduceAdd, Nat.reduceSub, decide_true, decide_false, reduceIte, Nat.reduceLeDiff, Nat.reduceLT, Int.reduceLT, Int.reduceLE, Int.reduceNeg, Int.reducePow, and_self, or_self, and_true, true_and, or_true, true_or, Bool.not_true, Bool.not_false, pour_spend, spend_pour, lp__law_digits_0, g1, g2, g3, a1, a2, a3, m1, n1, m2, n2, m3, n3, hM, m4, m5, hr, ha, hb]
theorem digits_body (S C x9 : Option Sl) (idx base cell rest : Int) (k : Nat) (acc : List PyData) (hk : k ≤ 1000) (hi : 0 ≤ idx ∧ idx ≤ 1000) (hb : 0 < base ∧ base < 1073741824) (ha : acc.length < 100000) : ∃ (d r : Int) (y9 : Option Sl), 0 ≤ d ∧ d < base ∧
    lp__law_digits_0 [S, some (.val (.int idx)), C, some (.val (.int base)), some (.val (.tuple primesL)), some (.val (.int cell)), some (.val (.int rest)), some (.own acc), some (.val (.int k)), x9]
      = some (.next [S, some (.val (.int idx)), C, some (.val (.int base)), some (.val (.tuple primesL)), some (.val (.int cell)), some (.val (.int r)), some (.own (acc ++ [.int d])), some (.val (.int k)), y9]) := by
  obtain ⟨p1, g1, a1, b1⟩ := prime_at k
  obtain ⟨p2, g2, a2, b2⟩ := prime_at (3 * k + idx)
  obtain ⟨p3, g3, a3, b3⟩ := prime_at ((k : Int) + 5)
  have c1 := Int.emod_nonneg cell (show p1 ≠ 0 by omega)
  have c2 := Int.emod_lt_of_pos cell a1
  have m1 : -18446744073709551616 < cell % p1 := by omega
  have n1 : cell % p1 < 18446744073709551616 := by omega
  have m2 : -18446744073709551616 < (k : Int) := by omega
  have n2 : (k : Int) < 18446744073709551616 := by omega
  have m3 : -18446744073709551616 < (k : Int) + 1 := by omega
  have n3 : (k : Int) + 1 < 18446744073709551616 := by omega
  generalize hM : (cell % p1 * (48271 + 2 * (k : Int) * k) + 7919 * ((k : Int) + 1) * ((k : Int) + 1) + 104729 * idx) % p2 = M
  have d1 : 0 ≤ M := by rw [← hM]; exact Int.emod_nonneg _ (by omega)
  have d2 : M < p2 := by rw [← hM]; exact Int.emod_lt_of_pos _ a2
  have m4 : -18446744073709551616 < M := by omega
  have m5 : M < 18446744073709551616 := by omega
  by_cases hr : 0 < rest
  · exact ⟨rest % base, rest / base, some (.val (.int rest)), Int.emod_nonneg _ (by omega), Int.emod_lt_of_pos _ hb.1, digits_eval1 S C x9 idx base cell rest p1 p2 p3 M k acc primesL g1 g2 g3 a1 a2 a3 m1 n1 m2 n2 m3 n3 hM m4 m5 ha hb hr⟩
  · exact ⟨M * M * M % p3 % base, rest / base, some (.val (.int (M * M * M % p3))), Int.emod_nonneg _ (by omega), Int.emod_lt_of_pos _ hb.1, digits_eval2 S C x9 idx base cell rest p1 p2 p3 M k acc primesL g1 g2 g3 a1 a2 a3 m1 n1 m2 n2 m3 n3 hM m4 m5 ha hb hr⟩
theorem range_get {n i : Nat} {d : PyData} (h : ((List.range n).map fun (i : Nat) => PyData.int (i : Int))[i]? = some d) : i < n ∧ d = .int (i : Int) := by
  rw [List.getElem?_map] at h
  by_cases hi : i < n
  · rw [List.getElem?_range hi] at h
    exact ⟨hi, (Option.some.inj h).symm⟩
  · rw [List.getElem?_eq_none (by rw [List.length_range]; omega)] at h
    cases h
theorem digits_ok (ns : List Int) (hl : ns.length ≤ 63) (k : Nat) (hk : k ≤ 1000) (n : Nat) (hn : n ≤ 1000) (base : Int) (hb : 0 < base ∧ base < 1073741824) : ∃ ds : List Int, ds.length = n ∧ (∀ d ∈ ds, 0 ≤ d ∧ d < base) ∧ F__law_digits [.list (ns.map .int), .int k, .int n, .int base] = some (.own (ds.map .int)) := by
  obtain ⟨cell, hcell⟩ := cell_ok ns k hk hl
  let S : Option Sl := some (.val (.list (ns.map .int)))
  let P : Nat → En → Prop := fun i e => ∃ (ds : List Int) (r : Int) (y8 y9 : Option Sl), ds.length = i ∧ (∀ d ∈ ds, 0 ≤ d ∧ d < base) ∧
    e = [S, some (.val (.int k)), some (.val (.int n)), some (.val (.int base)), some (.val (.tuple primesL)), some (.val (.int cell)), some (.val (.int r)), some (.own (ds.map .int)), y8, y9]
  have key : ∀ rest : Int, ∃ e, forD (gSet 8) lp__law_digits_0 ((List.range n).map fun (i : Nat) => PyData.int (i : Int)) [S, some (.val (.int k)), some (.val (.int n)), some (.val (.int base)), some (.val (.tuple primesL)), some (.val (.int cell)), some (.val (.int rest)), some (.own []), none, none] = some (.next e) ∧ P (0 + ((List.range n).map fun (i : Nat) => PyData.int (i : Int)).length) e := fun rest => by
    refine forD_inv P _ 0 _ ⟨[], rest, none, none, rfl, by simp, rfl⟩ fun i d e hd hp => ?_
    obtain ⟨hi, rfl⟩ := range_get hd
    obtain ⟨ds, r, y8, y9, h1, h2, rfl⟩ := hp
    obtain ⟨d, r', z9, q1, q2, q3⟩ := digits_body S (some (.val (.int n))) y9 k base cell r i (ds.map .int) (by omega) ⟨by omega, by omega⟩ hb (by rw [List.length_map]; omega)
    refine ⟨_, _, rfl, q3, ds ++ [d], r', _, z9, by rw [List.length_append, h1]; simp, fun x hx => ?_, by rw [List.map_append]; rfl⟩
    rcases List.mem_append.mp hx with h | h
    · exact h2 x h
    · rw [List.mem_singleton.mp h]
      exact ⟨q1, q2⟩
  have hn2 : -100000 < (n : Int) ∧ (n : Int) < 100000 := ⟨by omega, by omega⟩
  obtain ⟨e, f1, ds, r, y8, y9, h1, h2, rfl⟩ := key (if 1000000000000000000 ≤ cell then cell else 0)
  refine ⟨ds, by simpa using h1, h2, fn_retL ?_⟩
  unfold b__law_digits
  by_cases hc : 1000000000000000000 ≤ cell
  · rw [if_pos hc] at f1
    simp only [sSeq, sSet, sOwn, sPar, sParL,  sIf, sRet, sRetL, sRetO, sDrop, sAug, sApp, sFrz, frz, sAsg, gSet, gsNil, gsCons, gTupF, Fi.gSub, sFor, iL, iT, iR1, iR2, iZ, iEn, itemsK, eVar, eC, Fi.e2, Fi.e1, asB, eChain, tAndF, tOrF, tNotF, eAnd, eOr, eNot, eIf, aNil, aCons, eTup, lLst, eL, eCall, lCall, eCallF, lCallF, eSlT, lSl, oNone, oSome, ownIx, ownLen, lLc, wipeE, pYes, sNext, fnD, entry, fAdd_int, fSub, fMul_l, fMul_r, fDiv_ok, fMod_ok, fPow_ok, fLt, fLe, fGt, fGe, fEq_int, fEq_str, fEq_bool, fNe_int, fNe_str, fNe_bool, isN, fIs, fIsNot, fIx, fNeg, fLen, fMin, fMax, fTuple, fList, fIntB, fSum, fAll, fAny, at_0, at_1, at_2, eT, eS, eStep, eR, getInts_map, Option.bind_some, Option.map_some, List.getElem?_cons_succ, List.getElem?_cons_zero, List.set_cons_succ, List.set_cons_zero, List.length_cons, List.length_nil, List.length_map, List.map_cons, List.map_nil, List.nil_append, List.cons_append, List.replicate, Nat.zero_add, Nat.reduceAdd, Nat.reduceSub, decide_true, decide_false, reduceIte, Nat.reduceLeDiff, Nat.reduceLT, Int.reduceLT, Int.reduceLE, Int.reduceNeg, Int.reducePow, and_self, or_self, and_true, true_and, or_true, true_or, Bool.not_true, Bool.not_false, pour_spend, spend_pour, hcell, hc, hn2, Int.toNat_natCast, show ((10 : Int) ^ (18 : Int).toNat) = 1000000000000000000 from rfl, show (10 : Int).natAbs < 18446744073709551616 from by decide]
    simp only [primesL, S] at f1
    rw [f1]
    rfl
  · rw [if_neg hc] at f1
    simp only [sSeq, sSet, sOwn, sPar, sParL,  sIf, sRet, sRetL, sRetO, sDrop, sAug, sApp, sFrz, frz, sAsg, gSet, gsNil, gsCons, gTupF, Fi.gSub, sFor, iL, iT, iR1, iR2, iZ, iEn, itemsK, eVar, eC, Fi.e2, Fi.e1, asB, eChain, tAndF, tOrF, tNotF, eAnd, eOr, eNot, eIf, aNil, aCons, eTup, lLst, eL, eCall, lCall, eCallF, lCallF, eSlT, lSl, oNone, oSome, ownIx, ownLen, lLc, wipeE, pYes, sNext, fnD, entry, fAdd_int, fSub, fMul_l, fMul_r, fDiv_ok, fMod_ok, fPow_ok, fLt, fLe, fGt, fGe, fEq_int, fEq_str, fEq_bool, fNe_int, fNe_str, fNe_bool, isN, fIs, fIsNot, fIx, fNeg, fLen, fMin, fMax, fTuple, fList, fIntB, fSum, fAll, fAny, at_0, at_1, at_2, eT, eS, eStep, eR, getInts_map, Option.bind_some, Option.map_some, List.getElem?_cons_succ, List.getElem?_cons_zero, List.set_cons_succ, List.set_cons_zero, List.length_cons, List.length_nil, List.length_map, List.map_cons, List.map_nil, List.nil_append, List.cons_append, List.replicate, Nat.zero_add, Nat.reduceAdd, Nat.reduceSub, decide_true, decide_false, reduceIte, Nat.reduceLeDiff, Nat.reduceLT, Int.reduceLT, Int.reduceLE, Int.reduceNeg, Int.reducePow, and_self, or_self, and_true, true_and, or_true, true_or, Bool.not_true, Bool.not_false, pour_spend, spend_pour, hcell, hc, hn2, Int.toNat_natCast, show ((10 : Int) ^ (18 : Int).toNat) = 1000000000000000000 from rfl, show (10 : Int).natAbs < 18446744073709551616 from by decide]
    simp only [primesL, S] at f1
    rw [f1]
    rfl
end Lw

namespace Lw
open PySem L2 Fi
/-- a comprehension over ints, without a test -/
theorem lcD_map {g : PyData → En → Option En} {f : FE} {env : En} (h : PyData → PyData) : ∀ (ds : List PyData), (∀ d ∈ ds, ∃ e1, g d env = some e1 ∧ f e1 = some (h d)) → lcD g pYes f env ds = some (ds.map h)
  | [], _ => rfl
  | d :: ds, hh => by
    obtain ⟨e1, h1, h2⟩ := hh d (by simp)
    have ih := lcD_map h ds fun d' hd => hh d' (by simp [hd])
    simp only [lcD, h1, h2, ih, pYes, Option.bind_some, List.map_cons]
theorem caps_ok (ds : List Int) (hpos : ∀ d ∈ ds, 0 ≤ d) (most : Nat) (top : Int) (hm : 0 < most) (hm2 : most ≤ 1000) (hl : most + 1 ≤ ds.length) (hl2 : ds.length ≤ 1000) (ht : 0 < top) : ∃ caps : List Int, 1 ≤ caps.length ∧ caps.length ≤ most ∧ (∀ c ∈ caps, 1 ≤ c ∧ c ≤ top) ∧
    F__law_caps [.list (ds.map .int), .int most, .int top] = some (.val (eT caps)) := by
  have hg := at_get (l := ds) (k := 0) (by omega)
  have hm3 : 0 < (most : Int) := by omega
  have r0 := Int.emod_nonneg (ds.getD 0 0) (show (most : Int) ≠ 0 by omega)
  have r1 := Int.emod_lt_of_pos (ds.getD 0 0) hm3
  obtain ⟨m, hm⟩ : ∃ m : Nat, ds.getD 0 0 % (most : Int) = m := ⟨(ds.getD 0 0 % (most : Int)).toNat, by omega⟩
  have hcut : cutD (ds.map PyData.int) (some 1) (some (2 + ds.getD 0 0 % (most : Int))) = ((ds.drop 1).take (m + 1)).map .int := by
    have e : (2 + ds.getD 0 0 % (most : Int)) = ((m + 2 : Nat) : Int) := by omega
    have e1 : (1 : Int) = ((1 : Nat) : Int) := rfl
    rw [e, e1, cut_mid, ← List.map_drop, ← List.map_take]
    rfl
  have hlc : lcD (gSet 3) pYes (Fi.e2 fAdd (eC (.int 1)) (Fi.e2 fMod (eVar 3) (eVar 2))) [some (.val (.list (ds.map .int))), some (.val (.int most)), some (.val (.int top)), none] (((ds.drop 1).take (m + 1)).map .int) = some ((((ds.drop 1).take (m + 1)).map fun d => 1 + d % top).map .int) := by
    rw [lcD_map (fun d => match d with | .int i => .int (1 + i % top) | d => d)]
    · rw [List.map_map, List.map_map]
      rfl
    · intro d hd
      obtain ⟨z, _, rfl⟩ := List.mem_map.mp hd
      refine ⟨_, rfl, ?_⟩
      simp only [sSeq, sSet, sOwn, sPar, sParL,  sIf, sRet, sRetL, sRetO, sDrop, sAug, sApp, sFrz, frz, sAsg, gSet, gsNil, gsCons, gTupF, Fi.gSub, sFor, iL, iT, iR1, iR2, iZ, iEn, itemsK, eVar, eC, Fi.e2, Fi.e1, asB, eChain, tAndF, tOrF, tNotF, eAnd, eOr, eNot, eIf, aNil, aCons, eTup, lLst, eL, eCall, lCall, eCallF, lCallF, eSlT, lSl, oNone, oSome, ownIx, ownLen, lLc, wipeE, pYes, sNext, fnD, entry, fAdd_int, fSub, fMul_l, fMul_r, fDiv_ok, fMod_ok, fPow_ok, fLt, fLe, fGt, fGe, fEq_int, fEq_str, fEq_bool, fNe_int, fNe_str, fNe_bool, isN, fIs, fIsNot, fIx, fNeg, fLen, fMin, fMax, fTuple, fList, fIntB, fSum, fAll, fAny, at_0, at_1, at_2, eT, eS, eStep, eR, getInts_map, Option.bind_some, Option.map_some, List.getElem?_cons_succ, List.getElem?_cons_zero, List.set_cons_succ, List.set_cons_zero, List.length_cons, List.length_nil, List.length_map, List.map_cons, List.map_nil, List.nil_append, List.cons_append, List.replicate, Nat.zero_add, Nat.reduceAdd, Nat.reduceSub, decide_true, decide_false, reduceIte, Nat.reduceLeDiff, Nat.reduceLT, Int.reduceLT, Int.reduceLE, Int.reduceNeg, Int.reducePow, and_self, or_self, and_true, true_and, or_true, true_or, Bool.not_true, Bool.not_false, pour_spend, spend_pour, ht]
  refine ⟨((ds.drop 1).take (m + 1)).map fun d => 1 + d % top, ?_, ?_, ?_, fn_ret ?_⟩
  · simp; omega
  · simp; omega
  · intro c hc
    obtain ⟨z, _, rfl⟩ := List.mem_map.mp hc
    have h0 := Int.emod_nonneg z (show top ≠ 0 by omega)
    have h1 := Int.emod_lt_of_pos z ht
    exact ⟨by omega, by omega⟩
  · unfold b__law_caps
    have hlen : (((ds.drop 1).take (m + 1)).map PyData.int).length < 100000 := by simp; omega
    have hg0 : atI (ds.map PyData.int) 0 = some (.int (ds.getD 0 0)) := hg
    simp only [List.length_map] at hlen
    simp only [sSeq, sSet, sOwn, sPar, sParL,  sIf, sRet, sRetL, sRetO, sDrop, sAug, sApp, sFrz, frz, sAsg, gSet, gsNil, gsCons, gTupF, Fi.gSub, sFor, iL, iT, iR1, iR2, iZ, iEn, itemsK, eVar, eC, Fi.e2, Fi.e1, asB, eChain, tAndF, tOrF, tNotF, eAnd, eOr, eNot, eIf, aNil, aCons, eTup, lLst, eL, eCall, lCall, eCallF, lCallF, eSlT, lSl, oNone, oSome, ownIx, ownLen, lLc, wipeE, pYes, sNext, fnD, entry, fAdd_int, fSub, fMul_l, fMul_r, fDiv_ok, fMod_ok, fPow_ok, fLt, fLe, fGt, fGe, fEq_int, fEq_str, fEq_bool, fNe_int, fNe_str, fNe_bool, isN, fIs, fIsNot, fIx, fNeg, fLen, fMin, fMax, fTuple, fList, fIntB, fSum, fAll, fAny, at_0, at_1, at_2, eT, eS, eStep, eR, getInts_map, Option.bind_some, Option.map_some, List.getElem?_cons_succ, List.getElem?_cons_zero, List.set_cons_succ, List.set_cons_zero, List.length_cons, List.length_nil, List.length_map, List.map_cons, List.map_nil, List.nil_append, List.cons_append, List.replicate, Nat.zero_add, Nat.reduceAdd, Nat.reduceSub, decide_true, decide_false, reduceIte, Nat.reduceLeDiff, Nat.reduceLT, Int.reduceLT, Int.reduceLE, Int.reduceNeg, Int.reducePow, and_self, or_self, and_true, true_and, or_true, true_or, Bool.not_true, Bool.not_false, pour_spend, spend_pour, hg0, hm3, hcut, hlen, hlc]
end Lw

namespace Lw
open PySem L2 Fi
theorem levels_loop (D C : Option Sl) : ∀ (cs ds : List Int) (pc lv : List Int) (x3 x4 x5 : Option Sl), cs.length ≤ ds.length → (∀ c ∈ cs, 0 ≤ c) → pc.length + cs.length ≤ 1000 → Lv pc lv → ∃ lv' y3 y4 y5, Lv (pc ++ cs) lv' ∧
    forD (gTupF 2 (gsCons (gSet 3) (gsCons (gSet 4) gsNil))) lp__law_levels_0 (pairs (cs.map .int) (ds.map .int)) [D, C, some (.val (eT lv)), x3, x4, x5] = some (.next [D, C, some (.val (eT lv')), y3, y4, y5])
  | [], ds, pc, lv, x3, x4, x5, _, _, _, h => ⟨lv, x3, x4, x5, by rw [List.append_nil]; exact h, by simp [pairs, forD]⟩
  | c :: cs, [], _, _, _, _, _, hl, _, _, _ => by simp at hl
  | c :: cs, d :: ds, pc, lv, x3, x4, x5, hl, hp, hn, h => by
    have hc : 0 ≤ c := hp c (by simp)
    have hlv := h.len
    have key : ∀ v : Int, 0 ≤ v → v ≤ c → ∀ w : Int, lp__law_levels_0 [D, C, some (.val (eT lv)), some (.val (.int c)), some (.val (.int d)), x5] = some (.next [D, C, some (.val (eT (lv ++ [v]))), some (.val (.int c)), some (.val (.int d)), some (.val (.int w))]) →
        ∃ lv' y3 y4 y5, Lv (pc ++ c :: cs) lv' ∧ forD (gTupF 2 (gsCons (gSet 3) (gsCons (gSet 4) gsNil))) lp__law_levels_0 (pairs ((c :: cs).map .int) ((d :: ds).map .int)) [D, C, some (.val (eT lv)), x3, x4, x5] = some (.next [D, C, some (.val (eT lv')), y3, y4, y5]) := fun v h0 h1 w hb => by
      obtain ⟨lv', y3, y4, y5, q1, q2⟩ := levels_loop D C cs ds (pc ++ [c]) (lv ++ [v]) (some (.val (.int c))) (some (.val (.int d))) (some (.val (.int w))) (by simpa using hl) (fun x hx => hp x (by simp [hx])) (by simp at hn ⊢; omega) (h.snoc h0 h1)
      refine ⟨lv', y3, y4, y5, by simpa using q1, forD_step (e1 := [D, C, some (.val (eT lv)), some (.val (.int c)), some (.val (.int d)), x5]) rfl hb q2⟩
    have ha : ∀ v : Int, fAdd (.tuple (lv.map .int)) (.tuple [.int v]) = some (.tuple ((lv ++ [v]).map .int)) := fun v => by
      rw [fAdd_tup (by simp; simp at hn; omega), List.map_append]
      rfl
    by_cases w0 : d / 1000 % 4 = 0
    · refine key c hc (Int.le_refl _) (d / 1000 % 4) ?_
      simp only [sSeq, sSet, sOwn, sPar, sParL,  sIf, sRet, sRetL, sRetO, sDrop, sAug, sApp, sFrz, frz, sAsg, gSet, gsNil, gsCons, gTupF, Fi.gSub, sFor, iL, iT, iR1, iR2, iZ, iEn, itemsK, eVar, eC, Fi.e2, Fi.e1, asB, eChain, tAndF, tOrF, tNotF, eAnd, eOr, eNot, eIf, aNil, aCons, eTup, lLst, eL, eCall, lCall, eCallF, lCallF, eSlT, lSl, oNone, oSome, ownIx, ownLen, lLc, wipeE, pYes, sNext, fnD, entry, fAdd_int, fSub, fMul_l, fMul_r, fDiv_ok, fMod_ok, fPow_ok, fLt, fLe, fGt, fGe, fEq_int, fEq_str, fEq_bool, fNe_int, fNe_str, fNe_bool, isN, fIs, fIsNot, fIx, fNeg, fLen, fMin, fMax, fTuple, fList, fIntB, fSum, fAll, fAny, at_0, at_1, at_2, eT, eS, eStep, eR, getInts_map, Option.bind_some, Option.map_some, List.getElem?_cons_succ, List.getElem?_cons_zero, List.set_cons_succ, List.set_cons_zero, List.length_cons, List.length_nil, List.length_map, List.map_cons, List.map_nil, List.nil_append, List.cons_append, List.replicate, Nat.zero_add, Nat.reduceAdd, Nat.reduceSub, decide_true, decide_false, reduceIte, Nat.reduceLeDiff, Nat.reduceLT, Int.reduceLT, Int.reduceLE, Int.reduceNeg, Int.reducePow, and_self, or_self, and_true, true_and, or_true, true_or, Bool.not_true, Bool.not_false, pour_spend, spend_pour, lp__law_levels_0, w0, ha]
    · by_cases w1 : d / 1000 % 4 = 1
      · refine key 0 (Int.le_refl _) hc (d / 1000 % 4) ?_
        simp only [sSeq, sSet, sOwn, sPar, sParL,  sIf, sRet, sRetL, sRetO, sDrop, sAug, sApp, sFrz, frz, sAsg, gSet, gsNil, gsCons, gTupF, Fi.gSub, sFor, iL, iT, iR1, iR2, iZ, iEn, itemsK, eVar, eC, Fi.e2, Fi.e1, asB, eChain, tAndF, tOrF, tNotF, eAnd, eOr, eNot, eIf, aNil, aCons, eTup, lLst, eL, eCall, lCall, eCallF, lCallF, eSlT, lSl, oNone, oSome, ownIx, ownLen, lLc, wipeE, pYes, sNext, fnD, entry, fAdd_int, fSub, fMul_l, fMul_r, fDiv_ok, fMod_ok, fPow_ok, fLt, fLe, fGt, fGe, fEq_int, fEq_str, fEq_bool, fNe_int, fNe_str, fNe_bool, isN, fIs, fIsNot, fIx, fNeg, fLen, fMin, fMax, fTuple, fList, fIntB, fSum, fAll, fAny, at_0, at_1, at_2, eT, eS, eStep, eR, getInts_map, Option.bind_some, Option.map_some, List.getElem?_cons_succ, List.getElem?_cons_zero, List.set_cons_succ, List.set_cons_zero, List.length_cons, List.length_nil, List.length_map, List.map_cons, List.map_nil, List.nil_append, List.cons_append, List.replicate, Nat.zero_add, Nat.reduceAdd, Nat.reduceSub, decide_true, decide_false, reduceIte, Nat.reduceLeDiff, Nat.reduceLT, Int.reduceLT, Int.reduceLE, Int.reduceNeg, Int.reducePow, and_self, or_self, and_true, true_and, or_true, true_or, Bool.not_true, Bool.not_false, pour_spend, spend_pour, lp__law_levels_0, w0, w1, ha, show ((1 : Int) = 0) = False from by simp]
      · have h0 := Int.emod_nonneg d (show c + 1 ≠ 0 by omega)
        have h1 := Int.emod_lt_of_pos d (show 0 < c + 1 by omega)
        have hc1 : 0 < c + 1 := by omega
        refine key (d % (c + 1)) h0 (by omega) (d / 1000 % 4) ?_
        simp only [sSeq, sSet, sOwn, sPar, sParL,  sIf, sRet, sRetL, sRetO, sDrop, sAug, sApp, sFrz, frz, sAsg, gSet, gsNil, gsCons, gTupF, Fi.gSub, sFor, iL, iT, iR1, iR2, iZ, iEn, itemsK, eVar, eC, Fi.e2, Fi.e1, asB, eChain, tAndF, tOrF, tNotF, eAnd, eOr, eNot, eIf, aNil, aCons, eTup, lLst, eL, eCall, lCall, eCallF, lCallF, eSlT, lSl, oNone, oSome, ownIx, ownLen, lLc, wipeE, pYes, sNext, fnD, entry, fAdd_int, fSub, fMul_l, fMul_r, fDiv_ok, fMod_ok, fPow_ok, fLt, fLe, fGt, fGe, fEq_int, fEq_str, fEq_bool, fNe_int, fNe_str, fNe_bool, isN, fIs, fIsNot, fIx, fNeg, fLen, fMin, fMax, fTuple, fList, fIntB, fSum, fAll, fAny, at_0, at_1, at_2, eT, eS, eStep, eR, getInts_map, Option.bind_some, Option.map_some, List.getElem?_cons_succ, List.getElem?_cons_zero, List.set_cons_succ, List.set_cons_zero, List.length_cons, List.length_nil, List.length_map, List.map_cons, List.map_nil, List.nil_append, List.cons_append, List.replicate, Nat.zero_add, Nat.reduceAdd, Nat.reduceSub, decide_true, decide_false, reduceIte, Nat.reduceLeDiff, Nat.reduceLT, Int.reduceLT, Int.reduceLE, Int.reduceNeg, Int.reducePow, and_self, or_self, and_true, true_and, or_true, true_or, Bool.not_true, Bool.not_false, pour_spend, spend_pour, lp__law_levels_0, w0, w1, ha, hc1]
theorem levels_ok (ds caps : List Int) (hl : caps.length ≤ ds.length) (hc : ∀ c ∈ caps, 0 ≤ c) (hn : caps.length ≤ 100) : ∃ lv : List Int, Lv caps lv ∧ F__law_levels [.list (ds.map .int), eT caps] = some (.val (eT lv)) := by
  obtain ⟨lv, y3, y4, y5, h1, h2⟩ := levels_loop (some (.val (.list (ds.map .int)))) (some (.val (eT caps))) caps ds [] [] none none none hl hc (by simp; omega) trivial
  refine ⟨lv, by simpa using h1, fn_ret ?_⟩
  unfold b__law_levels
  simp only [eT, List.map_nil] at h2 ⊢
  simp only [sSeq, sSet, sOwn, sPar, sParL,  sIf, sRet, sRetL, sRetO, sDrop, sAug, sApp, sFrz, frz, sAsg, gSet, gsNil, gsCons, gTupF, Fi.gSub, sFor, iL, iT, iR1, iR2, iZ, iEn, itemsK, eVar, eC, Fi.e2, Fi.e1, asB, eChain, tAndF, tOrF, tNotF, eAnd, eOr, eNot, eIf, aNil, aCons, eTup, lLst, eL, eCall, lCall, eCallF, lCallF, eSlT, lSl, oNone, oSome, ownIx, ownLen, lLc, wipeE, pYes, sNext, fnD, entry, fAdd_int, fSub, fMul_l, fMul_r, fDiv_ok, fMod_ok, fPow_ok, fLt, fLe, fGt, fGe, fEq_int, fEq_str, fEq_bool, fNe_int, fNe_str, fNe_bool, isN, fIs, fIsNot, fIx, fNeg, fLen, fMin, fMax, fTuple, fList, fIntB, fSum, fAll, fAny, at_0, at_1, at_2, eT, eS, eStep, eR, getInts_map, Option.bind_some, Option.map_some, List.getElem?_cons_succ, List.getElem?_cons_zero, List.set_cons_succ, List.set_cons_zero, List.length_cons, List.length_nil, List.length_map, List.map_cons, List.map_nil, List.nil_append, List.cons_append, List.replicate, Nat.zero_add, Nat.reduceAdd, Nat.reduceSub, decide_true, decide_false, reduceIte, Nat.reduceLeDiff, Nat.reduceLT, Int.reduceLT, Int.reduceLE, Int.reduceNeg, Int.reducePow, and_self, or_self, and_true, true_and, or_true, true_or, Bool.not_true, Bool.not_false, pour_spend, spend_pour, h2, Nat.zero_le]
end Lw

namespace Lw
open PySem L2 Fi
def ext (rows : List (List Int)) (c : Int) : List (List Int) := rows.flatMap fun r => (List.range (c + 1).toNat).map fun (v : Nat) => r ++ [(v : Int)]
def allA : List (List Int) → List Int → List (List Int)
  | rows, [] => rows
  | rows, c :: cs => allA (ext rows c) cs
abbrev allL (caps : List Int) : List (List Int) := allA [[]] caps
theorem ext_cons (r : List Int) (rows : List (List Int)) (c : Int) : ext (r :: rows) c = ((List.range (c + 1).toNat).map fun (v : Nat) => r ++ [(v : Int)]) ++ ext rows c := by
  unfold ext
  rw [List.flatMap_cons]
theorem ext_len : ∀ (rows : List (List Int)) (c : Int), (ext rows c).length = rows.length * (c + 1).toNat
  | [], c => by simp [ext]
  | r :: rows, c => by
    rw [ext_cons, List.length_append, ext_len rows c, List.length_map, List.length_range, List.length_cons, Nat.add_mul]
    omega
theorem mem_ext {rows : List (List Int)} {c : Int} {l : List Int} : l ∈ ext rows c ↔ ∃ r ∈ rows, ∃ v : Nat, (v : Int) ≤ c ∧ l = r ++ [(v : Int)] := by
  unfold ext
  rw [List.mem_flatMap]
  constructor
  · rintro ⟨r, hr, h⟩
    obtain ⟨v, hv, rfl⟩ := List.mem_map.mp h
    have := List.mem_range.mp hv
    exact ⟨r, hr, v, by omega, rfl⟩
  · rintro ⟨r, hr, v, hv, rfl⟩
    exact ⟨r, hr, List.mem_map.mpr ⟨v, List.mem_range.mpr (by omega), rfl⟩⟩
theorem Lv.unsnoc : ∀ {pc : List Int} {c : Int} {l : List Int}, Lv (pc ++ [c]) l → ∃ r v, Lv pc r ∧ 0 ≤ v ∧ v ≤ c ∧ l = r ++ [v]
  | [], c, [v], h => ⟨[], v, trivial, h.1, h.2.1, rfl⟩
  | [], c, [], h => h.elim
  | [], c, _ :: _ :: _, h => h.2.2.elim
  | p :: pc, c, [], h => h.elim
  | p :: pc, c, x :: l, h => by
    obtain ⟨r, v, h1, h2, h3, rfl⟩ := h.2.2.unsnoc
    exact ⟨x :: r, v, ⟨h.1, h.2.1, h1⟩, h2, h3, rfl⟩
theorem mem_allA : ∀ (cs pc : List Int) (rows : List (List Int)), (∀ r, r ∈ rows ↔ Lv pc r) → ∀ l, l ∈ allA rows cs ↔ Lv (pc ++ cs) l
  | [], pc, rows, h, l => by rw [List.append_nil]; exact h l
  | c :: cs, pc, rows, h, l => by
    have ih := mem_allA cs (pc ++ [c]) (ext rows c) (fun r => by
      rw [mem_ext]
      constructor
      · rintro ⟨r', hr, v, hv, rfl⟩
        exact ((h r').mp hr).snoc (Int.natCast_nonneg v) hv
      · intro hv
        obtain ⟨r', v, h1, h2, h3, rfl⟩ := hv.unsnoc
        exact ⟨r', (h r').mpr h1, v.toNat, by omega, by rw [show ((v.toNat : Nat) : Int) = v by omega]⟩) l
    rw [List.append_assoc] at ih
    exact ih
theorem mem_all {caps l : List Int} : l ∈ allL caps ↔ Lv caps l := by
  have := mem_allA caps [] [[]] (fun r => by
    constructor
    · intro h
      rw [List.mem_singleton.mp h]
      trivial
    · intro h
      cases r with
      | nil => simp
      | cons _ _ => exact h.elim) l
  simpa using this
theorem row_lc {C R Y : Option Sl} {c : Int} {r : List Int} (hr : r.length ≤ 100) : ∀ l : List Nat, lcD (gSet 5) pYes (Fi.e2 fAdd (eVar 4) (eTup (aCons (eVar 5) aNil))) [C, R, some (.val (.int c)), Y, some (.val (eT r)), none] (l.map fun (i : Nat) => PyData.int (i : Int)) = some ((l.map fun (v : Nat) => r ++ [(v : Int)]).map eT)
  | [] => rfl
  | v :: l => by
    have ih := row_lc (C := C) (R := R) (Y := Y) (c := c) hr l
    have ha : fAdd (.tuple (r.map .int)) (.tuple [.int (v : Int)]) = some (.tuple ((r ++ [(v : Int)]).map .int)) := by
      rw [fAdd_tup (by simp; omega), List.map_append]
      rfl
    simp only [eT] at ih ⊢
    rw [List.map_cons, List.map_cons, List.map_cons]
    simp only [sSeq, sSet, sOwn, sPar, sParL,  sIf, sRet, sRetL, sRetO, sDrop, sAug, sApp, sFrz, frz, sAsg, gSet, gsNil, gsCons, gTupF, Fi.gSub, sFor, iL, iT, iR1, iR2, iZ, iEn, itemsK, eVar, eC, Fi.e2, Fi.e1, asB, eChain, tAndF, tOrF, tNotF, eAnd, eOr, eNot, eIf, aNil, aCons, eTup, lLst, eL, eCall, lCall, eCallF, lCallF, eSlT, lSl, oNone, oSome, ownIx, ownLen, lLc, wipeE, pYes, sNext, fnD, entry, fAdd_int, fSub, fMul_l, fMul_r, fDiv_ok, fMod_ok, fPow_ok, fLt, fLe, fGt, fGe, fEq_int, fEq_str, fEq_bool, fNe_int, fNe_str, fNe_bool, isN, fIs, fIsNot, fIx, fNeg, fLen, fMin, fMax, fTuple, fList, fIntB, fSum, fAll, fAny, at_0, at_1, at_2, eT, eS, eStep, eR, getInts_map, Option.bind_some, Option.map_some, List.getElem?_cons_succ, List.getElem?_cons_zero, List.set_cons_succ, List.set_cons_zero, List.length_cons, List.length_nil, List.length_map, List.map_cons, List.map_nil, List.nil_append, List.cons_append, List.replicate, Nat.zero_add, Nat.reduceAdd, Nat.reduceSub, decide_true, decide_false, reduceIte, Nat.reduceLeDiff, Nat.reduceLT, Int.reduceLT, Int.reduceLE, Int.reduceNeg, Int.reducePow, and_self, or_self, and_true, true_and, or_true, true_or, Bool.not_true, Bool.not_false, pour_spend, spend_pour, lcD, ha, ih]
theorem lrows_loop (C R : Option Sl) (c : Int) (hc0 : 0 ≤ c) (hc1 : c ≤ 1000) : ∀ (rows acc : List (List Int)) (y4 y5 : Option Sl), (∀ r ∈ rows, r.length ≤ 100) → (acc ++ ext rows c).length ≤ 100000 → ∃ z4,
    forD (gSet 4) lp__law_all_levels_0 (rows.map eT) [C, R, some (.val (.int c)), some (.val (.list (acc.map eT))), y4, y5] = some (.next [C, R, some (.val (.int c)), some (.val (.list ((acc ++ ext rows c).map eT))), z4, y5])
  | [], acc, y4, y5, _, _ => ⟨y4, by simp [forD, ext]⟩
  | r :: rows, acc, y4, y5, hr, hn => by
    rw [ext_cons, ← List.append_assoc] at hn
    obtain ⟨z4, ih⟩ := lrows_loop C R c hc0 hc1 rows (acc ++ ((List.range (c + 1).toNat).map fun (v : Nat) => r ++ [(v : Int)])) (some (.val (eT r))) y5 (fun x hx => hr x (by simp [hx])) hn
    refine ⟨z4, forD_step (e1 := [C, R, some (.val (.int c)), some (.val (.list (acc.map eT))), some (.val (eT r)), y5]) (e2 := [C, R, some (.val (.int c)), some (.val (.list ((acc ++ ((List.range (c + 1).toNat).map fun (v : Nat) => r ++ [(v : Int)])).map eT))), some (.val (eT r)), y5]) rfl ?_ ?_⟩
    · have hlc := row_lc (C := C) (R := R) (Y := some (.val (.list (acc.map eT)))) (c := c) (hr r (by simp)) (List.range (c + 1).toNat)
      have hb : -100000 < c + 1 ∧ c + 1 < 100000 := ⟨by omega, by omega⟩
      have hl : (List.range (c + 1).toNat).length < 100000 := by rw [List.length_range]; omega
      have hcat : acc.length + (List.range (c + 1).toNat).length ≤ 100000 := by
        simp only [List.length_append, List.length_map] at hn
        omega
      simp only [List.map_append]
      simp only [eT] at hlc ⊢
      simp only [sSeq, sSet, sOwn, sPar, sParL,  sIf, sRet, sRetL, sRetO, sDrop, sAug, sApp, sFrz, frz, sAsg, gSet, gsNil, gsCons, gTupF, Fi.gSub, sFor, iL, iT, iR1, iR2, iZ, iEn, itemsK, eVar, eC, Fi.e2, Fi.e1, asB, eChain, tAndF, tOrF, tNotF, eAnd, eOr, eNot, eIf, aNil, aCons, eTup, lLst, eL, eCall, lCall, eCallF, lCallF, eSlT, lSl, oNone, oSome, ownIx, ownLen, lLc, wipeE, pYes, sNext, fnD, entry, fAdd_int, fSub, fMul_l, fMul_r, fDiv_ok, fMod_ok, fPow_ok, fLt, fLe, fGt, fGe, fEq_int, fEq_str, fEq_bool, fNe_int, fNe_str, fNe_bool, isN, fIs, fIsNot, fIx, fNeg, fLen, fMin, fMax, fTuple, fList, fIntB, fSum, fAll, fAny, at_0, at_1, at_2, eT, eS, eStep, eR, getInts_map, Option.bind_some, Option.map_some, List.getElem?_cons_succ, List.getElem?_cons_zero, List.set_cons_succ, List.set_cons_zero, List.length_cons, List.length_nil, List.length_map, List.map_cons, List.map_nil, List.nil_append, List.cons_append, List.replicate, Nat.zero_add, Nat.reduceAdd, Nat.reduceSub, decide_true, decide_false, reduceIte, Nat.reduceLeDiff, Nat.reduceLT, Int.reduceLT, Int.reduceLE, Int.reduceNeg, Int.reducePow, and_self, or_self, and_true, true_and, or_true, true_or, Bool.not_true, Bool.not_false, pour_spend, spend_pour, lp__law_all_levels_0, hb, hl, hlc, lCat, hcat]
    · rw [ih, ext_cons, List.append_assoc]
theorem lall_loop (C : Option Sl) : ∀ (cs : List Int) (rows : List (List Int)) (n : Nat) (y2 y3 y4 y5 : Option Sl), (∀ c ∈ cs, 0 ≤ c ∧ c ≤ 5) → rows.length * 6 ^ cs.length ≤ 1000 → (∀ r ∈ rows, r.length = n) → n + cs.length ≤ 50 → ∃ z2 z3 z4,
    forD (gSet 2) lp__law_all_levels_1 (cs.map .int) [C, some (.val (.list (rows.map eT))), y2, y3, y4, y5] = some (.next [C, some (.val (.list ((allA rows cs).map eT))), z2, z3, z4, y5])
  | [], rows, n, y2, y3, y4, y5, _, _, _, _ => ⟨y2, y3, y4, rfl⟩
  | c :: cs, rows, n, y2, y3, y4, y5, hc, hn, hr, hl => by
    have hc1 := hc c (by simp)
    have hle : (ext rows c).length ≤ rows.length * 6 := by
      rw [ext_len]
      exact Nat.mul_le_mul_left _ (by omega)
    have hpow : 1 ≤ 6 ^ cs.length := Nat.one_le_pow _ _ (by decide)
    have hn6 : rows.length * 6 * 6 ^ cs.length ≤ 1000 := by
      rw [List.length_cons, Nat.pow_succ] at hn
      rw [Nat.mul_assoc, Nat.mul_comm 6]
      exact hn
    have hn1 : (ext rows c).length * 6 ^ cs.length ≤ 1000 := Nat.le_trans (Nat.mul_le_mul_right _ hle) hn6
    have hn2 : (ext rows c).length ≤ 1000 := Nat.le_trans (Nat.le_mul_of_pos_right _ (by omega)) hn1
    obtain ⟨w4, hw⟩ := lrows_loop C (some (.val (.list (rows.map eT)))) c hc1.1 (by omega) rows [] y4 y5 (fun r h => by rw [hr r h]; omega) (by simp; omega)
    obtain ⟨z2, z3, z4, ih⟩ := lall_loop C cs (ext rows c) (n + 1) (some (.val (.int c))) (some (.val (.list ((ext rows c).map eT)))) w4 y5 (fun x hx => hc x (by simp [hx])) hn1 (fun r h => by
      obtain ⟨r', hr', v, _, rfl⟩ := mem_ext.mp h
      rw [List.length_append, hr r' hr']
      rfl) (by simp at hl; omega)
    refine ⟨z2, z3, z4, forD_step (e1 := [C, some (.val (.list (rows.map eT))), some (.val (.int c)), y3, y4, y5]) (e2 := [C, some (.val (.list ((ext rows c).map eT))), some (.val (.int c)), some (.val (.list ((ext rows c).map eT))), w4, y5]) rfl ?_ ih⟩
    rw [List.nil_append, List.map_nil] at hw
    simp only [sSeq, sSet, sOwn, sPar, sParL,  sIf, sRet, sRetL, sRetO, sDrop, sAug, sApp, sFrz, frz, sAsg, gSet, gsNil, gsCons, gTupF, Fi.gSub, sFor, iL, iT, iR1, iR2, iZ, iEn, itemsK, eVar, eC, Fi.e2, Fi.e1, asB, eChain, tAndF, tOrF, tNotF, eAnd, eOr, eNot, eIf, aNil, aCons, eTup, lLst, eL, eCall, lCall, eCallF, lCallF, eSlT, lSl, oNone, oSome, ownIx, ownLen, lLc, wipeE, pYes, sNext, fnD, entry, fAdd_int, fSub, fMul_l, fMul_r, fDiv_ok, fMod_ok, fPow_ok, fLt, fLe, fGt, fGe, fEq_int, fEq_str, fEq_bool, fNe_int, fNe_str, fNe_bool, isN, fIs, fIsNot, fIx, fNeg, fLen, fMin, fMax, fTuple, fList, fIntB, fSum, fAll, fAny, at_0, at_1, at_2, eT, eS, eStep, eR, getInts_map, Option.bind_some, Option.map_some, List.getElem?_cons_succ, List.getElem?_cons_zero, List.set_cons_succ, List.set_cons_zero, List.length_cons, List.length_nil, List.length_map, List.map_cons, List.map_nil, List.nil_append, List.cons_append, List.replicate, Nat.zero_add, Nat.reduceAdd, Nat.reduceSub, decide_true, decide_false, reduceIte, Nat.reduceLeDiff, Nat.reduceLT, Int.reduceLT, Int.reduceLE, Int.reduceNeg, Int.reducePow, and_self, or_self, and_true, true_and, or_true, true_or, Bool.not_true, Bool.not_false, pour_spend, spend_pour, lp__law_all_levels_1, hw, Nat.zero_le]
theorem lall_ok {caps : List Int} (hc : ∀ c ∈ caps, 0 ≤ c ∧ c ≤ 5) (hl : caps.length ≤ 3) : F__law_all_levels [eT caps] = some (.val (.list ((allL caps).map eT))) := by
  have h6 : 6 ^ caps.length ≤ 6 ^ 3 := Nat.pow_le_pow_right (by decide) hl
  obtain ⟨z2, z3, z4, h⟩ := lall_loop (some (.val (eT caps))) caps [[]] 0 none none none none hc (by simp; omega) (by simp) (by omega)
  refine fn_ret ?_
  unfold b__law_all_levels
  simp only [eT, List.map_cons, List.map_nil] at h ⊢
  simp only [sSeq, sSet, sOwn, sPar, sParL,  sIf, sRet, sRetL, sRetO, sDrop, sAug, sApp, sFrz, frz, sAsg, gSet, gsNil, gsCons, gTupF, Fi.gSub, sFor, iL, iT, iR1, iR2, iZ, iEn, itemsK, eVar, eC, Fi.e2, Fi.e1, asB, eChain, tAndF, tOrF, tNotF, eAnd, eOr, eNot, eIf, aNil, aCons, eTup, lLst, eL, eCall, lCall, eCallF, lCallF, eSlT, lSl, oNone, oSome, ownIx, ownLen, lLc, wipeE, pYes, sNext, fnD, entry, fAdd_int, fSub, fMul_l, fMul_r, fDiv_ok, fMod_ok, fPow_ok, fLt, fLe, fGt, fGe, fEq_int, fEq_str, fEq_bool, fNe_int, fNe_str, fNe_bool, isN, fIs, fIsNot, fIx, fNeg, fLen, fMin, fMax, fTuple, fList, fIntB, fSum, fAll, fAny, at_0, at_1, at_2, eT, eS, eStep, eR, getInts_map, Option.bind_some, Option.map_some, List.getElem?_cons_succ, List.getElem?_cons_zero, List.set_cons_succ, List.set_cons_zero, List.length_cons, List.length_nil, List.length_map, List.map_cons, List.map_nil, List.nil_append, List.cons_append, List.replicate, Nat.zero_add, Nat.reduceAdd, Nat.reduceSub, decide_true, decide_false, reduceIte, Nat.reduceLeDiff, Nat.reduceLT, Int.reduceLT, Int.reduceLE, Int.reduceNeg, Int.reducePow, and_self, or_self, and_true, true_and, or_true, true_or, Bool.not_true, Bool.not_false, pour_spend, spend_pour, h, Nat.zero_le]
theorem all_small {caps : List Int} (hc : ∀ c ∈ caps, 0 ≤ c ∧ c ≤ 5) (hl : caps.length ≤ 3) : (allL caps).length ≤ 1000 := by
  have key : ∀ (cs : List Int) (rows : List (List Int)), (∀ c ∈ cs, 0 ≤ c ∧ c ≤ 5) → (allA rows cs).length ≤ rows.length * 6 ^ cs.length := fun cs => by
    induction cs with
    | nil => intro rows _; simp [allA]
    | cons c cs ih =>
      intro rows h
      have h1 := ih (ext rows c) fun x hx => h x (by simp [hx])
      have hle : (ext rows c).length ≤ rows.length * 6 := by
        rw [ext_len]
        exact Nat.mul_le_mul_left _ (by have := h c (by simp); omega)
      rw [List.length_cons, Nat.pow_succ, Nat.mul_comm _ 6, ← Nat.mul_assoc]
      exact Nat.le_trans h1 (Nat.mul_le_mul_right _ hle)
  have h6 : 6 ^ caps.length ≤ 6 ^ 3 := Nat.pow_le_pow_right (by decide) hl
  have := key caps [[]] hc
  simp at this
  show (allA [[]] caps).length ≤ 1000
  omega
end Lw

namespace Lw
open PySem L2 Fi
/-- nowhere more -/
def Le : List Int → List Int → Prop
  | [], [] => True
  | a :: as, b :: bs => a ≤ b ∧ Le as bs
  | _, _ => False
theorem Le.refl : ∀ l : List Int, Le l l
  | [] => trivial
  | _ :: l => ⟨Int.le_refl _, Le.refl l⟩
theorem Le.len : ∀ {a b : List Int}, Le a b → a.length = b.length
  | [], [], _ => rfl
  | _ :: _, _ :: _, h => by rw [List.length_cons, List.length_cons, h.2.len]
  | [], _ :: _, h => h.elim
  | _ :: _, [], h => h.elim
theorem Le.get : ∀ {a b : List Int} (i : Nat), Le a b → a.getD i 0 ≤ b.getD i 0
  | [], [], _, _ => Int.le_refl _
  | _ :: _, _ :: _, 0, h => h.1
  | _ :: as, _ :: bs, i + 1, h => by
    have := h.2.get i
    simpa using this
  | [], _ :: _, _, h => h.elim
  | _ :: _, [], _, h => h.elim
theorem Le.set : ∀ {a b : List Int} (i : Nat) {x y : Int}, Le a b → x ≤ y → Le (a.set i x) (b.set i y)
  | [], [], _, _, _, _, _ => trivial
  | _ :: _, _ :: _, 0, _, _, h, q => ⟨q, h.2⟩
  | _ :: _, _ :: _, i + 1, _, _, h, q => ⟨h.1, h.2.set i q⟩
  | [], _ :: _, _, _, _, h, _ => h.elim
  | _ :: _, [], _, _, _, h, _ => h.elim
theorem Le.trans : ∀ {a b c : List Int}, Le a b → Le b c → Le a c
  | [], [], [], _, _ => trivial
  | _ :: _, _ :: _, _ :: _, h, q => ⟨Int.le_trans h.1 q.1, h.2.trans q.2⟩
  | [], _ :: _, _, h, _ => h.elim
  | _ :: _, [], _, h, _ => h.elim
  | [], [], _ :: _, _, q => q.elim
  | _ :: _, _ :: _, [], _, q => q.elim
theorem Le.antisymm : ∀ {a b : List Int}, Le a b → Le b a → a = b
  | [], [], _, _ => rfl
  | _ :: _, _ :: _, h, q => by rw [Int.le_antisymm h.1 q.1, h.2.antisymm q.2]
  | [], _ :: _, h, _ => h.elim
  | _ :: _, [], h, _ => h.elim
theorem pour_mono : ∀ {cs l m : List Int} {a b : Int}, cs.length = l.length → Le l m → a ≤ b → Le (pourM cs l a).1 (pourM cs m b).1 ∧ (pourM cs l a).2 ≤ (pourM cs m b).2
  | [], [], [], a, b, _, _, h => ⟨trivial, h⟩
  | c :: cs, x :: l, y :: m, a, b, hl, h, hab => by
    have h1 := h.1
    have ih := pour_mono (cs := cs) (l := l) (m := m) (a := a - min a (c - x)) (b := b - min b (c - y)) (by simpa using hl) h.2 (by omega)
    exact ⟨⟨by omega, ih.1⟩, ih.2⟩
  | [], _ :: _, _, _, _, hl, _, _ => by simp at hl
  | _ :: _, [], _, _, _, hl, _, _ => by simp at hl
  | _, [], _ :: _, _, _, _, h, _ => h.elim
  | _, _ :: _, [], _, _, _, h, _ => h.elim
theorem run_mono {caps : List Int} : ∀ {s : List Step} {l m : List Int} {x y : Int} {p : List Int × Int}, caps.length = l.length → Le l m → x ≤ y → runA caps l x s = some p → ∃ q, runA caps m y s = some q ∧ Le p.1 q.1 ∧ p.2 ≤ q.2
  | [], l, m, x, y, p, _, h, hxy, e => by
    cases e
    exact ⟨_, rfl, h, hxy⟩
  | .pour a :: s, l, m, x, y, p, hl, h, hxy, e => by
    obtain ⟨h1, h2⟩ := pour_mono (a := a) (b := a) hl h (Int.le_refl _)
    exact run_mono (s := s) (l := (pourM caps l a).1) (m := (pourM caps m a).1) (x := x + (pourM caps l a).2) (y := y + (pourM caps m a).2) (by rw [pourM_len hl, hl]) h1 (by omega) e
  | .spend i a :: s, l, m, x, y, p, hl, h, hxy, e => by
    have hg := h.get i
    simp only [runA, stepM] at e ⊢
    by_cases hlt : l.getD i 0 < a
    · rw [if_pos hlt] at e
      cases e
    · rw [if_neg hlt] at e
      rw [if_neg (by omega)]
      exact run_mono (s := s) (l := l.set i (l.getD i 0 - a)) (m := m.set i (m.getD i 0 - a)) (x := x + 0) (y := y + 0) (by rw [List.length_set, hl]) (h.set i (by omega)) (by omega) e
/-- a script that is possible behind a pour is possible behind a larger one -/
theorem pour_up {caps lv : List Int} {s : List Step} {a b : Int} (hl : caps.length = lv.length) (hab : a ≤ b) (h : runM caps lv (.pour a :: s) ≠ none) : runM caps lv (.pour b :: s) ≠ none := by
  obtain ⟨h1, h2⟩ := pour_mono (a := a) (b := b) hl (Le.refl lv) hab
  cases e : runM caps lv (.pour a :: s) with
  | none => exact absurd e h
  | some p =>
    obtain ⟨q, hq, _⟩ := run_mono (s := s) (x := 0 + (pourM caps lv a).2) (y := 0 + (pourM caps lv b).2) (by rw [pourM_len hl, hl]) h1 (by omega) e
    have : runM caps lv (.pour b :: s) = some q := hq
    rw [this]
    exact fun z => by cases z
theorem spend_down {caps lv : List Int} {s : List Step} {i : Nat} {a b : Int} (hl : caps.length = lv.length) (hab : a ≤ b) (h : runM caps lv (.spend i b :: s) ≠ none) : runM caps lv (.spend i a :: s) ≠ none := by
  simp only [runM, runA, stepM] at h ⊢
  by_cases hb : lv.getD i 0 < b
  · rw [if_pos hb] at h
    exact absurd rfl h
  · rw [if_neg hb] at h
    rw [if_neg (by omega)]
    cases e : runA caps (lv.set i (lv.getD i 0 - b)) (0 + 0) s with
    | none => exact absurd e h
    | some p =>
      obtain ⟨q, hq, _⟩ := run_mono (s := s) (x := 0 + 0) (y := 0 + 0) (by rw [List.length_set, hl]) ((Le.refl lv).set i (show lv.getD i 0 - b ≤ lv.getD i 0 - a by omega)) (Int.le_refl _) e
      show runA caps (lv.set i (lv.getD i 0 - a)) (0 + 0) s ≠ none
      rw [hq]
      exact fun z => by cases z
theorem set_self : ∀ {l : List Int} {i : Nat}, l.set i (l.getD i 0) = l
  | [], _ => rfl
  | _ :: _, 0 => rfl
  | x :: l, i + 1 => by
    have := set_self (l := l) (i := i)
    simpa using this
theorem spend_zero {caps lv : List Int} {s : List Step} {i : Nat} (h : 0 ≤ lv.getD i 0) : runM caps lv (.spend i 0 :: s) = runM caps lv s := by
  simp only [runM, runA, stepM]
  rw [if_neg (by omega), Int.sub_zero, set_self]
  rfl
end Lw

namespace Lw
open PySem L2 Fi
/-! ### plain: the formula -/
/-- some place is to be raised -/
def up : List Int → List Int → Bool
  | a :: s, b :: y => decide (a < b) || up s y
  | _, _ => false
def mid : List Int → List Int → List Int → List Int
  | c :: cs, a :: s, b :: y => if up s y then c :: mid cs s y else (if a < b then b else a) :: s
  | _, s, _ => s
def amtU : List Int → List Int → List Int → Int
  | c :: cs, a :: s, b :: y => if up s y then (c - a) + amtU cs s y else if a < b then b - a else 0
  | _, _, _ => 0
def dn : List Int → List Int → Nat
  | b :: y, m :: l => (if b < m then 1 else 0) + dn y l
  | _, _ => 0
def fF (caps s y : List Int) : Nat := (if up s y then 1 else 0) + dn y (mid caps s y)
theorem up_self : ∀ s : List Int, up s s = false
  | [] => rfl
  | a :: s => by simp [up, up_self s]
theorem mid_no : ∀ {caps s y : List Int}, up s y = false → mid caps s y = s
  | c :: cs, a :: s, b :: y, h => by
    simp only [up, Bool.or_eq_false_iff, decide_eq_false_iff_not] at h
    simp only [mid, h.2, Bool.false_eq_true, if_false]
    rw [if_neg h.1]
  | [], s, y, _ => by cases s <;> cases y <;> rfl
  | _ :: _, [], y, _ => by cases y <;> rfl
  | _ :: _, _ :: _, [], _ => rfl
theorem fF_cons (c a b : Int) (cs s y : List Int) : fF (c :: cs) (a :: s) (b :: y) = fF cs s y + (if up s y then (if b < c then 1 else 0) else (if b = a then 0 else 1)) := by
  unfold fF
  cases h : up s y with
  | true =>
    simp only [up, mid, h, Bool.or_true, if_true, dn]
    omega
  | false =>
    have hm := mid_no (caps := cs) h
    simp only [up, mid, h, Bool.or_false, Bool.false_eq_true, if_false, dn, decide_eq_true_eq, hm]
    by_cases h1 : a < b
    · simp only [h1, if_true]
      rw [if_neg (Int.lt_irrefl b), if_neg (by omega)]
      omega
    · simp only [h1, if_false]
      by_cases h2 : b = a
      · subst h2
        rw [if_neg (Int.lt_irrefl b), if_pos rfl]
        omega
      · rw [if_pos (show b < a by omega), if_neg h2]
        omega
theorem dn_self : ∀ s : List Int, dn s s = 0
  | [] => rfl
  | a :: s => by simp [dn, dn_self s]
theorem fF_self (caps s : List Int) : fF caps s s = 0 := by
  unfold fF
  rw [up_self, mid_no (up_self s), dn_self]
  rfl
theorem fF_len : ∀ {caps s y : List Int}, caps.length = s.length → s.length = y.length → fF caps s y ≤ caps.length
  | [], [], [], _, _ => by simp [fF, up, mid, dn]
  | c :: cs, a :: s, b :: y, h1, h2 => by
    have := fF_len (caps := cs) (s := s) (y := y) (by simpa using h1) (by simpa using h2)
    rw [fF_cons, List.length_cons]
    split <;> split <;> omega
  | [], _ :: _, _, h, _ => by simp at h
  | _ :: _, [], _, h, _ => by simp at h
  | [], [], _ :: _, _, h => by simp at h
  | _ :: _, _ :: _, [], _, h => by simp at h
/-- one place is lowered -/
inductive Low : List Int → List Int → Prop
  | here {b b' : Int} {x : List Int} (h0 : 0 ≤ b') (h : b' < b) : Low (b :: x) (b' :: x)
  | there {b : Int} {x y : List Int} (h : Low x y) : Low (b :: x) (b :: y)
theorem Low.le {x y : List Int} (h : Low x y) : Le y x := by
  induction h with
  | here h0 h => exact ⟨Int.le_of_lt h, Le.refl _⟩
  | there h ih => exact ⟨Int.le_refl _, ih⟩
theorem up_mono : ∀ {s x y : List Int}, Le x y → up s x = true → up s y = true
  | a :: s, b :: x, b' :: y, h, u => by
    have h1 := h.1
    simp only [up, Bool.or_eq_true, decide_eq_true_eq] at u ⊢
    rcases u with u | u
    · exact .inl (by omega)
    · exact .inr (up_mono h.2 u)
  | [], _, _, _, u => by simp [up] at u
  | _ :: _, [], _, _, u => by simp [up] at u
  | _ :: _, _ :: _, [], h, _ => h.elim
theorem up_mono' {s x y : List Int} (h : Le x y) (u : up s y = false) : up s x = false := by
  cases e : up s x with
  | false => rfl
  | true => rw [up_mono h e] at u; cases u
theorem fF_flat : ∀ {caps s x y : List Int}, caps.length = s.length → s.length = x.length → Le x y → up s y = false → fF caps s y ≤ fF caps s x
  | [], [], [], [], _, _, _, _ => Nat.le_refl _
  | c :: cs, a :: s, b :: x, b' :: y, h1, h2, h, u => by
    have hu := up_mono' h u
    simp only [up, Bool.or_eq_false_iff, decide_eq_false_iff_not] at u hu
    have ih := fF_flat (caps := cs) (by simpa using h1) (by simpa using h2) h.2 u.2
    rw [fF_cons, fF_cons, u.2, hu.2]
    simp only [Bool.false_eq_true, if_false]
    have hb := h.1
    by_cases e : b' = a
    · rw [if_pos e]; omega
    · rw [if_neg e, if_neg (by omega)]; omega
  | [], [], [], _ :: _, _, _, h, _ => h.elim
  | [], [], _ :: _, _, _, h, _, _ => by simp at h
  | [], _ :: _, _, _, h, _, _, _ => by simp at h
  | _ :: _, [], _, _, h, _, _, _ => by simp at h
  | _ :: _, _ :: _, [], _, _, h, _, _ => by simp at h
  | _ :: _, _ :: _, _ :: _, [], _, _, h, _ => h.elim
theorem low_step {x y : List Int} (h : Low x y) : ∀ {caps s : List Int}, Lv caps s → s.length = x.length → fF caps s y ≤ fF caps s x + 1 ∧ (up s x = true → up s y = false → fF caps s y ≤ fF caps s x) := by
  induction h with
  | @here b b' x h0 hb =>
    intro caps s hs hl
    cases caps with
    | nil => cases s with
      | nil => simp at hl
      | cons _ _ => exact hs.elim
    | cons c cs => cases s with
      | nil => exact hs.elim
      | cons a s =>
        rw [fF_cons, fF_cons]
        cases hu : up s x with
        | true =>
          simp only [if_true]
          refine ⟨by split <;> split <;> omega, fun _ q => ?_⟩
          simp [up, hu] at q
        | false =>
          simp only [Bool.false_eq_true, if_false]
          refine ⟨by split <;> split <;> omega, fun q1 q2 => ?_⟩
          simp only [up, hu, Bool.or_false, decide_eq_true_eq, decide_eq_false_iff_not] at q1 q2
          rw [if_neg (show ¬ b = a by omega)]
          split <;> omega
  | @there b x y h ih =>
    intro caps s hs hl
    cases caps with
    | nil => cases s with
      | nil => simp at hl
      | cons _ _ => exact hs.elim
    | cons c cs => cases s with
      | nil => exact hs.elim
      | cons a s =>
        obtain ⟨i1, i2⟩ := ih hs.2.2 (by simpa using hl)
        have hac := hs.2.1
        rw [fF_cons, fF_cons]
        cases hx : up s x with
        | true =>
          cases hy : up s y with
          | true =>
            simp only [if_true]
            refine ⟨by omega, fun _ q => ?_⟩
            simp [up, hy] at q
          | false =>
            have i3 := i2 hx hy
            simp only [if_true, Bool.false_eq_true, if_false]
            refine ⟨by split <;> split <;> omega, fun q1 q2 => ?_⟩
            simp only [up, hy, Bool.or_false, decide_eq_false_iff_not] at q2
            by_cases e : b = a
            · rw [if_pos e]; omega
            · rw [if_neg e, if_pos (show b < c by omega)]; omega
        | false =>
          have hy := up_mono' h.le hx
          simp only [hy, Bool.false_eq_true, if_false]
          refine ⟨by omega, fun q1 q2 => ?_⟩
          simp only [up, hx, hy, Bool.or_false] at q1 q2
          rw [q1] at q2
          cases q2
theorem Lv.sumsN : ∀ {cs l : List Int}, Lv cs l → 0 ≤ l.sum ∧ l.sum ≤ cs.sum
  | [], [], _ => by simp
  | c :: cs, x :: l, h => by
    have := h.2.2.sumsN
    have h1 := h.1
    have h2 := h.2.1
    rw [List.sum_cons, List.sum_cons]
    omega
  | [], _ :: _, h => h.elim
  | _ :: _, [], h => h.elim
theorem pour_ge : ∀ {cs l : List Int} {a : Int}, Lv cs l → 0 ≤ a → Le l (pourM cs l a).1
  | [], [], a, _, _ => trivial
  | c :: cs, x :: l, a, h, ha => by
    have h2 := h.2.1
    exact ⟨by show x ≤ x + min a (c - x); omega, pour_ge h.2.2 (by omega)⟩
  | [], _ :: _, _, h, _ => h.elim
  | _ :: _, [], _, h, _ => h.elim
theorem pour_none : ∀ {cs l : List Int}, Lv cs l → (pourM cs l 0).1 = l
  | [], [], _ => rfl
  | c :: cs, x :: l, h => by
    have h2 := h.2.1
    have e : min 0 (c - x) = 0 := by omega
    simp only [pourM, e, Int.sub_zero, Int.add_zero, pour_none h.2.2]
  | [], _ :: _, h => h.elim
  | _ :: _, [], h => h.elim
theorem pour_step : ∀ {caps s x : List Int} {a : Int}, Lv caps s → Lv caps x → 0 ≤ a → fF caps s (pourM caps x a).1 ≤ fF caps s x + 1
  | [], [], [], _, _, _, _ => by simp [pourM, fF, up, mid, dn]
  | c :: cs, a0 :: s, b :: x, a, hs, hx, ha => by
    have hb := hx.2.1
    have hle := pour_ge (a := a - min a (c - b)) hx.2.2 (by omega)
    have ih := pour_step (a := a - min a (c - b)) hs.2.2 hx.2.2 (by omega)
    have hl1 : cs.length = s.length := hs.2.2.len
    have hl2 : s.length = x.length := by rw [← hl1, hx.2.2.len]
    show fF (c :: cs) (a0 :: s) ((b + min a (c - b)) :: (pourM cs x (a - min a (c - b))).1) ≤ _
    rw [fF_cons, fF_cons]
    by_cases h : a ≤ c - b
    · have e : a - min a (c - b) = 0 := by omega
      rw [e, pour_none hx.2.2]
      cases hu : up s x with
      | true => simp only [if_true]; split <;> split <;> omega
      | false => simp only [Bool.false_eq_true, if_false]; split <;> split <;> omega
    · have e : b + min a (c - b) = c := by omega
      rw [e]
      cases hu : up s (pourM cs x (a - min a (c - b))).1 with
      | true =>
        simp only [if_true]
        rw [if_neg (Int.lt_irrefl c)]
        omega
      | false =>
        have hf := fF_flat (caps := cs) hl1 hl2 hle hu
        simp only [Bool.false_eq_true, if_false]
        split <;> omega
  | [], [], _ :: _, _, _, h, _ => h.elim
  | [], _ :: _, _, _, h, _, _ => h.elim
  | _ :: _, [], _, _, h, _, _ => h.elim
  | _ :: _, _ :: _, [], _, _, h, _ => h.elim
theorem flat_eq : ∀ {s y : List Int}, Le s y → up s y = false → y = s
  | [], [], _, _ => rfl
  | a :: s, b :: y, h, u => by
    simp only [up, Bool.or_eq_false_iff, decide_eq_false_iff_not] at u
    rw [flat_eq h.2 u.2]
    have := h.1
    rw [show b = a by omega]
  | [], _ :: _, h, _ => h.elim
  | _ :: _, [], h, _ => h.elim
theorem up_ne {s y : List Int} (h : up s y = true) : y ≠ s := fun e => by
  rw [e, up_self] at h
  cases h
/-- a way to y begins with a way that is one shorter -/
theorem pred : ∀ {caps s y : List Int}, Lv caps s → Lv caps y → y ≠ s → ∃ x, Lv caps x ∧ fF caps s x + 1 = fF caps s y ∧ (up s y = false → up s x = false) ∧ (Low x y ∨ (x = s ∧ ∃ a, 1 ≤ a ∧ a ≤ caps.sum - s.sum ∧ (pourM caps s a).1 = y))
  | [], [], [], _, _, h => absurd rfl h
  | c :: cs, a :: s, b :: y, hs, hy, hne => by
    have ha := hs.1
    have hac := hs.2.1
    have hb := hy.1
    have hbc := hy.2.1
    have hsum := hs.2.2.sumsN
    cases hu : up s y with
    | true =>
      by_cases h : b < c
      · refine ⟨c :: y, ⟨by omega, Int.le_refl _, hy.2.2⟩, ?_, fun q => by simp [up, hu] at q, .inl (.here hb h)⟩
        rw [fF_cons, fF_cons, hu]
        simp only [if_true]
        rw [if_neg (Int.lt_irrefl c), if_pos h]
      · have e : b = c := by omega
        subst e
        obtain ⟨x, hx, hf, _, hr⟩ := pred hs.2.2 hy.2.2 (up_ne hu)
        rcases hr with hr | ⟨rfl, a', h1, h2, h3⟩
        · refine ⟨b :: x, ⟨hb, hbc, hx⟩, ?_, fun q => by simp [up, hu] at q, .inl (.there hr)⟩
          rw [fF_cons, fF_cons, hu, up_mono hr.le hu]
          simp only [if_true]
          rw [if_neg (Int.lt_irrefl b)]
          omega
        · refine ⟨a :: x, hs, ?_, fun q => by simp [up, hu] at q, .inr ⟨rfl, (b - a) + a', by omega, by rw [List.sum_cons, List.sum_cons]; omega, ?_⟩⟩
          · rw [fF_self] at hf
            rw [fF_self, fF_cons, hu]
            simp only [if_true]
            rw [if_neg (Int.lt_irrefl b)]
            omega
          · have em : min ((b - a) + a') (b - a) = b - a := by omega
            simp only [pourM, em]
            rw [show (b - a) + a' - (b - a) = a' by omega, h3, show a + (b - a) = b by omega]
    | false =>
      by_cases h : b = a
      · subst h
        have hne' : y ≠ s := fun e => hne (by rw [e])
        obtain ⟨x, hx, hf, hux, hr⟩ := pred hs.2.2 hy.2.2 hne'
        rcases hr with hr | ⟨rfl, a', h1, h2, h3⟩
        · refine ⟨b :: x, ⟨hb, hbc, hx⟩, ?_, fun _ => by simp [up, hux hu], .inl (.there hr)⟩
          rw [fF_cons, fF_cons, hu, hux hu]
          simp only [Bool.false_eq_true, if_false, if_true]
          omega
        · exfalso
          have := pour_ge (a := a') hs.2.2 (by omega)
          rw [h3] at this
          exact hne' (flat_eq this hu)
      · by_cases hlt : b < a
        · refine ⟨a :: y, ⟨ha, hac, hy.2.2⟩, ?_, fun _ => by simp [up, hu], .inl (.here hb hlt)⟩
          rw [fF_cons, fF_cons, hu]
          simp only [Bool.false_eq_true, if_false, if_true]
          rw [if_neg h]
        · by_cases hys : y = s
          · subst hys
            refine ⟨a :: y, hs, ?_, fun q => ?_, .inr ⟨rfl, b - a, by omega, by rw [List.sum_cons, List.sum_cons]; omega, ?_⟩⟩
            · rw [fF_cons, fF_cons, hu, fF_self]
              simp only [Bool.false_eq_true, if_false, if_true]
              rw [if_neg h]
            · exfalso
              simp only [up, Bool.or_eq_false_iff, decide_eq_false_iff_not] at q
              omega
            · have em : min (b - a) (c - a) = b - a := by omega
              simp only [pourM, em]
              rw [show b - a - (b - a) = 0 by omega, pour_none hs.2.2, show a + (b - a) = b by omega]
          · obtain ⟨x, hx, hf, hux, hr⟩ := pred hs.2.2 hy.2.2 hys
            rcases hr with hr | ⟨rfl, a', h1, h2, h3⟩
            · refine ⟨b :: x, ⟨hb, hbc, hx⟩, ?_, fun q => ?_, .inl (.there hr)⟩
              · rw [fF_cons, fF_cons, hu, hux hu]
                simp only [Bool.false_eq_true, if_false]
                omega
              · exfalso
                simp only [up, Bool.or_eq_false_iff, decide_eq_false_iff_not] at q
                omega
            · exfalso
              have := pour_ge (a := a') hs.2.2 (by omega)
              rw [h3] at this
              exact hys (flat_eq this hu)
  | [], [], _ :: _, _, h, _ => h.elim
  | [], _ :: _, _, h, _, _ => h.elim
  | _ :: _, [], _, h, _, _ => h.elim
  | _ :: _, _ :: _, [], _, h, _ => h.elim
end Lw

namespace Lw
open PySem L2 Fi
theorem shaped_tup (l : List Int) : SeqAt.shaped (eT l) = true := by
  have h := depth_ints l
  have h2 := canLay_ints l
  simp only [SeqAt.shaped, PyData.canLay0, h2, PyData.depth, Bool.true_and]
  exact decide_eq_true (by omega)
theorem canLay_rows : ∀ l : List (List Int), PyData.canLayAll0 (l.map eT) = true
  | [] => rfl
  | r :: l => by
    show (PyData.canLayAll0 (r.map .int) && PyData.canLayAll0 (l.map eT)) = true
    rw [canLay_rows l, canLay_ints r]
    rfl
theorem depth_rows : ∀ l : List (List Int), PyData.depthAll (l.map eT) ≤ 2
  | [] => by simp [PyData.depthAll]
  | r :: l => by
    have := depth_rows l
    have h := depth_ints r
    simp only [List.map_cons, eT, PyData.depthAll, PyData.depth] at this ⊢
    omega
theorem shaped_rows (l : List (List Int)) : SeqAt.shaped (.list (l.map eT)) = true := by
  have h := depth_rows l
  have h2 := canLay_rows l
  simp only [SeqAt.shaped, PyData.canLay0, h2, PyData.depth, Bool.true_and]
  exact decide_eq_true (by omega)
/-! ### what one step reaches -/
def pours (caps x : List Int) : List (List Int) := (List.range caps.sum.toNat).map fun (i : Nat) => (pourM caps x (1 + (i : Int))).1
def lowP (x : List Int) (p : Nat) : List (List Int) := (List.range (x.getD p 0).toNat).map fun (v : Nat) => x.take p ++ (v : Int) :: x.drop (p + 1)
def nextO (caps x : List Int) : List (List Int) := pours caps x ++ (List.range caps.length).flatMap (lowP x)
theorem low_of : ∀ {x : List Int} {p : Nat} {v : Nat}, p < x.length → (v : Int) < x.getD p 0 → Low x (x.take p ++ (v : Int) :: x.drop (p + 1))
  | [], _, _, h, _ => by simp at h
  | b :: x, 0, v, _, h => by
    have h : (v : Int) < b := h
    exact .here (Int.natCast_nonneg v) h
  | b :: x, p + 1, v, h, q => .there (low_of (by simpa using h) (by simpa using q))
theorem of_low {x y : List Int} (h : Low x y) : ∃ p, p < x.length ∧ y ∈ lowP x p := by
  induction h with
  | @here b b' x h0 hb =>
    refine ⟨0, by simp, List.mem_map.mpr ⟨b'.toNat, List.mem_range.mpr ?_, ?_⟩⟩
    · show b'.toNat < b.toNat
      omega
    · show ((b'.toNat : Nat) : Int) :: x = b' :: x
      rw [show ((b'.toNat : Nat) : Int) = b' by omega]
  | @there b x y h ih =>
    obtain ⟨p, hp, hm⟩ := ih
    refine ⟨p + 1, by simp; omega, ?_⟩
    obtain ⟨v, hv, rfl⟩ := List.mem_map.mp hm
    exact List.mem_map.mpr ⟨v, by simpa using hv, rfl⟩
theorem Low.lv {x y : List Int} (h : Low x y) : ∀ {caps : List Int}, Lv caps x → Lv caps y := by
  induction h with
  | here h0 hb =>
    intro caps hx
    cases caps with
    | nil => exact hx.elim
    | cons c cs =>
      have := hx.2.1
      exact ⟨h0, by omega, hx.2.2⟩
  | there h ih =>
    intro caps hx
    cases caps with
    | nil => exact hx.elim
    | cons c cs => exact ⟨hx.1, hx.2.1, ih hx.2.2⟩
theorem next_step {caps s x y : List Int} (hs : Lv caps s) (hx : Lv caps x) (h : y ∈ nextO caps x) : Lv caps y ∧ fF caps s y ≤ fF caps s x + 1 := by
  have hl := hx.len
  rcases List.mem_append.mp h with h | h
  · obtain ⟨i, _, rfl⟩ := List.mem_map.mp h
    exact ⟨(hx.pour (by omega)).1, pour_step hs hx (by omega)⟩
  · obtain ⟨p, hp, h⟩ := List.mem_flatMap.mp h
    obtain ⟨v, hv, rfl⟩ := List.mem_map.mp h
    have hp := List.mem_range.mp hp
    have hv := List.mem_range.mp hv
    have lo := low_of (x := x) (p := p) (v := v) (by omega) (by omega)
    exact ⟨lo.lv hx, (low_step lo hs (by rw [← hs.len, hl])).1⟩
theorem next_of {caps s y : List Int} (hs : Lv caps s) (hy : Lv caps y) (hne : y ≠ s) : ∃ x, Lv caps x ∧ fF caps s x + 1 = fF caps s y ∧ y ∈ nextO caps x := by
  obtain ⟨x, hx, hf, _, hr⟩ := pred hs hy hne
  refine ⟨x, hx, hf, List.mem_append.mpr ?_⟩
  rcases hr with hr | ⟨rfl, a, h1, h2, h3⟩
  · obtain ⟨p, hp, hm⟩ := of_low hr
    exact .inr (List.mem_flatMap.mpr ⟨p, List.mem_range.mpr (by rw [hx.len]; exact hp), hm⟩)
  · have hsum := hs.sumsN
    exact .inl (List.mem_map.mpr ⟨(a - 1).toNat, List.mem_range.mpr (by omega), by rw [show (1 : Int) + ((a - 1).toNat : Nat) = a by omega]; exact h3⟩)
theorem zero_of {caps s y : List Int} (hs : Lv caps s) (hy : Lv caps y) (h : fF caps s y = 0) : y = s := by
  by_cases e : y = s
  · exact e
  · obtain ⟨x, _, hf, _⟩ := next_of hs hy e
    omega
theorem down_to {caps s : List Int} (hs : Lv caps s) (n : Nat) : ∀ (k : Nat) {y : List Int}, Lv caps y → fF caps s y = n + k → ∃ x, Lv caps x ∧ fF caps s x = n
  | 0, y, hy, h => ⟨y, hy, h⟩
  | k + 1, y, hy, h => by
    obtain ⟨x, hx, hf, _⟩ := next_of hs hy (fun e => by rw [e, fF_self] at h; omega)
    exact down_to hs n k hx (by omega)
/-! ### dicts -/
theorem has_get (kvs : List (List Int × PyData)) (k : List Int) : hasD kvs k = (getDct kvs k).isSome := by
  unfold hasD getDct
  induction kvs with
  | nil => rfl
  | cons kv kvs ih =>
    rw [List.any_cons, List.find?_cons]
    by_cases e : kv.1 = k
    · simp [e]
    · simp only [decide_eq_false e, Bool.false_or]
      exact ih
theorem get_new {kvs : List (List Int × PyData)} {k : List Int} {v : PyData} (h : hasD kvs k = false) (k' : List Int) : getDct (putD kvs k v) k' = if k' = k then some v else getDct kvs k' := by
  unfold putD
  rw [h, if_neg Bool.false_ne_true]
  unfold getDct
  rw [List.find?_append]
  by_cases e : k' = k
  · subst e
    have : (kvs.find? fun kv => decide (kv.1 = k')) = none := by
      rw [has_get] at h
      unfold getDct at h
      rw [Option.isSome_map] at h
      exact Option.not_isSome_iff_eq_none.mp (by rw [h]; exact Bool.false_ne_true)
    rw [this, if_pos rfl]
    simp
  · rw [if_neg e]
    have : ([(k, v)].find? fun kv => decide (kv.1 = k')) = none := by
      rw [List.find?_cons, decide_eq_false (fun z => e z.symm)]
      rfl
    rw [this, Option.or_none]
theorem put_new {kvs : List (List Int × PyData)} {k : List Int} {v : PyData} (h : hasD kvs k = false) : putD kvs k v = kvs ++ [(k, v)] := by
  unfold putD
  rw [h, if_neg Bool.false_ne_true]
theorem nodup_le {α : Type} [DecidableEq α] : ∀ {l m : List α}, l.Nodup → (∀ x ∈ l, x ∈ m) → l.length ≤ m.length
  | [], _, _, _ => Nat.zero_le _
  | x :: l, m, hn, h => by
    have hx := h x (by simp)
    have hn' := List.nodup_cons.mp hn
    have ih := nodup_le (m := m.erase x) hn'.2 fun y hy => by
      have hne : y ≠ x := fun e => hn'.1 (by rw [← e]; exact hy)
      exact (List.mem_erase_of_ne hne).mpr (h y (by simp [hy]))
    rw [List.length_erase_of_mem hx] at ih
    have := List.length_pos_of_mem hx
    rw [List.length_cons]
    omega
structure Fnd (caps s : List Int) (n : Nat) (kvs : List (List Int × PyData)) (re : List (List Int)) : Prop where
  a : ∀ y, Lv caps y → fF caps s y ≤ n → getDct kvs y = some (.int (fF caps s y))
  b : ∀ y d, getDct kvs y = some d → Lv caps y ∧ fF caps s y ≤ n + 1 ∧ d = .int (fF caps s y)
  c : ∀ y ∈ re, Lv caps y ∧ fF caps s y = n + 1
  d : ∀ y, hasD kvs y = true → fF caps s y = n + 1 → y ∈ re
  nd : (kvs.map (·.1)).Nodup
  sub : ∀ k ∈ kvs.map (·.1), k ∈ allL caps
  len : re.length ≤ kvs.length
theorem Fnd.small {caps s : List Int} {n : Nat} {kvs : List (List Int × PyData)} {re : List (List Int)} (h : Fnd caps s n kvs re) : kvs.length ≤ (allL caps).length := by
  have := nodup_le h.nd h.sub
  rw [List.length_map] at this
  exact this
theorem Fnd.put {caps s y : List Int} {n : Nat} {kvs : List (List Int × PyData)} {re : List (List Int)} (h : Fnd caps s n kvs re) (hy : Lv caps y) (hf : fF caps s y ≤ n + 1) (hn : hasD kvs y = false) : Fnd caps s n (putD kvs y (.int ((n : Int) + 1))) (re ++ [y]) := by
  have hn1 : fF caps s y = n + 1 := by
    by_cases q : fF caps s y ≤ n
    · have := h.a y hy q
      rw [has_get, this] at hn
      cases hn
    · omega
  have hk : y ∉ kvs.map (·.1) := fun q => by
    obtain ⟨kv, hm, e⟩ := List.mem_map.mp q
    have : hasD kvs y = true := List.any_eq_true.mpr ⟨kv, hm, decide_eq_true e⟩
    rw [hn] at this
    cases this
  refine ⟨fun z hz q => ?_, fun z d q => ?_, fun z q => ?_, fun z q1 q2 => ?_, ?_, fun k q => ?_, ?_⟩
  · rw [get_new hn]
    by_cases e : z = y
    · subst e
      omega
    · rw [if_neg e]
      exact h.a z hz q
  · rw [get_new hn] at q
    by_cases e : z = y
    · subst e
      rw [if_pos rfl] at q
      cases q
      refine ⟨hy, hf, ?_⟩
      rw [hn1]
      rfl
    · rw [if_neg e] at q
      exact h.b z d q
  · rcases List.mem_append.mp q with q | q
    · exact h.c z q
    · rw [List.mem_singleton.mp q]
      exact ⟨hy, hn1⟩
  · by_cases e : z = y
    · simp [e]
    · refine List.mem_append_left _ (h.d z ?_ q2)
      rw [has_get, get_new hn, if_neg e, ← has_get] at q1
      exact q1
  · rw [put_new hn, List.map_append]
    exact List.nodup_append.mpr ⟨h.nd, List.pairwise_singleton _ _, fun a ha b hb e => hk (by
      have hb : b = y := by simpa using hb
      rw [← hb, ← e]
      exact ha)⟩
  · rw [put_new hn, List.map_append] at q
    rcases List.mem_append.mp q with q | q
    · exact h.sub k q
    · have q : k = y := by simpa using q
      rw [q]
      exact mem_all.mpr hy
  · rw [put_new hn, List.length_append, List.length_append]
    have := h.len
    simp
    omega
end Lw

namespace Lw
open PySem L2 Fi
def nd : Option Sl → Bool
  | some (.dct _) => false
  | _ => true
theorem noD_eq (env : En) : noD env = env.all nd := by
  unfold noD
  congr 1
theorem keyD_eT (y : List Int) : keyD (eT y) = some y := getInts_map y
/-! ### the search -/
theorem visit_loop {caps s : List Int} {n : Nat} (hsm : (allL caps).length ≤ 1000) (c0 c1 fr one oth : PyData) (x8 : Option Sl) (h8 : nd x8 = true) : ∀ (l : List (List Int)) (kvs : List (List Int × PyData)) (re : List (List Int)) (y9 : Option Sl), Fnd caps s n kvs re → (∀ y ∈ l, Lv caps y ∧ fF caps s y ≤ n + 1) → nd y9 = true → ∃ kvs' re' z9,
    Fnd caps s n kvs' re' ∧ (∀ y, hasD kvs y = true → hasD kvs' y = true) ∧ (∀ y ∈ l, hasD kvs' y = true) ∧ nd z9 = true ∧
    forD (gSet 9) lp__law_search_1 (l.map eT) [some (.val c0), some (.val c1), some (.dct kvs), some (.val fr), some (.val (.int ((n : Int) + 1))), some (.own (re.map eT)), some (.val one), some (.val oth), x8, y9, none, none]
      = some (.next [some (.val c0), some (.val c1), some (.dct kvs'), some (.val fr), some (.val (.int ((n : Int) + 1))), some (.own (re'.map eT)), some (.val one), some (.val oth), x8, z9, none, none])
  | [], kvs, re, y9, h, _, h9 => ⟨kvs, re, y9, h, fun _ q => q, (fun _ q => by simp at q), h9, rfl⟩
  | y :: l, kvs, re, y9, h, hl, _ => by
    have hy := hl y (by simp)
    have kd := keyD_eT y
    have hlen := h.small
    have hre := h.len
    cases e : hasD kvs y with
    | true =>
      obtain ⟨kvs', re', z9, i1, i2, i3, i4, ih⟩ := visit_loop hsm c0 c1 fr one oth x8 h8 l kvs re (some (.val (eT y))) h (fun z hz => hl z (by simp [hz])) rfl
      refine ⟨kvs', re', z9, i1, i2, fun z hz => ?_, i4, forD_step (e1 := [some (.val c0), some (.val c1), some (.dct kvs), some (.val fr), some (.val (.int ((n : Int) + 1))), some (.own (re.map eT)), some (.val one), some (.val oth), x8, some (.val (eT y)), none, none]) (e2 := [some (.val c0), some (.val c1), some (.dct kvs), some (.val fr), some (.val (.int ((n : Int) + 1))), some (.own (re.map eT)), some (.val one), some (.val oth), x8, some (.val (eT y)), none, none]) rfl ?_ ih⟩
      · rcases List.mem_cons.mp hz with rfl | hz
        · exact i2 _ e
        · exact i3 z hz
      · generalize eT y = Y at *
        simp only [sSeq, sSet, sOwn, sPar, sParL,  sIf, sRet, sRetL, sRetO, sDrop, sAug, sApp, sFrz, frz, sAsg, gSet, gsNil, gsCons, gTupF, Fi.gSub, sFor, iL, iT, iR1, iR2, iZ, iEn, itemsK, eVar, eC, Fi.e2, Fi.e1, asB, eChain, tAndF, tOrF, tNotF, eAnd, eOr, eNot, eIf, aNil, aCons, eTup, lLst, eL, eCall, lCall, eCallF, lCallF, eSlT, lSl, oNone, oSome, ownIx, ownLen, lLc, wipeE, pYes, sNext, fnD, entry, fAdd_int, fSub, fMul_l, fMul_r, fDiv_ok, fMod_ok, fPow_ok, fLt, fLe, fGt, fGe, fEq_int, fEq_str, fEq_bool, fNe_int, fNe_str, fNe_bool, isN, fIs, fIsNot, fIx, fNeg, fLen, fMin, fMax, fTuple, fList, fIntB, fSum, fAll, fAny, at_0, at_1, at_2, eT, eS, eStep, eR, getInts_map, Option.bind_some, Option.map_some, List.getElem?_cons_succ, List.getElem?_cons_zero, List.set_cons_succ, List.set_cons_zero, List.length_cons, List.length_nil, List.length_map, List.map_cons, List.map_nil, List.nil_append, List.cons_append, List.replicate, Nat.zero_add, Nat.reduceAdd, Nat.reduceSub, decide_true, decide_false, reduceIte, Nat.reduceLeDiff, Nat.reduceLT, Int.reduceLT, Int.reduceLE, Int.reduceNeg, Int.reducePow, and_self, or_self, and_true, true_and, or_true, true_or, Bool.not_true, Bool.not_false, pour_spend, spend_pour, lp__law_search_1, dctNotIn, kd, e]
    | false =>
      have h' := h.put hy.1 hy.2 e
      obtain ⟨kvs', re', z9, i1, i2, i3, i4, ih⟩ := visit_loop hsm c0 c1 fr one oth x8 h8 l _ (re ++ [y]) (some (.val (eT y))) h' (fun z hz => hl z (by simp [hz])) rfl
      have hp : ∀ z, hasD kvs z = true → hasD (putD kvs y (.int ((n : Int) + 1))) z = true := fun z hz => by
        rw [has_get, get_new e]
        rw [has_get] at hz
        split
        · rfl
        · exact hz
      have hpy : hasD (putD kvs y (.int ((n : Int) + 1))) y = true := by
        rw [has_get, get_new e, if_pos rfl]
        rfl
      have hno : noD [some (.val c0), some (.val c1), none, some (.val fr), some (.val (.int ((n : Int) + 1))), some (.own (re.map eT)), some (.val one), some (.val oth), x8, some (.val (eT y)), none, none] = true := by
        rw [noD_eq]
        simp only [List.all_cons, List.all_nil, h8, Bool.and_true]
        rfl
      have hk : kvs.length < 100000 := by omega
      have hr : (re.map eT).length < 100000 := by rw [List.length_map]; omega
      refine ⟨kvs', re', z9, i1, fun z hz => i2 z (hp z hz), fun z hz => ?_, i4, forD_step (e1 := [some (.val c0), some (.val c1), some (.dct kvs), some (.val fr), some (.val (.int ((n : Int) + 1))), some (.own (re.map eT)), some (.val one), some (.val oth), x8, some (.val (eT y)), none, none]) (e2 := [some (.val c0), some (.val c1), some (.dct (putD kvs y (.int ((n : Int) + 1)))), some (.val fr), some (.val (.int ((n : Int) + 1))), some (.own ((re ++ [y]).map eT)), some (.val one), some (.val oth), x8, some (.val (eT y)), none, none]) rfl ?_ ih⟩
      · rcases List.mem_cons.mp hz with rfl | hz
        · exact i2 _ hpy
        · exact i3 z hz
      · rw [List.map_append, List.map_cons, List.map_nil]
        generalize eT y = Y at *
        generalize re.map eT = RE at *
        simp only [sSeq, sSet, sOwn, sPar, sParL,  sIf, sRet, sRetL, sRetO, sDrop, sAug, sApp, sFrz, frz, sAsg, gSet, gsNil, gsCons, gTupF, Fi.gSub, sFor, iL, iT, iR1, iR2, iZ, iEn, itemsK, eVar, eC, Fi.e2, Fi.e1, asB, eChain, tAndF, tOrF, tNotF, eAnd, eOr, eNot, eIf, aNil, aCons, eTup, lLst, eL, eCall, lCall, eCallF, lCallF, eSlT, lSl, oNone, oSome, ownIx, ownLen, lLc, wipeE, pYes, sNext, fnD, entry, fAdd_int, fSub, fMul_l, fMul_r, fDiv_ok, fMod_ok, fPow_ok, fLt, fLe, fGt, fGe, fEq_int, fEq_str, fEq_bool, fNe_int, fNe_str, fNe_bool, isN, fIs, fIsNot, fIx, fNeg, fLen, fMin, fMax, fTuple, fList, fIntB, fSum, fAll, fAny, at_0, at_1, at_2, eT, eS, eStep, eR, getInts_map, Option.bind_some, Option.map_some, List.getElem?_cons_succ, List.getElem?_cons_zero, List.set_cons_succ, List.set_cons_zero, List.length_cons, List.length_nil, List.length_map, List.map_cons, List.map_nil, List.nil_append, List.cons_append, List.replicate, Nat.zero_add, Nat.reduceAdd, Nat.reduceSub, decide_true, decide_false, reduceIte, Nat.reduceLeDiff, Nat.reduceLT, Int.reduceLT, Int.reduceLE, Int.reduceNeg, Int.reducePow, and_self, or_self, and_true, true_and, or_true, true_or, Bool.not_true, Bool.not_false, pour_spend, spend_pour, lp__law_search_1, dctNotIn, Fi.sDPut, kd, e, hno, hk, hr]
theorem pours_lc {caps x : List Int} (hc : caps.length ≤ 100) (hl : caps.length = x.length) (y1 y2 y3 y4 y5 y6 y7 y8 y9 y10 y11 : Option Sl) : ∀ l : List Nat,
    lcD (gSet 10) pYes (Fi.e2 fIx (eCallF F__law_run (aCons (eVar 0) (aCons (eVar 6) (aCons (eTup (aCons (eTup (aCons (eC (.str "pour")) (aCons (eVar 10) aNil))) aNil)) aNil)))) (eC (.int 0))) [some (.val (eT caps)), y1, y2, y3, y4, y5, some (.val (eT x)), y7, y8, y9, y10, y11] (l.map fun (i : Nat) => PyData.int (1 + (i : Int))) = some ((l.map fun (i : Nat) => (pourM caps x (1 + (i : Int))).1).map eT)
  | [] => rfl
  | i :: l => by
    have ih := pours_lc hc hl y1 y2 y3 y4 y5 y6 y7 y8 y9 y10 y11 l
    have f := lrun_ok (s := [.pour (1 + (i : Int))]) hc hl (fun t ht => by
      rw [List.mem_singleton.mp ht]
      show 0 ≤ 1 + (i : Int)
      omega)
    have e : runM caps x [.pour (1 + (i : Int))] = some ((pourM caps x (1 + (i : Int))).1, 0 + (pourM caps x (1 + (i : Int))).2) := rfl
    rw [e] at f
    rw [List.map_cons, List.map_cons, List.map_cons]
    simp only [eS, eStep, eR, List.map_cons, List.map_nil] at f
    generalize (pourM caps x (1 + (i : Int))).1 = q1 at *
    generalize 0 + (pourM caps x (1 + (i : Int))).2 = q2 at *
    simp only [eT] at f ih ⊢
    simp only [sSeq, sSet, sOwn, sPar, sParL,  sIf, sRet, sRetL, sRetO, sDrop, sAug, sApp, sFrz, frz, sAsg, gSet, gsNil, gsCons, gTupF, Fi.gSub, sFor, iL, iT, iR1, iR2, iZ, iEn, itemsK, eVar, eC, Fi.e2, Fi.e1, asB, eChain, tAndF, tOrF, tNotF, eAnd, eOr, eNot, eIf, aNil, aCons, eTup, lLst, eL, eCall, lCall, eCallF, lCallF, eSlT, lSl, oNone, oSome, ownIx, ownLen, lLc, wipeE, pYes, sNext, fnD, entry, fAdd_int, fSub, fMul_l, fMul_r, fDiv_ok, fMod_ok, fPow_ok, fLt, fLe, fGt, fGe, fEq_int, fEq_str, fEq_bool, fNe_int, fNe_str, fNe_bool, isN, fIs, fIsNot, fIx, fNeg, fLen, fMin, fMax, fTuple, fList, fIntB, fSum, fAll, fAny, at_0, at_1, at_2, eT, eS, eStep, eR, getInts_map, Option.bind_some, Option.map_some, List.getElem?_cons_succ, List.getElem?_cons_zero, List.set_cons_succ, List.set_cons_zero, List.length_cons, List.length_nil, List.length_map, List.map_cons, List.map_nil, List.nil_append, List.cons_append, List.replicate, Nat.zero_add, Nat.reduceAdd, Nat.reduceSub, decide_true, decide_false, reduceIte, Nat.reduceLeDiff, Nat.reduceLT, Int.reduceLT, Int.reduceLE, Int.reduceNeg, Int.reducePow, and_self, or_self, and_true, true_and, or_true, true_or, Bool.not_true, Bool.not_false, pour_spend, spend_pour, lcD, f, ih, Nat.zero_le]
theorem low_eval {x : List Int} {p v : Nat} (h : p < x.length) (hl : x.length ≤ 100) {env : En} (h6 : env[6]? = some (some (.val (eT x)))) (h8 : env[8]? = some (some (.val (.int p)))) (h11 : env[11]? = some (some (.val (.int (v : Int))))) :
    (Fi.e2 fAdd (Fi.e2 fAdd (eSlT (eVar 6) oNone (oSome (eVar 8))) (eTup (aCons (eVar 11) aNil))) (eSlT (eVar 6) (oSome (Fi.e2 fAdd (eVar 8) (eC (.int 1)))) oNone)) env = some (eT (x.take p ++ (v : Int) :: x.drop (p + 1))) := by
  have c1 : cutD (x.map PyData.int) none (some (p : Int)) = (x.take p).map .int := by rw [cut_to, List.map_take]
  have c2 : cutD (x.map PyData.int) (some ((p : Int) + 1)) none = (x.drop (p + 1)).map .int := by
    have := cut_from (l := x.map PyData.int) (a := p + 1)
    rw [← List.map_drop] at this
    exact this
  have b1 : fAdd (.tuple ((x.take p).map .int)) (.tuple [.int (v : Int)]) = some (.tuple ((x.take p ++ [(v : Int)]).map .int)) := by
    rw [fAdd_tup (by simp; omega), List.map_append]
    rfl
  have b2 : fAdd (.tuple ((x.take p ++ [(v : Int)]).map .int)) (.tuple ((x.drop (p + 1)).map .int)) = some (.tuple ((x.take p ++ (v : Int) :: x.drop (p + 1)).map .int)) := by
    rw [fAdd_tup (by simp; omega), ← List.map_append, List.append_assoc]
    rfl
  simp only [eT] at h6 ⊢
  generalize (x.take p ++ (v : Int) :: x.drop (p + 1)).map PyData.int = W at b2 ⊢
  generalize (x.take p ++ [(v : Int)]).map PyData.int = W1 at b1 b2
  generalize (x.take p).map PyData.int = W2 at b1 c1
  generalize (x.drop (p + 1)).map PyData.int = W3 at b2 c2
  generalize x.map PyData.int = W4 at c1 c2 h6 ⊢
  simp only [sSeq, sSet, sOwn, sPar, sParL,  sIf, sRet, sRetL, sRetO, sDrop, sAug, sApp, sFrz, frz, sAsg, gSet, gsNil, gsCons, gTupF, Fi.gSub, sFor, iL, iT, iR1, iR2, iZ, iEn, itemsK, eVar, eC, Fi.e2, Fi.e1, asB, eChain, tAndF, tOrF, tNotF, eAnd, eOr, eNot, eIf, aNil, aCons, eTup, lLst, eL, eCall, lCall, eCallF, lCallF, eSlT, lSl, oNone, oSome, ownIx, ownLen, lLc, wipeE, pYes, sNext, fnD, entry, fAdd_int, fSub, fMul_l, fMul_r, fDiv_ok, fMod_ok, fPow_ok, fLt, fLe, fGt, fGe, fEq_int, fEq_str, fEq_bool, fNe_int, fNe_str, fNe_bool, isN, fIs, fIsNot, fIx, fNeg, fLen, fMin, fMax, fTuple, fList, fIntB, fSum, fAll, fAny, at_0, at_1, at_2, eT, eS, eStep, eR, getInts_map, Option.bind_some, Option.map_some, List.getElem?_cons_succ, List.getElem?_cons_zero, List.set_cons_succ, List.set_cons_zero, List.length_cons, List.length_nil, List.length_map, List.map_cons, List.map_nil, List.nil_append, List.cons_append, List.replicate, Nat.zero_add, Nat.reduceAdd, Nat.reduceSub, decide_true, decide_false, reduceIte, Nat.reduceLeDiff, Nat.reduceLT, Int.reduceLT, Int.reduceLE, Int.reduceNeg, Int.reducePow, and_self, or_self, and_true, true_and, or_true, true_or, Bool.not_true, Bool.not_false, pour_spend, spend_pour, h6, h8, h11, c1, c2, b1, b2, Nat.zero_le]
theorem low_lc {x : List Int} {p : Nat} (h : p < x.length) (hl : x.length ≤ 100) {env : En} (h6 : env[6]? = some (some (.val (eT x)))) (h8 : env[8]? = some (some (.val (.int p)))) (hn : 11 < env.length) : ∀ l : List Nat,
    lcD (gSet 11) pYes (Fi.e2 fAdd (Fi.e2 fAdd (eSlT (eVar 6) oNone (oSome (eVar 8))) (eTup (aCons (eVar 11) aNil))) (eSlT (eVar 6) (oSome (Fi.e2 fAdd (eVar 8) (eC (.int 1)))) oNone)) env (l.map fun (i : Nat) => PyData.int (i : Int)) = some ((l.map fun (v : Nat) => x.take p ++ (v : Int) :: x.drop (p + 1)).map eT)
  | [] => rfl
  | v :: l => by
    have ih := low_lc h hl h6 h8 hn l
    have g6 : (env.set 11 (some (.val (.int (v : Int)))))[6]? = some (some (.val (eT x))) := by rw [List.getElem?_set_ne (by decide)]; exact h6
    have g8 : (env.set 11 (some (.val (.int (v : Int)))))[8]? = some (some (.val (.int p))) := by rw [List.getElem?_set_ne (by decide)]; exact h8
    have g11 : (env.set 11 (some (.val (.int (v : Int)))))[11]? = some (some (.val (.int (v : Int)))) := List.getElem?_set_self hn
    have q := low_eval h hl g6 g8 g11
    rw [List.map_cons, List.map_cons, List.map_cons]
    unfold lcD
    simp only [gSet, Option.bind_some, pYes, q, ih]
theorem places_loop {x : List Int} (hl : x.length ≤ 100) (hx : ∀ p, p < x.length → 0 ≤ x.getD p 0 ∧ x.getD p 0 ≤ 1000) (y0 y1 y2 y3 y4 y5 y9 : Option Sl) : ∀ (ps : List Nat) (acc : List (List Int)) (y8 : Option Sl), (∀ p ∈ ps, p < x.length) → acc.length + (ps.flatMap (lowP x)).length ≤ 100000 → nd y8 = true → ∃ z8, nd z8 = true ∧
    forD (gSet 8) lp__law_search_0 (ps.map fun (i : Nat) => PyData.int (i : Int)) [y0, y1, y2, y3, y4, y5, some (.val (eT x)), some (.val (.list (acc.map eT))), y8, y9, none, none]
      = some (.next [y0, y1, y2, y3, y4, y5, some (.val (eT x)), some (.val (.list ((acc ++ ps.flatMap (lowP x)).map eT))), z8, y9, none, none])
  | [], acc, y8, _, _, h8 => ⟨y8, h8, by simp [forD]⟩
  | p :: ps, acc, y8, hp, hn, _ => by
    have hpl := hp p (by simp)
    rw [List.flatMap_cons] at hn
    obtain ⟨z8, i1, ih⟩ := places_loop hl hx y0 y1 y2 y3 y4 y5 y9 ps (acc ++ lowP x p) (some (.val (.int (p : Int)))) (fun q hq => hp q (by simp [hq])) (by simp at hn ⊢; omega) rfl
    refine ⟨z8, i1, forD_step (e1 := [y0, y1, y2, y3, y4, y5, some (.val (eT x)), some (.val (.list (acc.map eT))), some (.val (.int (p : Int))), y9, none, none]) (e2 := [y0, y1, y2, y3, y4, y5, some (.val (eT x)), some (.val (.list ((acc ++ lowP x p).map eT))), some (.val (.int (p : Int))), y9, none, none]) rfl ?_ ?_⟩
    · have hat := at_get hpl
      have hxp := hx p hpl
      have lc : _ = some ((lowP x p).map eT) := low_lc hpl hl (env := [y0, y1, y2, y3, y4, y5, some (.val (eT x)), some (.val (.list (acc.map eT))), some (.val (.int (p : Int))), y9, none, none]) rfl rfl (by simp) (List.range (x.getD p 0).toNat)
      have hb : -100000 < x.getD p 0 ∧ x.getD p 0 < 100000 := ⟨by omega, by omega⟩
      have hb2 : (List.range (x.getD p 0).toNat).length < 100000 := by rw [List.length_range]; omega
      have hcat : (acc.map eT).length + ((lowP x p).map eT).length ≤ 100000 := by
        rw [List.length_map, List.length_map]
        rw [List.length_append] at hn
        omega
      rw [List.map_append]
      generalize (lowP x p).map eT = LW at *
      generalize acc.map eT = AC at *
      simp only [eT] at lc ⊢
      simp only [sSeq, sSet, sOwn, sPar, sParL,  sIf, sRet, sRetL, sRetO, sDrop, sAug, sApp, sFrz, frz, sAsg, gSet, gsNil, gsCons, gTupF, Fi.gSub, sFor, iL, iT, iR1, iR2, iZ, iEn, itemsK, eVar, eC, Fi.e2, Fi.e1, asB, eChain, tAndF, tOrF, tNotF, eAnd, eOr, eNot, eIf, aNil, aCons, eTup, lLst, eL, eCall, lCall, eCallF, lCallF, eSlT, lSl, oNone, oSome, ownIx, ownLen, lLc, wipeE, pYes, sNext, fnD, entry, fAdd_int, fSub, fMul_l, fMul_r, fDiv_ok, fMod_ok, fPow_ok, fLt, fLe, fGt, fGe, fEq_int, fEq_str, fEq_bool, fNe_int, fNe_str, fNe_bool, isN, fIs, fIsNot, fIx, fNeg, fLen, fMin, fMax, fTuple, fList, fIntB, fSum, fAll, fAny, at_0, at_1, at_2, eT, eS, eStep, eR, getInts_map, Option.bind_some, Option.map_some, List.getElem?_cons_succ, List.getElem?_cons_zero, List.set_cons_succ, List.set_cons_zero, List.length_cons, List.length_nil, List.length_map, List.map_cons, List.map_nil, List.nil_append, List.cons_append, List.replicate, Nat.zero_add, Nat.reduceAdd, Nat.reduceSub, decide_true, decide_false, reduceIte, Nat.reduceLeDiff, Nat.reduceLT, Int.reduceLT, Int.reduceLE, Int.reduceNeg, Int.reducePow, and_self, or_self, and_true, true_and, or_true, true_or, Bool.not_true, Bool.not_false, pour_spend, spend_pour, lp__law_search_0, hat, hb, hb2, lc, lCat, hcat]
    · rw [ih, List.flatMap_cons, List.append_assoc]
theorem one_body {caps s x : List Int} {n : Nat} (hcp : ∀ c ∈ caps, 0 ≤ c ∧ c ≤ 5) (hc3 : caps.length ≤ 3) (hs : Lv caps s) (hx : Lv caps x) (hxn : fF caps s x = n) (c1 fr : PyData) (y7 y8 y9 : Option Sl) (h8 : nd y8 = true) (h9 : nd y9 = true) (kvs : List (List Int × PyData)) (re : List (List Int)) (h : Fnd caps s n kvs re) : ∃ kvs' re' z7 z8 z9,
    Fnd caps s n kvs' re' ∧ (∀ y, hasD kvs y = true → hasD kvs' y = true) ∧ (∀ y ∈ nextO caps x, hasD kvs' y = true) ∧ nd z8 = true ∧ nd z9 = true ∧
    lp__law_search_2 [some (.val (eT caps)), some (.val c1), some (.dct kvs), some (.val fr), some (.val (.int ((n : Int) + 1))), some (.own (re.map eT)), some (.val (eT x)), y7, y8, y9, none, none]
      = some (.next [some (.val (eT caps)), some (.val c1), some (.dct kvs'), some (.val fr), some (.val (.int ((n : Int) + 1))), some (.own (re'.map eT)), some (.val (eT x)), z7, z8, z9, none, none]) := by
  have hl := hx.len
  have hcs : 0 ≤ caps.sum ∧ caps.sum ≤ 15 := by
    have h1 := hx.sumsN
    have h2 : ∀ {l : List Int}, (∀ c ∈ l, 0 ≤ c ∧ c ≤ 5) → l.sum ≤ 5 * l.length := fun {l} => by
      induction l with
      | nil => intro _; simp
      | cons c l ih =>
        intro q
        have a1 := ih fun z hz => q z (by simp [hz])
        have a2 := (q c (by simp)).2
        rw [List.sum_cons, List.length_cons]
        omega
    have h3 := h2 hcp
    omega
  have hxp : ∀ p, p < x.length → 0 ≤ x.getD p 0 ∧ x.getD p 0 ≤ 1000 := fun p hp => by
    have h1 := hx.get hp
    have h2 := (hcp _ (by rw [List.getD_eq_getElem?_getD, List.getElem?_eq_getElem (by omega)]; exact List.getElem_mem (by omega) : caps.getD p 0 ∈ caps)).2
    omega
  have hlow : ∀ (ps : List Nat), (∀ p ∈ ps, p < x.length) → (ps.flatMap (lowP x)).length ≤ 1000 * ps.length := fun ps => by
    induction ps with
    | nil => intro _; simp
    | cons p ps ih =>
      intro q
      have a1 := ih fun z hz => q z (by simp [hz])
      have a2 := (hxp p (q p (by simp))).2
      rw [List.flatMap_cons, List.length_append, List.length_cons]
      unfold lowP at a1 ⊢
      rw [List.length_map, List.length_range]
      omega
  have hpp : ∀ p ∈ List.range caps.length, p < x.length := fun p hp => by rw [← hl]; exact List.mem_range.mp hp
  have hlw := hlow (List.range caps.length) hpp
  rw [List.length_range] at hlw
  have e1 := pours_lc (caps := caps) (x := x) (by omega) hl (some (.val c1)) (some (.dct kvs)) (some (.val fr)) (some (.val (.int ((n : Int) + 1)))) (some (.own (re.map eT))) none y7 y8 y9 none none (List.range caps.sum.toNat)
  have e1 : _ = some ((pours caps x).map eT) := e1
  have hpl : (pours caps x).length ≤ 15 := by
    unfold pours
    rw [List.length_map, List.length_range]
    omega
  obtain ⟨z8, n8, l0⟩ := places_loop (x := x) (by omega) hxp (some (.val (eT caps))) (some (.val c1)) (some (.dct kvs)) (some (.val fr)) (some (.val (.int ((n : Int) + 1)))) (some (.own (re.map eT))) y9 (List.range caps.length) (pours caps x) y8 hpp (by omega) h8
  have l0 : _ = some (Out.next [_, _, _, _, _, _, _, some (.val (.list ((nextO caps x).map eT))), _, _, _, _]) := l0
  obtain ⟨kvs', re', z9, i1, i2, i3, i4, l1⟩ := visit_loop (n := n) (all_small hcp hc3) (eT caps) c1 fr (eT x) (.list ((nextO caps x).map eT)) z8 n8 (nextO caps x) kvs re y9 h (fun y hy => by
    have := next_step hs hx hy
    rw [hxn] at this
    exact this) h9
  refine ⟨kvs', re', some (.val (.list ((nextO caps x).map eT))), z8, z9, i1, i2, i3, n8, i4, ?_⟩
  have hb : (-100000 < (1 : Int) ∧ (1 : Int) < 100000) ∧ -100000 < caps.sum + 1 ∧ caps.sum + 1 < 100000 := by omega
  have hb2 : (caps.sum + 1 - 1).toNat = caps.sum.toNat := by rw [show caps.sum + 1 - 1 = caps.sum by omega]
  have hb3 : (List.range caps.sum.toNat).length < 100000 := by rw [List.length_range]; omega
  have hb4 : -100000 < (caps.length : Int) ∧ (caps.length : Int) < 100000 := by omega
  generalize (nextO caps x).map eT = NX at *
  generalize (pours caps x).map eT = PO at *
  generalize re.map eT = RE at *
  generalize re'.map eT = RE' at *
  simp only [eT] at e1 l0 l1 ⊢
  simp only [sSeq, sSet, sOwn, sPar, sParL,  sIf, sRet, sRetL, sRetO, sDrop, sAug, sApp, sFrz, frz, sAsg, gSet, gsNil, gsCons, gTupF, Fi.gSub, sFor, iL, iT, iR1, iR2, iZ, iEn, itemsK, eVar, eC, Fi.e2, Fi.e1, asB, eChain, tAndF, tOrF, tNotF, eAnd, eOr, eNot, eIf, aNil, aCons, eTup, lLst, eL, eCall, lCall, eCallF, lCallF, eSlT, lSl, oNone, oSome, ownIx, ownLen, lLc, wipeE, pYes, sNext, fnD, entry, fAdd_int, fSub, fMul_l, fMul_r, fDiv_ok, fMod_ok, fPow_ok, fLt, fLe, fGt, fGe, fEq_int, fEq_str, fEq_bool, fNe_int, fNe_str, fNe_bool, isN, fIs, fIsNot, fIx, fNeg, fLen, fMin, fMax, fTuple, fList, fIntB, fSum, fAll, fAny, at_0, at_1, at_2, eT, eS, eStep, eR, getInts_map, Option.bind_some, Option.map_some, List.getElem?_cons_succ, List.getElem?_cons_zero, List.set_cons_succ, List.set_cons_zero, List.length_cons, List.length_nil, List.length_map, List.map_cons, List.map_nil, List.nil_append, List.cons_append, List.replicate, Nat.zero_add, Nat.reduceAdd, Nat.reduceSub, decide_true, decide_false, reduceIte, Nat.reduceLeDiff, Nat.reduceLT, Int.reduceLT, Int.reduceLE, Int.reduceNeg, Int.reducePow, and_self, or_self, and_true, true_and, or_true, true_or, Bool.not_true, Bool.not_false, pour_spend, spend_pour, lp__law_search_2, hb, hb2, hb3, hb4, e1, l0, l1, Int.toNat_natCast]
end Lw

namespace Lw
open PySem L2 Fi
theorem fronts_loop {caps s : List Int} {n : Nat} (hcp : ∀ c ∈ caps, 0 ≤ c ∧ c ≤ 5) (hc3 : caps.length ≤ 3) (hs : Lv caps s) (c1 fr : PyData) : ∀ (fs : List (List Int)) (kvs : List (List Int × PyData)) (re : List (List Int)) (y6 y7 y8 y9 : Option Sl), (∀ x ∈ fs, Lv caps x ∧ fF caps s x = n) → Fnd caps s n kvs re → nd y8 = true → nd y9 = true → ∃ kvs' re' z6 z7 z8 z9,
    Fnd caps s n kvs' re' ∧ (∀ y, hasD kvs y = true → hasD kvs' y = true) ∧ (∀ x ∈ fs, ∀ y ∈ nextO caps x, hasD kvs' y = true) ∧ nd z8 = true ∧ nd z9 = true ∧
    forD (gSet 6) lp__law_search_2 (fs.map eT) [some (.val (eT caps)), some (.val c1), some (.dct kvs), some (.val fr), some (.val (.int ((n : Int) + 1))), some (.own (re.map eT)), y6, y7, y8, y9, none, none]
      = some (.next [some (.val (eT caps)), some (.val c1), some (.dct kvs'), some (.val fr), some (.val (.int ((n : Int) + 1))), some (.own (re'.map eT)), z6, z7, z8, z9, none, none])
  | [], kvs, re, y6, y7, y8, y9, _, h, h8, h9 => ⟨kvs, re, y6, y7, y8, y9, h, fun _ q => q, (fun _ q => by simp at q), h8, h9, rfl⟩
  | x :: fs, kvs, re, y6, y7, y8, y9, hf, h, h8, h9 => by
    have hx := hf x (by simp)
    obtain ⟨k1, r1, w7, w8, w9, i1, i2, i3, i4, i5, b⟩ := one_body hcp hc3 hs hx.1 hx.2 c1 fr y7 y8 y9 h8 h9 kvs re h
    obtain ⟨k2, r2, z6, z7, z8, z9, j1, j2, j3, j4, j5, ih⟩ := fronts_loop hcp hc3 hs c1 fr fs k1 r1 (some (.val (eT x))) w7 w8 w9 (fun z hz => hf z (by simp [hz])) i1 i4 i5
    refine ⟨k2, r2, z6, z7, z8, z9, j1, fun y hy => j2 y (i2 y hy), fun z hz y hy => ?_, j4, j5, forD_step rfl b ih⟩
    rcases List.mem_cons.mp hz with rfl | hz
    · exact j2 y (i3 y hy)
    · exact j3 z hz y hy
structure Wst (caps s : List Int) (n : Nat) (kvs : List (List Int × PyData)) (front : List (List Int)) : Prop where
  a : ∀ y, Lv caps y → fF caps s y ≤ n → getDct kvs y = some (.int (fF caps s y))
  b : ∀ y d, getDct kvs y = some d → Lv caps y ∧ fF caps s y ≤ n ∧ d = .int (fF caps s y)
  c : ∀ y ∈ front, Lv caps y ∧ fF caps s y = n
  d : ∀ y, Lv caps y → fF caps s y = n → y ∈ front
  nd : (kvs.map (·.1)).Nodup
  sub : ∀ k ∈ kvs.map (·.1), k ∈ allL caps
theorem Wst.fnd {caps s : List Int} {n : Nat} {kvs : List (List Int × PyData)} {front : List (List Int)} (h : Wst caps s n kvs front) : Fnd caps s n kvs [] :=
  ⟨h.a, fun y d q => let z := h.b y d q; ⟨z.1, by have := z.2.1; omega, z.2.2⟩, fun _ q => (by simp at q), fun y q1 q2 => by
    rw [has_get] at q1
    obtain ⟨d, hd⟩ := Option.isSome_iff_exists.mp q1
    have := (h.b y d hd).2.1
    omega, h.nd, h.sub, Nat.zero_le _⟩
theorem Fnd.wst {caps s : List Int} {n : Nat} {kvs : List (List Int × PyData)} {front re : List (List Int)} (hs : Lv caps s) (hd : ∀ y, Lv caps y → fF caps s y = n → y ∈ front) (h : Fnd caps s n kvs re) (hall : ∀ x ∈ front, ∀ y ∈ nextO caps x, hasD kvs y = true) : Wst caps s (n + 1) kvs re := by
  have key : ∀ y, Lv caps y → fF caps s y = n + 1 → hasD kvs y = true := fun y hy e => by
    obtain ⟨x, hx, hf, hm⟩ := next_of hs hy (fun q => by rw [q, fF_self] at e; omega)
    exact hall x (hd x hx (by omega)) y hm
  refine ⟨fun y hy q => ?_, h.b, h.c, fun y hy q => h.d y (key y hy q) q, h.nd, h.sub⟩
  by_cases e : fF caps s y ≤ n
  · exact h.a y hy e
  · have hk := key y hy (by omega)
    rw [has_get] at hk
    obtain ⟨d, hd⟩ := Option.isSome_iff_exists.mp hk
    rw [hd, (h.b y d hd).2.2]
theorem fNe_rows (l : List (List Int)) : fNe (.list (l.map eT)) (.list []) = some (.bool (!l.isEmpty)) := by
  cases l with
  | nil => exact fNe_self rfl
  | cons r l =>
    show (if _ then _ else _) = _
    rw [if_pos ⟨shaped_rows (r :: l), rfl⟩]
    rfl
theorem while_ok {caps s : List Int} (hcp : ∀ c ∈ caps, 0 ≤ c ∧ c ≤ 5) (hc3 : caps.length ≤ 3) (hs : Lv caps s) (c1 : PyData) : ∀ (fuel n : Nat) (kvs : List (List Int × PyData)) (front : List (List Int)) (y5 y6 y7 y8 y9 : Option Sl), Wst caps s n kvs front → caps.length + 2 ≤ n + fuel → 0 < fuel → nd y8 = true → nd y9 = true → ∃ kvs' z3 z4 z5 z6 z7 z8 z9,
    (∀ y, Lv caps y → getDct kvs' y = some (.int (fF caps s y))) ∧
    whileD (asB (Fi.e2 fNe (eVar 3) (eL (lLst aNil)))) lp__law_search_3 fuel [some (.val (eT caps)), some (.val c1), some (.dct kvs), some (.val (.list (front.map eT))), some (.val (.int n)), y5, y6, y7, y8, y9, none, none]
      = some (.next [some (.val (eT caps)), some (.val c1), some (.dct kvs'), z3, z4, z5, z6, z7, z8, z9, none, none])
  | 0, _, _, _, _, _, _, _, _, _, _, h0, _, _ => absurd h0 (Nat.lt_irrefl 0)
  | fuel + 1, n, kvs, front, y5, y6, y7, y8, y9, h, hn, _, h8, h9 => by
    have ne := fNe_rows front
    cases front with
    | nil =>
      refine ⟨kvs, some (.val (.list [])), some (.val (.int n)), y5, y6, y7, y8, y9, fun y hy => h.a y hy ?_, ?_⟩
      · by_cases e : fF caps s y ≤ n
        · exact e
        · obtain ⟨x, hx, hf⟩ := down_to hs n (fF caps s y - n) hy (by omega)
          have := h.d x hx hf
          simp at this
      · unfold whileD
        simp only [List.map_nil] at ne ⊢
        simp only [sSeq, sSet, sOwn, sPar, sParL,  sIf, sRet, sRetL, sRetO, sDrop, sAug, sApp, sFrz, frz, sAsg, gSet, gsNil, gsCons, gTupF, Fi.gSub, sFor, iL, iT, iR1, iR2, iZ, iEn, itemsK, eVar, eC, Fi.e2, Fi.e1, asB, eChain, tAndF, tOrF, tNotF, eAnd, eOr, eNot, eIf, aNil, aCons, eTup, lLst, eL, eCall, lCall, eCallF, lCallF, eSlT, lSl, oNone, oSome, ownIx, ownLen, lLc, wipeE, pYes, sNext, fnD, entry, fAdd_int, fSub, fMul_l, fMul_r, fDiv_ok, fMod_ok, fPow_ok, fLt, fLe, fGt, fGe, fEq_int, fEq_str, fEq_bool, fNe_int, fNe_str, fNe_bool, isN, fIs, fIsNot, fIx, fNeg, fLen, fMin, fMax, fTuple, fList, fIntB, fSum, fAll, fAny, at_0, at_1, at_2, eT, eS, eStep, eR, getInts_map, Option.bind_some, Option.map_some, List.getElem?_cons_succ, List.getElem?_cons_zero, List.set_cons_succ, List.set_cons_zero, List.length_cons, List.length_nil, List.length_map, List.map_cons, List.map_nil, List.nil_append, List.cons_append, List.replicate, Nat.zero_add, Nat.reduceAdd, Nat.reduceSub, decide_true, decide_false, reduceIte, Nat.reduceLeDiff, Nat.reduceLT, Int.reduceLT, Int.reduceLE, Int.reduceNeg, Int.reducePow, and_self, or_self, and_true, true_and, or_true, true_or, Bool.not_true, Bool.not_false, pour_spend, spend_pour, ne, List.isEmpty_nil]
    | cons x front =>
      have hx := h.c x (by simp)
      have hle := fF_len (y := x) hs.len (by rw [← hs.len, hx.1.len])
      obtain ⟨k1, r1, z6, z7, z8, z9, i1, i2, i3, i4, i5, b⟩ := fronts_loop hcp hc3 hs c1 (.list ((x :: front).map eT)) (x :: front) kvs [] y6 y7 y8 y9 h.c h.fnd h8 h9
      have w1 := i1.wst hs h.d i3
      obtain ⟨k2, a3, a4, a5, a6, a7, a8, a9, j1, ih⟩ := while_ok hcp hc3 hs c1 fuel (n + 1) k1 r1 (some (.val (.list (r1.map eT)))) z6 z7 z8 z9 w1 (by omega) (by omega) i4 i5
      refine ⟨k2, a3, a4, a5, a6, a7, a8, a9, j1, ?_⟩
      have ih : whileD _ _ _ [some (.val (eT caps)), some (.val c1), some (.dct k1), some (.val (.list (r1.map eT))), some (.val (.int ((n : Int) + 1))), some (.val (.list (r1.map eT))), z6, z7, z8, z9, none, none] = _ := ih
      unfold whileD
      simp only [List.isEmpty_cons] at ne
      simp only [List.map_nil] at b
      generalize (x :: front).map eT = FR at *
      generalize r1.map eT = R1 at *
      generalize eT caps = CP at *
      simp only [sSeq, sSet, sOwn, sPar, sParL,  sIf, sRet, sRetL, sRetO, sDrop, sAug, sApp, sFrz, frz, sAsg, gSet, gsNil, gsCons, gTupF, Fi.gSub, sFor, iL, iT, iR1, iR2, iZ, iEn, itemsK, eVar, eC, Fi.e2, Fi.e1, asB, eChain, tAndF, tOrF, tNotF, eAnd, eOr, eNot, eIf, aNil, aCons, eTup, lLst, eL, eCall, lCall, eCallF, lCallF, eSlT, lSl, oNone, oSome, ownIx, ownLen, lLc, wipeE, pYes, sNext, fnD, entry, fAdd_int, fSub, fMul_l, fMul_r, fDiv_ok, fMod_ok, fPow_ok, fLt, fLe, fGt, fGe, fEq_int, fEq_str, fEq_bool, fNe_int, fNe_str, fNe_bool, isN, fIs, fIsNot, fIx, fNeg, fLen, fMin, fMax, fTuple, fList, fIntB, fSum, fAll, fAny, at_0, at_1, at_2, eT, eS, eStep, eR, getInts_map, Option.bind_some, Option.map_some, List.getElem?_cons_succ, List.getElem?_cons_zero, List.set_cons_succ, List.set_cons_zero, List.length_cons, List.length_nil, List.length_map, List.map_cons, List.map_nil, List.nil_append, List.cons_append, List.replicate, Nat.zero_add, Nat.reduceAdd, Nat.reduceSub, decide_true, decide_false, reduceIte, Nat.reduceLeDiff, Nat.reduceLT, Int.reduceLT, Int.reduceLE, Int.reduceNeg, Int.reducePow, and_self, or_self, and_true, true_and, or_true, true_or, Bool.not_true, Bool.not_false, pour_spend, spend_pour, ne, lp__law_search_3, b, Nat.zero_le]
      exact ih
theorem search_ok {caps s : List Int} (hcp : ∀ c ∈ caps, 0 ≤ c ∧ c ≤ 5) (hc3 : caps.length ≤ 3) (hs : Lv caps s) : ∃ kvs, F__law_search [eT caps, eT s] = some (.dct kvs) ∧ ∀ y, Lv caps y → getDct kvs y = some (.int (fF caps s y)) := by
  have g0 : ∀ y, getDct [(s, PyData.int 0)] y = if s = y then some (.int 0) else none := fun y => by
    unfold getDct
    rw [List.find?_cons]
    by_cases e : s = y
    · simp [e]
    · simp [e]
  have w0 : Wst caps s 0 [(s, .int 0)] [s] := by
    refine ⟨fun y hy q => ?_, fun y d q => ?_, fun y q => ?_, fun y hy q => ?_, List.pairwise_singleton _ _, fun k q => ?_⟩
    · rw [zero_of hs hy (by omega), g0, if_pos rfl, fF_self]
      rfl
    · rw [g0] at q
      split at q
      · rename_i e
        cases q
        subst e
        exact ⟨hs, by rw [fF_self]; exact Nat.le_refl _, by rw [fF_self]; rfl⟩
      · cases q
    · rw [List.mem_singleton.mp q]
      exact ⟨hs, fF_self caps s⟩
    · rw [zero_of hs hy q]
      simp
    · have q : k = s := by simpa using q
      rw [q]
      exact mem_all.mpr hs
  obtain ⟨kvs, z3, z4, z5, z6, z7, z8, z9, h1, h2⟩ := while_ok hcp hc3 hs (eT s) 64 0 [(s, .int 0)] [s] none none none none none w0 (by omega) (by decide) rfl rfl
  refine ⟨kvs, ?_, h1⟩
  have kd := keyD_eT s
  have h2 : whileD _ _ _ [some (.val (eT caps)), some (.val (eT s)), some (.dct [(s, .int 0)]), some (.val (.list [eT s])), some (.val (.int 0)), none, none, none, none, none, none, none] = _ := h2
  generalize eT s = SS at *
  generalize eT caps = CP at *
  have e : b__law_search (entry 12 [CP, SS]) = some (.retD kvs) := by
    unfold b__law_search
    simp only [sSeq, sSet, sOwn, sPar, sParL,  sIf, sRet, sRetL, sRetO, sDrop, sAug, sApp, sFrz, frz, sAsg, gSet, gsNil, gsCons, gTupF, Fi.gSub, sFor, iL, iT, iR1, iR2, iZ, iEn, itemsK, eVar, eC, Fi.e2, Fi.e1, asB, eChain, tAndF, tOrF, tNotF, eAnd, eOr, eNot, eIf, aNil, aCons, eTup, lLst, eL, eCall, lCall, eCallF, lCallF, eSlT, lSl, oNone, oSome, ownIx, ownLen, lLc, wipeE, pYes, sNext, fnD, entry, fAdd_int, fSub, fMul_l, fMul_r, fDiv_ok, fMod_ok, fPow_ok, fLt, fLe, fGt, fGe, fEq_int, fEq_str, fEq_bool, fNe_int, fNe_str, fNe_bool, isN, fIs, fIsNot, fIx, fNeg, fLen, fMin, fMax, fTuple, fList, fIntB, fSum, fAll, fAny, at_0, at_1, at_2, eT, eS, eStep, eR, getInts_map, Option.bind_some, Option.map_some, List.getElem?_cons_succ, List.getElem?_cons_zero, List.set_cons_succ, List.set_cons_zero, List.length_cons, List.length_nil, List.length_map, List.map_cons, List.map_nil, List.nil_append, List.cons_append, List.replicate, Nat.zero_add, Nat.reduceAdd, Nat.reduceSub, decide_true, decide_false, reduceIte, Nat.reduceLeDiff, Nat.reduceLT, Int.reduceLT, Int.reduceLE, Int.reduceNeg, Int.reducePow, and_self, or_self, and_true, true_and, or_true, true_or, Bool.not_true, Bool.not_false, pour_spend, spend_pour, sParD, dDisp1, kd, h2, sRetDct, Nat.zero_le]
  show fnD 12 b__law_search [CP, SS] = _
  unfold fnD
  rw [e]
end Lw

namespace Lw
open PySem L2 Fi
/-! ### the script, plain -/
def upF : Nat → List Int → List Int → List Nat
  | k, a :: s, b :: y => (if a < b then [k] else []) ++ upF (k + 1) s y
  | _, _, _ => []
def spF : Nat → List Int → List Int → List Step
  | k, b :: y, m :: l => (if b < m then [.spend k (m - b)] else []) ++ spF (k + 1) y l
  | _, _, _ => []
theorem upF_no : ∀ {s y : List Int} (k : Nat), up s y = false → upF k s y = []
  | a :: s, b :: y, k, h => by
    simp only [up, Bool.or_eq_false_iff, decide_eq_false_iff_not] at h
    simp only [upF, if_neg h.1, upF_no (k + 1) h.2, List.append_nil]
  | [], y, _, _ => by cases y <;> rfl
  | _ :: _, [], _, _ => rfl
theorem sum_range_succ (f : Nat → Int) (j : Nat) : ((List.range (j + 1)).map f).sum = f 0 + ((List.range j).map fun p => f (p + 1)).sum := by
  rw [List.range_succ_eq_map, List.map_cons, List.map_map, List.sum_cons]
  rfl
theorem last_of : ∀ {caps s y : List Int}, caps.length = s.length → s.length = y.length → up s y = true → ∃ j, j < s.length ∧ (∀ k, (upF k s y).getLast? = some (k + j)) ∧ mid caps s y = caps.take j ++ y.getD j 0 :: s.drop (j + 1) ∧
    amtU caps s y = ((List.range j).map fun p => caps.getD p 0 - s.getD p 0).sum + y.getD j 0 - s.getD j 0
  | c :: cs, a :: s, b :: y, h1, h2, h => by
    cases hu : up s y with
    | true =>
      obtain ⟨j, hj, g1, g2, g3⟩ := last_of (caps := cs) (s := s) (y := y) (by simpa using h1) (by simpa using h2) hu
      refine ⟨j + 1, by simp; omega, fun k => ?_, ?_, ?_⟩
      · unfold upF
        rw [List.getLast?_append, g1 (k + 1)]
        simp
        omega
      · simp only [mid, hu, if_true, g2]
        rfl
      · simp only [amtU, hu, if_true, g3, sum_range_succ, List.getD_cons_succ, List.getD_cons_zero]
        omega
    | false =>
      have hab : a < b := by simpa [up, hu] using h
      refine ⟨0, by simp, fun k => ?_, ?_, ?_⟩
      · unfold upF
        rw [upF_no _ hu, if_pos hab]
        rfl
      · simp only [mid, hu, Bool.false_eq_true, if_false, if_pos hab]
        rfl
      · simp only [amtU, hu, Bool.false_eq_true, if_false, if_pos hab]
        show b - a = 0 + b - a
        omega
  | [], [], [], _, _, h => by simp [up] at h
  | [], _ :: _, _, h, _, _ => by simp at h
  | _ :: _, [], _, h, _, _ => by simp at h
  | [], [], _ :: _, _, h, _ => by simp at h
  | _ :: _, _ :: _, [], _, h, _ => by simp at h
theorem pour_mid : ∀ {caps s y : List Int}, Lv caps s → Lv caps y → up s y = true → 0 ≤ amtU caps s y ∧ (pourM caps s (amtU caps s y)).1 = mid caps s y
  | c :: cs, a :: s, b :: y, hs, hy, h => by
    have hac := hs.2.1
    have hbc := hy.2.1
    cases hu : up s y with
    | true =>
      obtain ⟨i1, i2⟩ := pour_mid hs.2.2 hy.2.2 hu
      simp only [amtU, mid, hu, if_true]
      refine ⟨by omega, ?_⟩
      have em : min (c - a + amtU cs s y) (c - a) = c - a := by omega
      simp only [pourM, em]
      rw [show c - a + amtU cs s y - (c - a) = amtU cs s y by omega, i2, show a + (c - a) = c by omega]
    | false =>
      have hab : a < b := by simpa [up, hu] using h
      simp only [amtU, mid, hu, Bool.false_eq_true, if_false, if_pos hab]
      refine ⟨by omega, ?_⟩
      have em : min (b - a) (c - a) = b - a := by omega
      simp only [pourM, em]
      rw [show b - a - (b - a) = 0 by omega, pour_none hs.2.2, show a + (b - a) = b by omega]
  | [], [], _, _, _, h => by simp [up] at h
  | [], _ :: _, _, h, _, _ => h.elim
  | _ :: _, [], _, h, _, _ => h.elim
  | _ :: _, _ :: _, [], _, h, _ => h.elim
theorem mid_ge : ∀ {caps s y : List Int}, Lv caps s → Lv caps y → Le y (mid caps s y)
  | [], [], [], _, _ => trivial
  | c :: cs, a :: s, b :: y, hs, hy => by
    have hbc := hy.2.1
    cases hu : up s y with
    | true =>
      simp only [mid, hu, if_true]
      exact ⟨hbc, mid_ge hs.2.2 hy.2.2⟩
    | false =>
      have := mid_ge hs.2.2 hy.2.2
      rw [mid_no hu] at this
      simp only [mid, hu, Bool.false_eq_true, if_false]
      exact ⟨by split <;> omega, this⟩
  | [], [], _ :: _, _, h => h.elim
  | [], _ :: _, _, h, _ => h.elim
  | _ :: _, [], _, h, _ => h.elim
  | _ :: _, _ :: _, [], _, h => h.elim
theorem spF_len : ∀ (k : Nat) (y m : List Int), (spF k y m).length = dn y m
  | k, [], _ => by cases ‹List Int› <;> rfl
  | k, _ :: _, [] => rfl
  | k, b :: y, m :: l => by
    unfold spF dn
    rw [List.length_append, spF_len (k + 1) y l]
    split <;> rfl
theorem spF_ok : ∀ (k : Nat) (y m : List Int), ∀ t ∈ spF k y m, ∃ p a, t = .spend p a ∧ k ≤ p ∧ p < k + y.length ∧ 0 < a
  | k, [], m, t, h => by cases m <;> simp [spF] at h
  | k, _ :: _, [], t, h => by simp [spF] at h
  | k, b :: y, m :: l, t, h => by
    unfold spF at h
    rcases List.mem_append.mp h with h | h
    · split at h
      · rename_i hb
        rw [List.mem_singleton.mp h]
        exact ⟨k, m - b, rfl, Nat.le_refl _, by simp, by omega⟩
      · simp at h
    · obtain ⟨p, a, e, h1, h2, h3⟩ := spF_ok (k + 1) y l t h
      exact ⟨p, a, e, by omega, by simp; omega, h3⟩
theorem set_app (y0 : List Int) (m v : Int) (l : List Int) : (y0 ++ m :: l).set y0.length v = y0 ++ v :: l := by
  rw [List.set_append_right _ _ (Nat.le_refl _), Nat.sub_self]
  rfl
theorem get_app (y0 : List Int) (m : Int) (l : List Int) : (y0 ++ m :: l).getD y0.length 0 = m := by
  rw [List.getD_eq_getElem?_getD, List.getElem?_append_right (Nat.le_refl _), Nat.sub_self]
  rfl
theorem spF_run {caps : List Int} : ∀ (y m y0 : List Int) (x : Int), Le y m → (∀ b ∈ y, 0 ≤ b) → runA caps (y0 ++ m) x (spF y0.length y m) = some (y0 ++ y, x)
  | [], [], y0, x, _, _ => rfl
  | b :: y, m :: l, y0, x, h, hp => by
    have hb := hp b (by simp)
    have ih := spF_run (caps := caps) y l (y0 ++ [b]) x h.2 fun z hz => hp z (by simp [hz])
    rw [List.length_append, List.append_assoc, List.append_assoc] at ih
    unfold spF
    by_cases q : b < m
    · rw [if_pos q]
      show runA caps (y0 ++ m :: l) x (.spend y0.length (m - b) :: spF (y0.length + 1) y l) = _
      unfold runA
      simp only [stepM, get_app, set_app]
      rw [if_neg (by omega), show m - (m - b) = b by omega]
      simp only [Int.add_zero]
      exact ih
    · rw [if_neg q]
      have e : m = b := by have := h.1; omega
      subst e
      exact ih
  | [], _ :: _, _, _, h, _ => h.elim
  | _ :: _, [], _, _, h, _ => h.elim
def scr (caps s y : List Int) : List Step := (if up s y then [.pour (amtU caps s y)] else []) ++ spF 0 y (mid caps s y)
theorem scr_len (caps s y : List Int) : (scr caps s y).length = fF caps s y := by
  unfold scr fF
  rw [List.length_append, spF_len]
  split <;> rfl
theorem Lv.pos : ∀ {cs l : List Int}, Lv cs l → ∀ b ∈ l, 0 ≤ b
  | [], [], _, b, h => by simp at h
  | _ :: _, x :: l, h, b, hb => by
    rcases List.mem_cons.mp hb with rfl | hb
    · exact h.1
    · exact h.2.2.pos b hb
  | [], _ :: _, h, _, _ => h.elim
  | _ :: _, [], h, _, _ => h.elim
theorem scr_run {caps s y : List Int} (hs : Lv caps s) (hy : Lv caps y) : ∃ x, runM caps s (scr caps s y) = some (y, x) := by
  unfold scr
  cases hu : up s y with
  | true =>
    obtain ⟨_, h2⟩ := pour_mid hs hy hu
    refine ⟨0 + (pourM caps s (amtU caps s y)).2, ?_⟩
    show runA caps (pourM caps s (amtU caps s y)).1 (0 + (pourM caps s (amtU caps s y)).2) (spF 0 y (mid caps s y)) = _
    rw [h2]
    exact spF_run y (mid caps s y) [] _ (mid_ge hs hy) hy.pos
  | false =>
    refine ⟨0, ?_⟩
    have hm := mid_ge hs hy
    rw [mid_no hu] at hm ⊢
    exact spF_run y s [] 0 hm hy.pos
theorem scr_ok {caps s y : List Int} (hs : Lv caps s) (hy : Lv caps y) : ∀ t ∈ scr caps s y, StOk caps.length t := fun t ht => by
  unfold scr at ht
  rcases List.mem_append.mp ht with h | h
  · split at h
    · rename_i hu
      rw [List.mem_singleton.mp h]
      exact (pour_mid hs hy hu).1
    · simp at h
  · obtain ⟨p, a, rfl, _, h2, h3⟩ := spF_ok 0 _ _ t h
    exact ⟨by have := hy.len; omega, by omega⟩
end Lw

namespace Lw
open PySem L2 Fi
theorem atI_last {l : List PyData} {x : PyData} (h : l.getLast? = some x) : atI l (-1) = some x := by
  have hl : 0 < l.length := by
    cases l with
    | nil => cases h
    | cons _ _ => simp
  rw [List.getLast?_eq_getElem?] at h
  unfold atI ixN
  rw [if_neg (by decide), if_pos (by omega)]
  have e : ((l.length : Int) + -1).toNat = l.length - 1 := by omega
  have e2 : (-1 + (l.length : Int)).toNat = l.length - 1 := by omega
  simp only [Option.bind_some, e, e2]
  exact h
theorem at_app (y0 : List Int) (m : Int) (l : List Int) : atI ((y0 ++ m :: l).map PyData.int) (y0.length : Int) = some (.int m) := by
  rw [at_get (by simp), get_app]
theorem raised_lc {env : En} (h6 : 6 < env.length) {k : Nat} : ∀ (s y s0 y0 : List Int), s.length = y.length → s0.length = k → y0.length = k → env[1]? = some (some (.val (eT (s0 ++ s)))) → env[2]? = some (some (.val (eT (y0 ++ y)))) →
    lcD (gSet 6) (asB (Fi.e2 fGt (Fi.e2 fIx (eVar 2) (eVar 6)) (Fi.e2 fIx (eVar 1) (eVar 6)))) (eVar 6) env ((List.range' k s.length).map fun (i : Nat) => PyData.int (i : Int)) = some ((upF k s y).map fun (i : Nat) => PyData.int (i : Int)) := by
  intro s
  induction s generalizing k with
  | nil =>
    intro y s0 y0 h _ _ _ _
    cases y with
    | nil => rfl
    | cons _ _ => simp at h
  | cons a s ih =>
    intro y s0 y0 h hs0 hy0 g1 g2
    cases y with
    | nil => simp at h
    | cons b y =>
      have ih := ih (k := k + 1) y (s0 ++ [a]) (y0 ++ [b]) (by simpa using h) (by simp [hs0]) (by simp [hy0]) (by rw [List.append_assoc]; exact g1) (by rw [List.append_assoc]; exact g2)
      have a1 := at_app s0 a s
      have a2 := at_app y0 b y
      rw [hs0] at a1
      rw [hy0] at a2
      have e6 : ∀ x : Option Sl, (env.set 6 x)[6]? = some x := fun x => List.getElem?_set_self h6
      have e1 : ∀ x : Option Sl, (env.set 6 x)[1]? = some (some (.val (eT (s0 ++ a :: s)))) := fun x => by rw [List.getElem?_set_ne (by decide)]; exact g1
      have e2 : ∀ x : Option Sl, (env.set 6 x)[2]? = some (some (.val (eT (y0 ++ b :: y)))) := fun x => by rw [List.getElem?_set_ne (by decide)]; exact g2
      rw [List.length_cons, List.range'_succ, List.map_cons]
      unfold upF
      simp only [eT] at e1 e2
      generalize (s0 ++ a :: s).map PyData.int = S' at *
      generalize (y0 ++ b :: y).map PyData.int = Y' at *
      by_cases q : a < b
      · rw [if_pos q]
        simp only [List.singleton_append, List.map_cons]
        simp only [sSeq, sSet, sOwn, sPar, sParL,  sIf, sRet, sRetL, sRetO, sDrop, sAug, sApp, sFrz, frz, sAsg, gSet, gsNil, gsCons, gTupF, Fi.gSub, sFor, iL, iT, iR1, iR2, iZ, iEn, itemsK, eVar, eC, Fi.e2, Fi.e1, asB, eChain, tAndF, tOrF, tNotF, eAnd, eOr, eNot, eIf, aNil, aCons, eTup, lLst, eL, eCall, lCall, eCallF, lCallF, eSlT, lSl, oNone, oSome, ownIx, ownLen, lLc, wipeE, pYes, sNext, fnD, entry, fAdd_int, fSub, fMul_l, fMul_r, fDiv_ok, fMod_ok, fPow_ok, fLt, fLe, fGt, fGe, fEq_int, fEq_str, fEq_bool, fNe_int, fNe_str, fNe_bool, isN, fIs, fIsNot, fIx, fNeg, fLen, fMin, fMax, fTuple, fList, fIntB, fSum, fAll, fAny, at_0, at_1, at_2, eT, eS, eStep, eR, getInts_map, Option.bind_some, Option.map_some, List.getElem?_cons_succ, List.getElem?_cons_zero, List.set_cons_succ, List.set_cons_zero, List.length_cons, List.length_nil, List.length_map, List.map_cons, List.map_nil, List.nil_append, List.cons_append, List.replicate, Nat.zero_add, Nat.reduceAdd, Nat.reduceSub, decide_true, decide_false, reduceIte, Nat.reduceLeDiff, Nat.reduceLT, Int.reduceLT, Int.reduceLE, Int.reduceNeg, Int.reducePow, and_self, or_self, and_true, true_and, or_true, true_or, Bool.not_true, Bool.not_false, pour_spend, spend_pour, lcD, e6, e1, e2, a1, a2, gt_iff_lt, q, ih]
      · rw [if_neg q]
        simp only [List.nil_append]
        simp only [sSeq, sSet, sOwn, sPar, sParL,  sIf, sRet, sRetL, sRetO, sDrop, sAug, sApp, sFrz, frz, sAsg, gSet, gsNil, gsCons, gTupF, Fi.gSub, sFor, iL, iT, iR1, iR2, iZ, iEn, itemsK, eVar, eC, Fi.e2, Fi.e1, asB, eChain, tAndF, tOrF, tNotF, eAnd, eOr, eNot, eIf, aNil, aCons, eTup, lLst, eL, eCall, lCall, eCallF, lCallF, eSlT, lSl, oNone, oSome, ownIx, ownLen, lLc, wipeE, pYes, sNext, fnD, entry, fAdd_int, fSub, fMul_l, fMul_r, fDiv_ok, fMod_ok, fPow_ok, fLt, fLe, fGt, fGe, fEq_int, fEq_str, fEq_bool, fNe_int, fNe_str, fNe_bool, isN, fIs, fIsNot, fIx, fNeg, fLen, fMin, fMax, fTuple, fList, fIntB, fSum, fAll, fAny, at_0, at_1, at_2, eT, eS, eStep, eR, getInts_map, Option.bind_some, Option.map_some, List.getElem?_cons_succ, List.getElem?_cons_zero, List.set_cons_succ, List.set_cons_zero, List.length_cons, List.length_nil, List.length_map, List.map_cons, List.map_nil, List.nil_append, List.cons_append, List.replicate, Nat.zero_add, Nat.reduceAdd, Nat.reduceSub, decide_true, decide_false, reduceIte, Nat.reduceLeDiff, Nat.reduceLT, Int.reduceLT, Int.reduceLE, Int.reduceNeg, Int.reducePow, and_self, or_self, and_true, true_and, or_true, true_or, Bool.not_true, Bool.not_false, pour_spend, spend_pour, lcD, e6, e1, e2, a1, a2, gt_iff_lt, q, ih]
theorem diff_lc {caps s : List Int} {env : En} (h6 : 6 < env.length) (g0 : env[0]? = some (some (.val (eT caps)))) (g1 : env[1]? = some (some (.val (eT s)))) : ∀ l : List Nat, (∀ p ∈ l, p < caps.length ∧ p < s.length) →
    lcD (gSet 6) pYes (Fi.e2 fSub (Fi.e2 fIx (eVar 0) (eVar 6)) (Fi.e2 fIx (eVar 1) (eVar 6))) env (l.map fun (i : Nat) => PyData.int (i : Int)) = some ((l.map fun p => caps.getD p 0 - s.getD p 0).map .int)
  | [], _ => rfl
  | p :: l, h => by
    have ih := diff_lc h6 g0 g1 l fun q hq => h q (by simp [hq])
    have hp := h p (by simp)
    have a1 := at_get hp.1
    have a2 := at_get hp.2
    have e6 : ∀ x : Option Sl, (env.set 6 x)[6]? = some x := fun x => List.getElem?_set_self h6
    have e0 : ∀ x : Option Sl, (env.set 6 x)[0]? = some (some (.val (eT caps))) := fun x => by rw [List.getElem?_set_ne (by decide)]; exact g0
    have e1 : ∀ x : Option Sl, (env.set 6 x)[1]? = some (some (.val (eT s))) := fun x => by rw [List.getElem?_set_ne (by decide)]; exact g1
    rw [List.map_cons, List.map_cons, List.map_cons]
    simp only [eT] at e0 e1
    simp only [sSeq, sSet, sOwn, sPar, sParL,  sIf, sRet, sRetL, sRetO, sDrop, sAug, sApp, sFrz, frz, sAsg, gSet, gsNil, gsCons, gTupF, Fi.gSub, sFor, iL, iT, iR1, iR2, iZ, iEn, itemsK, eVar, eC, Fi.e2, Fi.e1, asB, eChain, tAndF, tOrF, tNotF, eAnd, eOr, eNot, eIf, aNil, aCons, eTup, lLst, eL, eCall, lCall, eCallF, lCallF, eSlT, lSl, oNone, oSome, ownIx, ownLen, lLc, wipeE, pYes, sNext, fnD, entry, fAdd_int, fSub, fMul_l, fMul_r, fDiv_ok, fMod_ok, fPow_ok, fLt, fLe, fGt, fGe, fEq_int, fEq_str, fEq_bool, fNe_int, fNe_str, fNe_bool, isN, fIs, fIsNot, fIx, fNeg, fLen, fMin, fMax, fTuple, fList, fIntB, fSum, fAll, fAny, at_0, at_1, at_2, eT, eS, eStep, eR, getInts_map, Option.bind_some, Option.map_some, List.getElem?_cons_succ, List.getElem?_cons_zero, List.set_cons_succ, List.set_cons_zero, List.length_cons, List.length_nil, List.length_map, List.map_cons, List.map_nil, List.nil_append, List.cons_append, List.replicate, Nat.zero_add, Nat.reduceAdd, Nat.reduceSub, decide_true, decide_false, reduceIte, Nat.reduceLeDiff, Nat.reduceLT, Int.reduceLT, Int.reduceLE, Int.reduceNeg, Int.reducePow, and_self, or_self, and_true, true_and, or_true, true_or, Bool.not_true, Bool.not_false, pour_spend, spend_pour, lcD, e6, e0, e1, a1, a2, ih]
theorem spends_loop (x0 x3 x4 x7 x8 : Option Sl) : ∀ (y m y0 m0 : List Int) (acc : List Step) (k : Nat) (x6 : Option Sl), m.length = y.length → m0.length = k → y0.length = k → acc.length + y.length ≤ 1000 → ∃ z6,
    forD (gSet 6) lp_shortest_script_0 ((List.range' k y.length).map fun (i : Nat) => PyData.int (i : Int)) [x0, some (.val (eT (m0 ++ m))), some (.val (eT (y0 ++ y))), x3, x4, some (.own (acc.map eStep)), x6, x7, x8]
      = some (.next [x0, some (.val (eT (m0 ++ m))), some (.val (eT (y0 ++ y))), x3, x4, some (.own ((acc ++ spF k y m).map eStep)), z6, x7, x8])
  | [], m, y0, m0, acc, k, x6, h, _, _, _ => ⟨x6, by cases m <;> simp [forD, spF]⟩
  | b :: y, [], _, _, _, _, _, h, _, _, _ => by simp at h
  | b :: y, a :: m, y0, m0, acc, k, x6, h, hm0, hy0, hn => by
    have a1 := at_app m0 a m
    have a2 := at_app y0 b y
    rw [hm0] at a1
    rw [hy0] at a2
    have hal : (acc.map eStep).length < 100000 := by rw [List.length_map]; simp at hn; omega
    rw [List.length_cons, List.range'_succ, List.map_cons]
    unfold spF
    by_cases q : b < a
    · rw [if_pos q]
      obtain ⟨z6, ih⟩ := spends_loop x0 x3 x4 x7 x8 y m (y0 ++ [b]) (m0 ++ [a]) (acc ++ [Step.spend k (a - b)]) (k + 1) (some (.val (.int (k : Int)))) (by simpa using h) (by simp [hm0]) (by simp [hy0]) (by simp at hn ⊢; omega)
      rw [List.append_assoc, List.append_assoc, List.append_assoc] at ih
      refine ⟨z6, forD_step (e1 := [x0, some (.val (eT (m0 ++ a :: m))), some (.val (eT (y0 ++ b :: y))), x3, x4, some (.own (acc.map eStep)), some (.val (.int (k : Int))), x7, x8]) (e2 := [x0, some (.val (eT (m0 ++ a :: m))), some (.val (eT (y0 ++ b :: y))), x3, x4, some (.own ((acc ++ [Step.spend k (a - b)]).map eStep)), some (.val (.int (k : Int))), x7, x8]) rfl ?_ ih⟩
      rw [List.map_append]
      simp only [List.map_cons, List.map_nil]
      generalize acc.map eStep = AC at *
      simp only [eT, eStep]
      generalize (m0 ++ a :: m).map PyData.int = M' at *
      generalize (y0 ++ b :: y).map PyData.int = Y' at *
      simp only [sSeq, sSet, sOwn, sPar, sParL,  sIf, sRet, sRetL, sRetO, sDrop, sAug, sApp, sFrz, frz, sAsg, gSet, gsNil, gsCons, gTupF, Fi.gSub, sFor, iL, iT, iR1, iR2, iZ, iEn, itemsK, eVar, eC, Fi.e2, Fi.e1, asB, eChain, tAndF, tOrF, tNotF, eAnd, eOr, eNot, eIf, aNil, aCons, eTup, lLst, eL, eCall, lCall, eCallF, lCallF, eSlT, lSl, oNone, oSome, ownIx, ownLen, lLc, wipeE, pYes, sNext, fnD, entry, fAdd_int, fSub, fMul_l, fMul_r, fDiv_ok, fMod_ok, fPow_ok, fLt, fLe, fGt, fGe, fEq_int, fEq_str, fEq_bool, fNe_int, fNe_str, fNe_bool, isN, fIs, fIsNot, fIx, fNeg, fLen, fMin, fMax, fTuple, fList, fIntB, fSum, fAll, fAny, at_0, at_1, at_2, eT, eS, eStep, eR, getInts_map, Option.bind_some, Option.map_some, List.getElem?_cons_succ, List.getElem?_cons_zero, List.set_cons_succ, List.set_cons_zero, List.length_cons, List.length_nil, List.length_map, List.map_cons, List.map_nil, List.nil_append, List.cons_append, List.replicate, Nat.zero_add, Nat.reduceAdd, Nat.reduceSub, decide_true, decide_false, reduceIte, Nat.reduceLeDiff, Nat.reduceLT, Int.reduceLT, Int.reduceLE, Int.reduceNeg, Int.reducePow, and_self, or_self, and_true, true_and, or_true, true_or, Bool.not_true, Bool.not_false, pour_spend, spend_pour, lp_shortest_script_0, a1, a2, q, hal, Nat.zero_le]
    · rw [if_neg q]
      obtain ⟨z6, ih⟩ := spends_loop x0 x3 x4 x7 x8 y m (y0 ++ [b]) (m0 ++ [a]) acc (k + 1) (some (.val (.int (k : Int)))) (by simpa using h) (by simp [hm0]) (by simp [hy0]) (by simp at hn ⊢; omega)
      rw [List.append_assoc, List.append_assoc] at ih
      refine ⟨z6, forD_step (e1 := [x0, some (.val (eT (m0 ++ a :: m))), some (.val (eT (y0 ++ b :: y))), x3, x4, some (.own (acc.map eStep)), some (.val (.int (k : Int))), x7, x8]) (e2 := [x0, some (.val (eT (m0 ++ a :: m))), some (.val (eT (y0 ++ b :: y))), x3, x4, some (.own (acc.map eStep)), some (.val (.int (k : Int))), x7, x8]) rfl ?_ (by rw [List.nil_append]; exact ih)⟩
      generalize acc.map eStep = AC at *
      simp only [eT]
      generalize (m0 ++ a :: m).map PyData.int = M' at *
      generalize (y0 ++ b :: y).map PyData.int = Y' at *
      simp only [sSeq, sSet, sOwn, sPar, sParL,  sIf, sRet, sRetL, sRetO, sDrop, sAug, sApp, sFrz, frz, sAsg, gSet, gsNil, gsCons, gTupF, Fi.gSub, sFor, iL, iT, iR1, iR2, iZ, iEn, itemsK, eVar, eC, Fi.e2, Fi.e1, asB, eChain, tAndF, tOrF, tNotF, eAnd, eOr, eNot, eIf, aNil, aCons, eTup, lLst, eL, eCall, lCall, eCallF, lCallF, eSlT, lSl, oNone, oSome, ownIx, ownLen, lLc, wipeE, pYes, sNext, fnD, entry, fAdd_int, fSub, fMul_l, fMul_r, fDiv_ok, fMod_ok, fPow_ok, fLt, fLe, fGt, fGe, fEq_int, fEq_str, fEq_bool, fNe_int, fNe_str, fNe_bool, isN, fIs, fIsNot, fIx, fNeg, fLen, fMin, fMax, fTuple, fList, fIntB, fSum, fAll, fAny, at_0, at_1, at_2, eT, eS, eStep, eR, getInts_map, Option.bind_some, Option.map_some, List.getElem?_cons_succ, List.getElem?_cons_zero, List.set_cons_succ, List.set_cons_zero, List.length_cons, List.length_nil, List.length_map, List.map_cons, List.map_nil, List.nil_append, List.cons_append, List.replicate, Nat.zero_add, Nat.reduceAdd, Nat.reduceSub, decide_true, decide_false, reduceIte, Nat.reduceLeDiff, Nat.reduceLT, Int.reduceLT, Int.reduceLE, Int.reduceNeg, Int.reducePow, and_self, or_self, and_true, true_and, or_true, true_or, Bool.not_true, Bool.not_false, pour_spend, spend_pour, lp_shortest_script_0, a1, a2, q]
theorem range_r (n : Nat) : List.range n = List.range' 0 n := List.range_eq_range'
theorem fNe_nats (l : List Nat) : fNe (.list (l.map fun (i : Nat) => PyData.int (i : Int))) (.list []) = some (.bool (!l.isEmpty)) := by
  cases l with
  | nil => exact fNe_self rfl
  | cons r l =>
    have e : ((r :: l).map fun (i : Nat) => PyData.int (i : Int)) = ((r :: l).map fun (i : Nat) => (i : Int)).map .int := by rw [List.map_map]; rfl
    have sh : SeqAt.shaped (.list ((r :: l).map fun (i : Nat) => PyData.int (i : Int))) = true := by
      rw [e]
      have h := depth_ints ((r :: l).map fun (i : Nat) => (i : Int))
      have h2 := canLay_ints ((r :: l).map fun (i : Nat) => (i : Int))
      simp only [SeqAt.shaped, PyData.canLay0, h2, PyData.depth, Bool.true_and]
      exact decide_eq_true (by omega)
    show (if _ then _ else _) = _
    rw [if_pos ⟨sh, rfl⟩]
    rfl
theorem upF_len : ∀ (k : Nat) (s y : List Int), (upF k s y).length ≤ s.length
  | k, [], y => by cases y <;> simp [upF]
  | k, _ :: _, [] => by simp [upF]
  | k, a :: s, b :: y => by
    have := upF_len (k + 1) s y
    unfold upF
    rw [List.length_append, List.length_cons]
    split <;> simp <;> omega
theorem short_ok {caps s y : List Int} (hc : caps.length ≤ 100) (hs : Lv caps s) (hy : Lv caps y) : F_shortest_script [eT caps, eT s, eT y] = some (.val (eS (scr caps s y))) := by
  have hl := hs.len
  have hl2 := hy.len
  have hmy : (mid caps s y).length = y.length := (mid_ge hs hy).len.symm
  have r1 := raised_lc (env := [some (.val (eT caps)), some (.val (eT s)), some (.val (eT y)), some (.val (.list ((List.range caps.length).map fun (i : Nat) => PyData.int (i : Int)))), none, none, none, none, none]) (by simp) (k := 0) s y [] [] (by omega) rfl rfl rfl rfl
  rw [← range_r, ← hl] at r1
  have hb : -100000 < (caps.length : Int) ∧ (caps.length : Int) < 100000 := by omega
  have hb2 : (List.range caps.length).length < 100000 := by rw [List.length_range]; omega
  have ne := fNe_nats (upF 0 s y)
  have hul := upF_len 0 s y
  refine fn_ret ?_
  unfold b_shortest_script
  cases hu : up s y with
  | false =>
    have hm := mid_no (caps := caps) hu
    have sc : scr caps s y = spF 0 y s := by unfold scr; rw [hu, hm]; rfl
    obtain ⟨z6, l1⟩ := spends_loop (some (.val (eT caps))) (some (.val (.list ((List.range caps.length).map fun (i : Nat) => PyData.int (i : Int))))) (some (.val (.list []))) none none y s [] [] [] 0 none (by omega) rfl rfl (by simp; omega)
    rw [← range_r, ← hl2] at l1
    rw [sc]
    rw [upF_no 0 hu] at r1 ne
    simp only [List.nil_append, List.map_nil] at l1 r1 ne
    simp only [eS]
    generalize (spF 0 y s).map eStep = SP at *
    simp only [eT] at r1 l1 ⊢
    generalize hRG : ((List.range caps.length).map fun (i : Nat) => PyData.int (i : Int)) = RG at *
    have hRl : RG.length < 100000 := by rw [← hRG, List.length_map]; exact hb2
    simp only [sSeq, sSet, sOwn, sPar, sParL,  sIf, sRet, sRetL, sRetO, sDrop, sAug, sApp, sFrz, frz, sAsg, gSet, gsNil, gsCons, gTupF, Fi.gSub, sFor, iL, iT, iR1, iR2, iZ, iEn, itemsK, eVar, eC, Fi.e2, Fi.e1, asB, eChain, tAndF, tOrF, tNotF, eAnd, eOr, eNot, eIf, aNil, aCons, eTup, lLst, eL, eCall, lCall, eCallF, lCallF, eSlT, lSl, oNone, oSome, ownIx, ownLen, lLc, wipeE, pYes, sNext, fnD, entry, fAdd_int, fSub, fMul_l, fMul_r, fDiv_ok, fMod_ok, fPow_ok, fLt, fLe, fGt, fGe, fEq_int, fEq_str, fEq_bool, fNe_int, fNe_str, fNe_bool, isN, fIs, fIsNot, fIx, fNeg, fLen, fMin, fMax, fTuple, fList, fIntB, fSum, fAll, fAny, at_0, at_1, at_2, eT, eS, eStep, eR, getInts_map, Option.bind_some, Option.map_some, List.getElem?_cons_succ, List.getElem?_cons_zero, List.set_cons_succ, List.set_cons_zero, List.length_cons, List.length_nil, List.length_map, List.map_cons, List.map_nil, List.nil_append, List.cons_append, List.replicate, Nat.zero_add, Nat.reduceAdd, Nat.reduceSub, decide_true, decide_false, reduceIte, Nat.reduceLeDiff, Nat.reduceLT, Int.reduceLT, Int.reduceLE, Int.reduceNeg, Int.reducePow, and_self, or_self, and_true, true_and, or_true, true_or, Bool.not_true, Bool.not_false, pour_spend, spend_pour, lR1, hb, hb2, hRl, Int.toNat_natCast, hRG, r1, ne, List.isEmpty_nil, l1, Nat.zero_le]
  | true =>
    obtain ⟨j, hj, g1, g2, g3⟩ := last_of hl (by omega) hu
    have g1 := g1 0
    rw [Nat.zero_add] at g1
    have gl : atI ((upF 0 s y).map fun (i : Nat) => PyData.int (i : Int)) (-1) = some (.int (j : Int)) := atI_last (by rw [List.getLast?_map, g1]; rfl)
    have hne : (upF 0 s y).isEmpty = false := by
      cases e : upF 0 s y with
      | nil => rw [e] at g1; cases g1
      | cons _ _ => rfl
    rw [hne] at ne
    have cr : cutD ((List.range caps.length).map fun (i : Nat) => PyData.int (i : Int)) none (some (j : Int)) = (List.range j).map fun (i : Nat) => PyData.int (i : Int) := by
      rw [cut_to, ← List.map_take, List.take_range, Nat.min_eq_left (by omega)]
    have d1 := diff_lc (caps := caps) (s := s) (env := [some (.val (eT caps)), some (.val (eT s)), some (.val (eT y)), some (.val (.list ((List.range caps.length).map fun (i : Nat) => PyData.int (i : Int)))), some (.val (.list ((upF 0 s y).map fun (i : Nat) => PyData.int (i : Int)))), some (.own []), none, some (.val (.int (j : Int))), none]) (by simp) rfl rfl (List.range j) (fun p hp => by have := List.mem_range.mp hp; omega)
    have a1 := at_get (l := y) (k := j) (by omega)
    have a2 := at_get (l := s) (k := j) (by omega)
    have c1 : cutD (caps.map PyData.int) none (some (j : Int)) = (caps.take j).map .int := by rw [cut_to, List.map_take]
    have c2 : cutD (s.map PyData.int) (some ((j : Int) + 1)) none = (s.drop (j + 1)).map .int := by
      have := cut_from (l := s.map PyData.int) (a := j + 1)
      rw [← List.map_drop] at this
      exact this
    have b1 : fAdd (.tuple ((caps.take j).map .int)) (.tuple [.int (y.getD j 0)]) = some (.tuple ((caps.take j ++ [y.getD j 0]).map .int)) := by
      rw [fAdd_tup (by simp; omega), List.map_append]
      rfl
    have b2 : fAdd (.tuple ((caps.take j ++ [y.getD j 0]).map .int)) (.tuple ((s.drop (j + 1)).map .int)) = some (.tuple ((mid caps s y).map .int)) := by
      rw [fAdd_tup (by simp; omega), ← List.map_append, g2, List.append_assoc]
      rfl
    have sc : scr caps s y = [.pour (amtU caps s y)] ++ spF 0 y (mid caps s y) := by unfold scr; rw [hu]; rfl
    obtain ⟨z6, l1⟩ := spends_loop (some (.val (eT caps))) (some (.val (.list ((List.range caps.length).map fun (i : Nat) => PyData.int (i : Int))))) (some (.val (.list ((upF 0 s y).map fun (i : Nat) => PyData.int (i : Int))))) (some (.val (.int (j : Int)))) (some (.val (.int (amtU caps s y)))) y (mid caps s y) [] [] [.pour (amtU caps s y)] 0 none (by omega) rfl rfl (by simp; omega)
    rw [← range_r, ← hl2, ← sc] at l1
    have hRl : ((List.range caps.length).map fun (i : Nat) => PyData.int (i : Int)).length < 100000 := by rw [List.length_map]; exact hb2
    have hRj : ((List.range j).map fun (i : Nat) => PyData.int (i : Int)).length < 100000 := by rw [List.length_map, List.length_range]; omega
    simp only [List.nil_append, List.map_cons, List.map_nil, eStep] at l1
    simp only [eS]
    generalize (scr caps s y).map eStep = SP at *
    simp only [eT] at r1 l1 d1 ⊢
    have g4 := g3.symm
    clear g3
    generalize hSM : ((List.range j).map fun p => caps.getD p 0 - s.getD p 0) = SM at *
    generalize hRG : ((List.range caps.length).map fun (i : Nat) => PyData.int (i : Int)) = RG at *
    generalize ((List.range j).map fun (i : Nat) => PyData.int (i : Int)) = RJ at *
    generalize ((upF 0 s y).map fun (i : Nat) => PyData.int (i : Int)) = UP at *
    generalize (mid caps s y).map PyData.int = MD at *
    generalize (caps.take j ++ [y.getD j 0]).map PyData.int = W1 at *
    generalize (caps.take j).map PyData.int = W2 at *
    generalize (s.drop (j + 1)).map PyData.int = W3 at *
    simp only [sSeq, sSet, sOwn, sPar, sParL,  sIf, sRet, sRetL, sRetO, sDrop, sAug, sApp, sFrz, frz, sAsg, gSet, gsNil, gsCons, gTupF, Fi.gSub, sFor, iL, iT, iR1, iR2, iZ, iEn, itemsK, eVar, eC, Fi.e2, Fi.e1, asB, eChain, tAndF, tOrF, tNotF, eAnd, eOr, eNot, eIf, aNil, aCons, eTup, lLst, eL, eCall, lCall, eCallF, lCallF, eSlT, lSl, oNone, oSome, ownIx, ownLen, lLc, wipeE, pYes, sNext, fnD, entry, fAdd_int, fSub, fMul_l, fMul_r, fDiv_ok, fMod_ok, fPow_ok, fLt, fLe, fGt, fGe, fEq_int, fEq_str, fEq_bool, fNe_int, fNe_str, fNe_bool, isN, fIs, fIsNot, fIx, fNeg, fLen, fMin, fMax, fTuple, fList, fIntB, fSum, fAll, fAny, at_0, at_1, at_2, eT, eS, eStep, eR, getInts_map, Option.bind_some, Option.map_some, List.getElem?_cons_succ, List.getElem?_cons_zero, List.set_cons_succ, List.set_cons_zero, List.length_cons, List.length_nil, List.length_map, List.map_cons, List.map_nil, List.nil_append, List.cons_append, List.replicate, Nat.zero_add, Nat.reduceAdd, Nat.reduceSub, decide_true, decide_false, reduceIte, Nat.reduceLeDiff, Nat.reduceLT, Int.reduceLT, Int.reduceLE, Int.reduceNeg, Int.reducePow, and_self, or_self, and_true, true_and, or_true, true_or, Bool.not_true, Bool.not_false, pour_spend, spend_pour, lR1, hb, hRl, hRj, Int.toNat_natCast, hRG, r1, ne, gl, cr, d1, a1, a2, c1, c2, b1, b2, g4, l1, Nat.zero_le]
end Lw

namespace Lw
open PySem L2 Fi
theorem dn_range : ∀ (y m : List Int), m.length = y.length → ((List.range y.length).filter fun p => decide (y.getD p 0 < m.getD p 0)).length = dn y m
  | [], [], _ => rfl
  | b :: y, a :: m, h => by
    have ih := dn_range y m (by simpa using h)
    rw [List.length_cons, List.range_succ_eq_map, List.filter_cons, List.filter_map]
    have e : ((fun p => decide ((b :: y).getD p 0 < (a :: m).getD p 0)) ∘ Nat.succ) = fun p => decide (y.getD p 0 < m.getD p 0) := rfl
    rw [e]
    unfold dn
    by_cases q : b < a
    · rw [if_pos q, if_pos (show decide ((b :: y).getD 0 0 < (a :: m).getD 0 0) = true from decide_eq_true q), List.length_cons, List.length_map, ih]
      omega
    · rw [if_neg q, if_neg (show ¬ decide ((b :: y).getD 0 0 < (a :: m).getD 0 0) = true from fun z => q (of_decide_eq_true z)), List.length_map, ih]
      omega
  | [], _ :: _, h => by simp at h
  | _ :: _, [], h => by simp at h
theorem formula_loop {caps s y m : List Int} {last : Int} (hl : caps.length = s.length) (hl2 : s.length = y.length) (hc : ∀ p, p < s.length → (((p : Int) < last ∧ y.getD p 0 < caps.getD p 0) ∨ (last < (p : Int) ∧ y.getD p 0 < s.getD p 0) ↔ y.getD p 0 < m.getD p 0)) (x3 : Option Sl) : ∀ (ps : List Nat) (cnt : Int) (x6 : Option Sl), (∀ p ∈ ps, p < s.length) → ∃ z6,
    forD (gSet 6) lp__law_formula_0 (ps.map fun (i : Nat) => PyData.int (i : Int)) [some (.val (eT caps)), some (.val (eT s)), some (.val (eT y)), x3, some (.val (.int last)), some (.val (.int cnt)), x6]
      = some (.next [some (.val (eT caps)), some (.val (eT s)), some (.val (eT y)), x3, some (.val (.int last)), some (.val (.int (cnt + ((ps.filter fun p => decide (y.getD p 0 < m.getD p 0)).length : Int)))), z6])
  | [], cnt, x6, _ => ⟨x6, by simp [forD]⟩
  | p :: ps, cnt, x6, h => by
    have hp := h p (by simp)
    have a0 := at_get (l := caps) (k := p) (by omega)
    have a1 := at_get (l := s) (k := p) hp
    have a2 := at_get (l := y) (k := p) (by omega)
    have hcp := hc p hp
    rw [List.map_cons, List.filter_cons]
    generalize caps.getD p 0 = cp at *
    generalize s.getD p 0 = sp at *
    generalize y.getD p 0 = yp at *
    by_cases q : yp < m.getD p 0
    · obtain ⟨z6, ih⟩ := formula_loop (m := m) hl hl2 hc x3 ps (cnt + 1) (some (.val (.int (p : Int)))) fun z hz => h z (by simp [hz])
      refine ⟨z6, forD_step (e1 := [some (.val (eT caps)), some (.val (eT s)), some (.val (eT y)), x3, some (.val (.int last)), some (.val (.int cnt)), some (.val (.int (p : Int)))]) (e2 := [some (.val (eT caps)), some (.val (eT s)), some (.val (eT y)), x3, some (.val (.int last)), some (.val (.int (cnt + 1))), some (.val (.int (p : Int)))]) rfl ?_ ?_⟩
      · simp only [eT]
        rcases hcp.mpr q with ⟨q1, q2⟩ | ⟨q1, q2⟩
        · simp only [sSeq, sSet, sOwn, sPar, sParL,  sIf, sRet, sRetL, sRetO, sDrop, sAug, sApp, sFrz, frz, sAsg, gSet, gsNil, gsCons, gTupF, Fi.gSub, sFor, iL, iT, iR1, iR2, iZ, iEn, itemsK, eVar, eC, Fi.e2, Fi.e1, asB, eChain, tAndF, tOrF, tNotF, eAnd, eOr, eNot, eIf, aNil, aCons, eTup, lLst, eL, eCall, lCall, eCallF, lCallF, eSlT, lSl, oNone, oSome, ownIx, ownLen, lLc, wipeE, pYes, sNext, fnD, entry, fAdd_int, fSub, fMul_l, fMul_r, fDiv_ok, fMod_ok, fPow_ok, fLt, fLe, fGt, fGe, fEq_int, fEq_str, fEq_bool, fNe_int, fNe_str, fNe_bool, isN, fIs, fIsNot, fIx, fNeg, fLen, fMin, fMax, fTuple, fList, fIntB, fSum, fAll, fAny, at_0, at_1, at_2, eT, eS, eStep, eR, getInts_map, Option.bind_some, Option.map_some, List.getElem?_cons_succ, List.getElem?_cons_zero, List.set_cons_succ, List.set_cons_zero, List.length_cons, List.length_nil, List.length_map, List.map_cons, List.map_nil, List.nil_append, List.cons_append, List.replicate, Nat.zero_add, Nat.reduceAdd, Nat.reduceSub, decide_true, decide_false, reduceIte, Nat.reduceLeDiff, Nat.reduceLT, Int.reduceLT, Int.reduceLE, Int.reduceNeg, Int.reducePow, and_self, or_self, and_true, true_and, or_true, true_or, Bool.not_true, Bool.not_false, pour_spend, spend_pour, lp__law_formula_0, a0, a1, a2, q1, q2]
        · have q3 : ¬ (p : Int) < last := by omega
          simp only [sSeq, sSet, sOwn, sPar, sParL,  sIf, sRet, sRetL, sRetO, sDrop, sAug, sApp, sFrz, frz, sAsg, gSet, gsNil, gsCons, gTupF, Fi.gSub, sFor, iL, iT, iR1, iR2, iZ, iEn, itemsK, eVar, eC, Fi.e2, Fi.e1, asB, eChain, tAndF, tOrF, tNotF, eAnd, eOr, eNot, eIf, aNil, aCons, eTup, lLst, eL, eCall, lCall, eCallF, lCallF, eSlT, lSl, oNone, oSome, ownIx, ownLen, lLc, wipeE, pYes, sNext, fnD, entry, fAdd_int, fSub, fMul_l, fMul_r, fDiv_ok, fMod_ok, fPow_ok, fLt, fLe, fGt, fGe, fEq_int, fEq_str, fEq_bool, fNe_int, fNe_str, fNe_bool, isN, fIs, fIsNot, fIx, fNeg, fLen, fMin, fMax, fTuple, fList, fIntB, fSum, fAll, fAny, at_0, at_1, at_2, eT, eS, eStep, eR, getInts_map, Option.bind_some, Option.map_some, List.getElem?_cons_succ, List.getElem?_cons_zero, List.set_cons_succ, List.set_cons_zero, List.length_cons, List.length_nil, List.length_map, List.map_cons, List.map_nil, List.nil_append, List.cons_append, List.replicate, Nat.zero_add, Nat.reduceAdd, Nat.reduceSub, decide_true, decide_false, reduceIte, Nat.reduceLeDiff, Nat.reduceLT, Int.reduceLT, Int.reduceLE, Int.reduceNeg, Int.reducePow, and_self, or_self, and_true, true_and, or_true, true_or, Bool.not_true, Bool.not_false, pour_spend, spend_pour, lp__law_formula_0, a0, a1, a2, q1, q2, q3, gt_iff_lt]
      · have e : ∀ n : Nat, cnt + 1 + (n : Int) = cnt + ((n + 1 : Nat) : Int) := fun n => by omega
        rw [ih, if_pos (decide_eq_true q), List.length_cons, e]
    · obtain ⟨z6, ih⟩ := formula_loop (m := m) hl hl2 hc x3 ps cnt (some (.val (.int (p : Int)))) fun z hz => h z (by simp [hz])
      refine ⟨z6, forD_step (e1 := [some (.val (eT caps)), some (.val (eT s)), some (.val (eT y)), x3, some (.val (.int last)), some (.val (.int cnt)), some (.val (.int (p : Int)))]) (e2 := [some (.val (eT caps)), some (.val (eT s)), some (.val (eT y)), x3, some (.val (.int last)), some (.val (.int cnt)), some (.val (.int (p : Int)))]) rfl ?_ ?_⟩
      · have nq := fun z => q (hcp.mp z)
        simp only [eT]
        by_cases q1 : (p : Int) < last
        · have q2 : ¬ yp < cp := fun z => nq (.inl ⟨q1, z⟩)
          have q3 : ¬ last < (p : Int) := by omega
          simp only [sSeq, sSet, sOwn, sPar, sParL,  sIf, sRet, sRetL, sRetO, sDrop, sAug, sApp, sFrz, frz, sAsg, gSet, gsNil, gsCons, gTupF, Fi.gSub, sFor, iL, iT, iR1, iR2, iZ, iEn, itemsK, eVar, eC, Fi.e2, Fi.e1, asB, eChain, tAndF, tOrF, tNotF, eAnd, eOr, eNot, eIf, aNil, aCons, eTup, lLst, eL, eCall, lCall, eCallF, lCallF, eSlT, lSl, oNone, oSome, ownIx, ownLen, lLc, wipeE, pYes, sNext, fnD, entry, fAdd_int, fSub, fMul_l, fMul_r, fDiv_ok, fMod_ok, fPow_ok, fLt, fLe, fGt, fGe, fEq_int, fEq_str, fEq_bool, fNe_int, fNe_str, fNe_bool, isN, fIs, fIsNot, fIx, fNeg, fLen, fMin, fMax, fTuple, fList, fIntB, fSum, fAll, fAny, at_0, at_1, at_2, eT, eS, eStep, eR, getInts_map, Option.bind_some, Option.map_some, List.getElem?_cons_succ, List.getElem?_cons_zero, List.set_cons_succ, List.set_cons_zero, List.length_cons, List.length_nil, List.length_map, List.map_cons, List.map_nil, List.nil_append, List.cons_append, List.replicate, Nat.zero_add, Nat.reduceAdd, Nat.reduceSub, decide_true, decide_false, reduceIte, Nat.reduceLeDiff, Nat.reduceLT, Int.reduceLT, Int.reduceLE, Int.reduceNeg, Int.reducePow, and_self, or_self, and_true, true_and, or_true, true_or, Bool.not_true, Bool.not_false, pour_spend, spend_pour, lp__law_formula_0, a0, a1, a2, q1, q2, q3, gt_iff_lt]
        · by_cases q3 : last < (p : Int)
          · have q4 : ¬ yp < sp := fun z => nq (.inr ⟨q3, z⟩)
            simp only [sSeq, sSet, sOwn, sPar, sParL,  sIf, sRet, sRetL, sRetO, sDrop, sAug, sApp, sFrz, frz, sAsg, gSet, gsNil, gsCons, gTupF, Fi.gSub, sFor, iL, iT, iR1, iR2, iZ, iEn, itemsK, eVar, eC, Fi.e2, Fi.e1, asB, eChain, tAndF, tOrF, tNotF, eAnd, eOr, eNot, eIf, aNil, aCons, eTup, lLst, eL, eCall, lCall, eCallF, lCallF, eSlT, lSl, oNone, oSome, ownIx, ownLen, lLc, wipeE, pYes, sNext, fnD, entry, fAdd_int, fSub, fMul_l, fMul_r, fDiv_ok, fMod_ok, fPow_ok, fLt, fLe, fGt, fGe, fEq_int, fEq_str, fEq_bool, fNe_int, fNe_str, fNe_bool, isN, fIs, fIsNot, fIx, fNeg, fLen, fMin, fMax, fTuple, fList, fIntB, fSum, fAll, fAny, at_0, at_1, at_2, eT, eS, eStep, eR, getInts_map, Option.bind_some, Option.map_some, List.getElem?_cons_succ, List.getElem?_cons_zero, List.set_cons_succ, List.set_cons_zero, List.length_cons, List.length_nil, List.length_map, List.map_cons, List.map_nil, List.nil_append, List.cons_append, List.replicate, Nat.zero_add, Nat.reduceAdd, Nat.reduceSub, decide_true, decide_false, reduceIte, Nat.reduceLeDiff, Nat.reduceLT, Int.reduceLT, Int.reduceLE, Int.reduceNeg, Int.reducePow, and_self, or_self, and_true, true_and, or_true, true_or, Bool.not_true, Bool.not_false, pour_spend, spend_pour, lp__law_formula_0, a0, a1, a2, q1, q3, q4, gt_iff_lt]
          · simp only [sSeq, sSet, sOwn, sPar, sParL,  sIf, sRet, sRetL, sRetO, sDrop, sAug, sApp, sFrz, frz, sAsg, gSet, gsNil, gsCons, gTupF, Fi.gSub, sFor, iL, iT, iR1, iR2, iZ, iEn, itemsK, eVar, eC, Fi.e2, Fi.e1, asB, eChain, tAndF, tOrF, tNotF, eAnd, eOr, eNot, eIf, aNil, aCons, eTup, lLst, eL, eCall, lCall, eCallF, lCallF, eSlT, lSl, oNone, oSome, ownIx, ownLen, lLc, wipeE, pYes, sNext, fnD, entry, fAdd_int, fSub, fMul_l, fMul_r, fDiv_ok, fMod_ok, fPow_ok, fLt, fLe, fGt, fGe, fEq_int, fEq_str, fEq_bool, fNe_int, fNe_str, fNe_bool, isN, fIs, fIsNot, fIx, fNeg, fLen, fMin, fMax, fTuple, fList, fIntB, fSum, fAll, fAny, at_0, at_1, at_2, eT, eS, eStep, eR, getInts_map, Option.bind_some, Option.map_some, List.getElem?_cons_succ, List.getElem?_cons_zero, List.set_cons_succ, List.set_cons_zero, List.length_cons, List.length_nil, List.length_map, List.map_cons, List.map_nil, List.nil_append, List.cons_append, List.replicate, Nat.zero_add, Nat.reduceAdd, Nat.reduceSub, decide_true, decide_false, reduceIte, Nat.reduceLeDiff, Nat.reduceLT, Int.reduceLT, Int.reduceLE, Int.reduceNeg, Int.reducePow, and_self, or_self, and_true, true_and, or_true, true_or, Bool.not_true, Bool.not_false, pour_spend, spend_pour, lp__law_formula_0, a0, a1, a2, q1, q3, gt_iff_lt]
      · rw [ih, if_neg (fun z => q (of_decide_eq_true z))]
theorem getD_lt {l r : List Int} {p : Nat} (h : p < l.length) : (l ++ r).getD p 0 = l.getD p 0 := by
  rw [List.getD_eq_getElem?_getD, List.getD_eq_getElem?_getD, List.getElem?_append_left h]
theorem mid_cond {caps s y : List Int} (hl : caps.length = s.length) (hl2 : s.length = y.length) {j : Nat} (hj : j < s.length) (hm : mid caps s y = caps.take j ++ y.getD j 0 :: s.drop (j + 1)) (p : Nat) (hp : p < s.length) : (((p : Int) < (j : Int) ∧ y.getD p 0 < caps.getD p 0) ∨ ((j : Int) < (p : Int) ∧ y.getD p 0 < s.getD p 0) ↔ y.getD p 0 < (mid caps s y).getD p 0) := by
  have htl : (caps.take j).length = j := by simp; omega
  rw [hm]
  rcases Nat.lt_trichotomy p j with h | h | h
  · rw [getD_lt (by omega)]
    have e : (caps.take j).getD p 0 = caps.getD p 0 := by
      rw [List.getD_eq_getElem?_getD, List.getD_eq_getElem?_getD, List.getElem?_take_of_lt h]
    rw [e]
    constructor
    · rintro (z | z)
      · exact z.2
      · omega
    · exact fun z => .inl ⟨by omega, z⟩
  · subst h
    have := get_app (caps.take p) (y.getD p 0) (s.drop (p + 1))
    rw [htl] at this
    rw [this]
    constructor
    · rintro (z | z) <;> omega
    · intro z
      omega
  · have e : (caps.take j ++ y.getD j 0 :: s.drop (j + 1)).getD p 0 = s.getD p 0 := by
      rw [List.getD_eq_getElem?_getD, List.getElem?_append_right (by omega), htl, show p - j = (p - j - 1) + 1 by omega, List.getElem?_cons_succ, List.getElem?_drop, show j + 1 + (p - j - 1) = p by omega, ← List.getD_eq_getElem?_getD]
    rw [e]
    constructor
    · rintro (z | z)
      · omega
      · exact z.2
    · exact fun z => .inr ⟨by omega, z⟩
theorem formula_ok {caps s y : List Int} (hc : caps.length ≤ 100) (hs : Lv caps s) (hy : Lv caps y) : F__law_formula [eT caps, eT s, eT y] = some (.val (.int (fF caps s y))) := by
  have hl := hs.len
  have hl2 := hy.len
  have hmy : (mid caps s y).length = y.length := (mid_ge hs hy).len.symm
  have r1 := raised_lc (env := [some (.val (eT caps)), some (.val (eT s)), some (.val (eT y)), none, none, none, none]) (by simp) (k := 0) s y [] [] (by omega) rfl rfl rfl rfl
  rw [← range_r, ← hl] at r1
  have hb : -100000 < (caps.length : Int) ∧ (caps.length : Int) < 100000 := by omega
  have hRl : ((List.range caps.length).map fun (i : Nat) => PyData.int (i : Int)).length < 100000 := by rw [List.length_map, List.length_range]; omega
  have ne := fNe_nats (upF 0 s y)
  have dr := dn_range y (mid caps s y) hmy
  rw [← hl2] at dr
  refine fn_ret ?_
  unfold b__law_formula
  cases hu : up s y with
  | false =>
    have hm := mid_no (caps := caps) hu
    have ff : fF caps s y = dn y (mid caps s y) := by unfold fF; rw [hu]; simp
    obtain ⟨z6, l1⟩ := formula_loop (caps := caps) (s := s) (y := y) (m := mid caps s y) (last := 0 - 1) hl (by omega) (fun p hp => by
      rw [hm]
      constructor
      · rintro (z | z)
        · omega
        · exact z.2
      · exact fun z => .inr ⟨by omega, z⟩) (some (.val (.list []))) (List.range caps.length) 0 none (fun p hp => by have := List.mem_range.mp hp; omega)
    rw [dr, ← ff, Int.zero_add] at l1
    rw [upF_no 0 hu] at r1 ne
    simp only [List.map_nil] at r1 ne
    simp only [eT] at r1 l1 ⊢
    generalize hRG : ((List.range caps.length).map fun (i : Nat) => PyData.int (i : Int)) = RG at *
    simp only [sSeq, sSet, sOwn, sPar, sParL,  sIf, sRet, sRetL, sRetO, sDrop, sAug, sApp, sFrz, frz, sAsg, gSet, gsNil, gsCons, gTupF, Fi.gSub, sFor, iL, iT, iR1, iR2, iZ, iEn, itemsK, eVar, eC, Fi.e2, Fi.e1, asB, eChain, tAndF, tOrF, tNotF, eAnd, eOr, eNot, eIf, aNil, aCons, eTup, lLst, eL, eCall, lCall, eCallF, lCallF, eSlT, lSl, oNone, oSome, ownIx, ownLen, lLc, wipeE, pYes, sNext, fnD, entry, fAdd_int, fSub, fMul_l, fMul_r, fDiv_ok, fMod_ok, fPow_ok, fLt, fLe, fGt, fGe, fEq_int, fEq_str, fEq_bool, fNe_int, fNe_str, fNe_bool, isN, fIs, fIsNot, fIx, fNeg, fLen, fMin, fMax, fTuple, fList, fIntB, fSum, fAll, fAny, at_0, at_1, at_2, eT, eS, eStep, eR, getInts_map, Option.bind_some, Option.map_some, List.getElem?_cons_succ, List.getElem?_cons_zero, List.set_cons_succ, List.set_cons_zero, List.length_cons, List.length_nil, List.length_map, List.map_cons, List.map_nil, List.nil_append, List.cons_append, List.replicate, Nat.zero_add, Nat.reduceAdd, Nat.reduceSub, decide_true, decide_false, reduceIte, Nat.reduceLeDiff, Nat.reduceLT, Int.reduceLT, Int.reduceLE, Int.reduceNeg, Int.reducePow, and_self, or_self, and_true, true_and, or_true, true_or, Bool.not_true, Bool.not_false, pour_spend, spend_pour, hb, hRl, Int.toNat_natCast, hRG, r1, ne, List.isEmpty_nil, l1, Nat.zero_le, Bool.false_eq_true]
  | true =>
    obtain ⟨j, hj, g1, g2, _⟩ := last_of hl (by omega) hu
    have g1 := g1 0
    rw [Nat.zero_add] at g1
    have gl : atI ((upF 0 s y).map fun (i : Nat) => PyData.int (i : Int)) (-1) = some (.int (j : Int)) := atI_last (by rw [List.getLast?_map, g1]; rfl)
    have hne : (upF 0 s y).isEmpty = false := by
      cases e : upF 0 s y with
      | nil => rw [e] at g1; cases g1
      | cons _ _ => rfl
    rw [hne] at ne
    have ff : (fF caps s y : Int) = 1 + (dn y (mid caps s y) : Int) := by unfold fF; rw [hu]; simp
    obtain ⟨z6, l1⟩ := formula_loop (caps := caps) (s := s) (y := y) (m := mid caps s y) (last := (j : Int)) hl (by omega) (mid_cond hl (by omega) hj g2) (some (.val (.list ((upF 0 s y).map fun (i : Nat) => PyData.int (i : Int))))) (List.range caps.length) 1 none (fun p hp => by have := List.mem_range.mp hp; omega)
    rw [dr, ← ff] at l1
    simp only [eT] at r1 l1 ⊢
    generalize hRG : ((List.range caps.length).map fun (i : Nat) => PyData.int (i : Int)) = RG at *
    generalize ((upF 0 s y).map fun (i : Nat) => PyData.int (i : Int)) = UP at *
    simp only [sSeq, sSet, sOwn, sPar, sParL,  sIf, sRet, sRetL, sRetO, sDrop, sAug, sApp, sFrz, frz, sAsg, gSet, gsNil, gsCons, gTupF, Fi.gSub, sFor, iL, iT, iR1, iR2, iZ, iEn, itemsK, eVar, eC, Fi.e2, Fi.e1, asB, eChain, tAndF, tOrF, tNotF, eAnd, eOr, eNot, eIf, aNil, aCons, eTup, lLst, eL, eCall, lCall, eCallF, lCallF, eSlT, lSl, oNone, oSome, ownIx, ownLen, lLc, wipeE, pYes, sNext, fnD, entry, fAdd_int, fSub, fMul_l, fMul_r, fDiv_ok, fMod_ok, fPow_ok, fLt, fLe, fGt, fGe, fEq_int, fEq_str, fEq_bool, fNe_int, fNe_str, fNe_bool, isN, fIs, fIsNot, fIx, fNeg, fLen, fMin, fMax, fTuple, fList, fIntB, fSum, fAll, fAny, at_0, at_1, at_2, eT, eS, eStep, eR, getInts_map, Option.bind_some, Option.map_some, List.getElem?_cons_succ, List.getElem?_cons_zero, List.set_cons_succ, List.set_cons_zero, List.length_cons, List.length_nil, List.length_map, List.map_cons, List.map_nil, List.nil_append, List.cons_append, List.replicate, Nat.zero_add, Nat.reduceAdd, Nat.reduceSub, decide_true, decide_false, reduceIte, Nat.reduceLeDiff, Nat.reduceLT, Int.reduceLT, Int.reduceLE, Int.reduceNeg, Int.reducePow, and_self, or_self, and_true, true_and, or_true, true_or, Bool.not_true, Bool.not_false, pour_spend, spend_pour, hb, hRl, Int.toNat_natCast, hRG, r1, ne, gl, l1, Nat.zero_le]
end Lw

namespace Lw
open PySem L2 Fi
theorem last1 {x y : PyData} : atI [x, y] (-1) = some y := rfl
theorem last2 {x y z : PyData} : atI [x, y, z] (-1) = some z := rfl
theorem ni_p : fNotInT (.str "pour") (.tuple [.str "pour", .str "spend"]) = some (.bool false) := rfl
theorem ni_s : fNotInT (.str "spend") (.tuple [.str "pour", .str "spend"]) = some (.bool false) := rfl
theorem isT {l : List PyData} : kitB (tyD (.tuple l)) "tuple" = some true := rfl
theorem few_ok {caps s y : List Int} (hc : caps.length ≤ 100) (hs : Lv caps s) (hy : Lv caps y) : F_fewest_steps [eT caps, eT s, eT y] = some (.val (.int (fF caps s y))) := by
  have f := short_ok hc hs hy
  have hl : ((scr caps s y).map eStep).length = fF caps s y := by rw [List.length_map, scr_len]
  refine fn_ret ?_
  unfold b_fewest_steps
  simp only [eS] at f
  generalize (scr caps s y).map eStep = SC at *
  simp only [eT] at f ⊢
  simp only [sSeq, sSet, sOwn, sPar, sParL,  sIf, sRet, sRetL, sRetO, sDrop, sAug, sApp, sFrz, frz, sAsg, gSet, gsNil, gsCons, gTupF, Fi.gSub, sFor, iL, iT, iR1, iR2, iZ, iEn, itemsK, eVar, eC, Fi.e2, Fi.e1, asB, eChain, tAndF, tOrF, tNotF, eAnd, eOr, eNot, eIf, aNil, aCons, eTup, lLst, eL, eCall, lCall, eCallF, lCallF, eSlT, lSl, oNone, oSome, ownIx, ownLen, lLc, wipeE, pYes, sNext, fnD, entry, fAdd_int, fSub, fMul_l, fMul_r, fDiv_ok, fMod_ok, fPow_ok, fLt, fLe, fGt, fGe, fEq_int, fEq_str, fEq_bool, fNe_int, fNe_str, fNe_bool, isN, fIs, fIsNot, fIx, fNeg, fLen, fMin, fMax, fTuple, fList, fIntB, fSum, fAll, fAny, at_0, at_1, at_2, eT, eS, eStep, eR, getInts_map, Option.bind_some, Option.map_some, List.getElem?_cons_succ, List.getElem?_cons_zero, List.set_cons_succ, List.set_cons_zero, List.length_cons, List.length_nil, List.length_map, List.map_cons, List.map_nil, List.nil_append, List.cons_append, List.replicate, Nat.zero_add, Nat.reduceAdd, Nat.reduceSub, decide_true, decide_false, reduceIte, Nat.reduceLeDiff, Nat.reduceLT, Int.reduceLT, Int.reduceLE, Int.reduceNeg, Int.reducePow, and_self, or_self, and_true, true_and, or_true, true_or, Bool.not_true, Bool.not_false, pour_spend, spend_pour, f, hl]
theorem steps_loop (x0 x1 x2 x3 x4 x6 : Option Sl) {n : Nat} : ∀ (l : List Step) (x5 : Option Sl), (∀ t ∈ l, StOk n t) → ∃ z5, forD (gSet 5) lp__law_led_0 (l.map eStep) [x0, x1, x2, x3, x4, x5, x6] = some (.next [x0, x1, x2, x3, x4, z5, x6])
  | [], x5, _ => ⟨x5, rfl⟩
  | t :: l, x5, h => by
    obtain ⟨z5, ih⟩ := steps_loop x0 x1 x2 x3 x4 x6 l (some (.val (eStep t))) fun u hu => h u (by simp [hu])
    have ht := h t (by simp)
    refine ⟨z5, forD_step (e1 := [x0, x1, x2, x3, x4, some (.val (eStep t)), x6]) rfl ?_ ih⟩
    cases t with
    | pour a =>
      have ha : ¬ a < 0 := Int.not_lt.mpr ht
      simp only [eStep]
      simp only [sSeq, sSet, sOwn, sPar, sParL,  sIf, sRet, sRetL, sRetO, sDrop, sAug, sApp, sFrz, frz, sAsg, gSet, gsNil, gsCons, gTupF, Fi.gSub, sFor, iL, iT, iR1, iR2, iZ, iEn, itemsK, eVar, eC, Fi.e2, Fi.e1, asB, eChain, tAndF, tOrF, tNotF, eAnd, eOr, eNot, eIf, aNil, aCons, eTup, lLst, eL, eCall, lCall, eCallF, lCallF, eSlT, lSl, oNone, oSome, ownIx, ownLen, lLc, wipeE, pYes, sNext, fnD, entry, fAdd_int, fSub, fMul_l, fMul_r, fDiv_ok, fMod_ok, fPow_ok, fLt, fLe, fGt, fGe, fEq_int, fEq_str, fEq_bool, fNe_int, fNe_str, fNe_bool, isN, fIs, fIsNot, fIx, fNeg, fLen, fMin, fMax, fTuple, fList, fIntB, fSum, fAll, fAny, at_0, at_1, at_2, eT, eS, eStep, eR, getInts_map, Option.bind_some, Option.map_some, List.getElem?_cons_succ, List.getElem?_cons_zero, List.set_cons_succ, List.set_cons_zero, List.length_cons, List.length_nil, List.length_map, List.map_cons, List.map_nil, List.nil_append, List.cons_append, List.replicate, Nat.zero_add, Nat.reduceAdd, Nat.reduceSub, decide_true, decide_false, reduceIte, Nat.reduceLeDiff, Nat.reduceLT, Int.reduceLT, Int.reduceLE, Int.reduceNeg, Int.reducePow, and_self, or_self, and_true, true_and, or_true, true_or, Bool.not_true, Bool.not_false, pour_spend, spend_pour, lp__law_led_0, ni_p, last1, ha, Nat.zero_le, show (("pour" : Str) = "pour") = True from by simp]
      rfl
    | spend i a =>
      have ha : ¬ a < 0 := Int.not_lt.mpr ht.2
      simp only [eStep]
      simp only [sSeq, sSet, sOwn, sPar, sParL,  sIf, sRet, sRetL, sRetO, sDrop, sAug, sApp, sFrz, frz, sAsg, gSet, gsNil, gsCons, gTupF, Fi.gSub, sFor, iL, iT, iR1, iR2, iZ, iEn, itemsK, eVar, eC, Fi.e2, Fi.e1, asB, eChain, tAndF, tOrF, tNotF, eAnd, eOr, eNot, eIf, aNil, aCons, eTup, lLst, eL, eCall, lCall, eCallF, lCallF, eSlT, lSl, oNone, oSome, ownIx, ownLen, lLc, wipeE, pYes, sNext, fnD, entry, fAdd_int, fSub, fMul_l, fMul_r, fDiv_ok, fMod_ok, fPow_ok, fLt, fLe, fGt, fGe, fEq_int, fEq_str, fEq_bool, fNe_int, fNe_str, fNe_bool, isN, fIs, fIsNot, fIx, fNeg, fLen, fMin, fMax, fTuple, fList, fIntB, fSum, fAll, fAny, at_0, at_1, at_2, eT, eS, eStep, eR, getInts_map, Option.bind_some, Option.map_some, List.getElem?_cons_succ, List.getElem?_cons_zero, List.set_cons_succ, List.set_cons_zero, List.length_cons, List.length_nil, List.length_map, List.map_cons, List.map_nil, List.nil_append, List.cons_append, List.replicate, Nat.zero_add, Nat.reduceAdd, Nat.reduceSub, decide_true, decide_false, reduceIte, Nat.reduceLeDiff, Nat.reduceLT, Int.reduceLT, Int.reduceLE, Int.reduceNeg, Int.reducePow, and_self, or_self, and_true, true_and, or_true, true_or, Bool.not_true, Bool.not_false, pour_spend, spend_pour, lp__law_led_0, ni_s, last2, ha, Nat.zero_le]
      rfl
theorem led_ok {caps s y : List Int} (hc : caps.length ≤ 100) (hs : Lv caps s) (hy : Lv caps y) : F__law_led [eT caps, eT s, eT y, .int (fF caps s y)] = some (.val (.bool true)) := by
  have f1 := short_ok hc hs hy
  have f2 := few_ok hc hs hy
  have f3 := lrun_ok (s := scr caps s y) hc hs.len (scr_ok hs hy)
  obtain ⟨x, hx⟩ := scr_run hs hy
  rw [hx] at f3
  have hl : ((scr caps s y).map eStep).length = fF caps s y := by rw [List.length_map, scr_len]
  obtain ⟨z5, l1⟩ := steps_loop (some (.val (eT caps))) (some (.val (eT s))) (some (.val (eT y))) (some (.val (.int (fF caps s y)))) (some (.val (eS (scr caps s y)))) none (n := caps.length) (scr caps s y) none (scr_ok hs hy)
  have q := fEq_self (shaped_tup y)
  refine fn_ret ?_
  unfold b__law_led
  simp only [eS, eR] at f1 f3 l1
  generalize (scr caps s y).map eStep = SC at *
  generalize fF caps s y = n at *
  simp only [eT] at f1 f2 f3 l1 q ⊢
  simp only [sSeq, sSet, sOwn, sPar, sParL,  sIf, sRet, sRetL, sRetO, sDrop, sAug, sApp, sFrz, frz, sAsg, gSet, gsNil, gsCons, gTupF, Fi.gSub, sFor, iL, iT, iR1, iR2, iZ, iEn, itemsK, eVar, eC, Fi.e2, Fi.e1, asB, eChain, tAndF, tOrF, tNotF, eAnd, eOr, eNot, eIf, aNil, aCons, eTup, lLst, eL, eCall, lCall, eCallF, lCallF, eSlT, lSl, oNone, oSome, ownIx, ownLen, lLc, wipeE, pYes, sNext, fnD, entry, fAdd_int, fSub, fMul_l, fMul_r, fDiv_ok, fMod_ok, fPow_ok, fLt, fLe, fGt, fGe, fEq_int, fEq_str, fEq_bool, fNe_int, fNe_str, fNe_bool, isN, fIs, fIsNot, fIx, fNeg, fLen, fMin, fMax, fTuple, fList, fIntB, fSum, fAll, fAny, at_0, at_1, at_2, eT, eS, eStep, eR, getInts_map, Option.bind_some, Option.map_some, List.getElem?_cons_succ, List.getElem?_cons_zero, List.set_cons_succ, List.set_cons_zero, List.length_cons, List.length_nil, List.length_map, List.map_cons, List.map_nil, List.nil_append, List.cons_append, List.replicate, Nat.zero_add, Nat.reduceAdd, Nat.reduceSub, decide_true, decide_false, reduceIte, Nat.reduceLeDiff, Nat.reduceLT, Int.reduceLT, Int.reduceLE, Int.reduceNeg, Int.reducePow, and_self, or_self, and_true, true_and, or_true, true_or, Bool.not_true, Bool.not_false, pour_spend, spend_pour, f1, eIsI, isT, hl, f2, l1, f3, q]
end Lw

namespace Lw
open PySem L2 Fi
theorem cut9 {l : List PyData} : cutD l (some 9) none = l.drop 9 := cut_from (a := 9)
theorem cut20 {l : List PyData} : cutD l (some 20) none = l.drop 20 := cut_from (a := 20)
theorem cut30 {l : List PyData} : cutD l (some 30) none = l.drop 30 := cut_from (a := 30)
theorem cut40 {l : List PyData} : cutD l (some 40) none = l.drop 40 := cut_from (a := 40)
theorem cut_1 {l : List PyData} : cutD l (some 1) none = l.drop 1 := cut_from (a := 1)
theorem cut_t1 {l : List PyData} : cutD l none (some 1) = l.take 1 := cut_to (b := 1)
theorem range_get' {n i : Nat} {d : PyData} (h : ((List.range n).map fun (i : Nat) => PyData.int (i : Int))[i]? = some d) : i < n ∧ d = .int (i : Int) := by
  rw [List.getElem?_map] at h
  by_cases hi : i < n
  · rw [List.getElem?_range hi] at h
    exact ⟨hi, (Option.some.inj h).symm⟩
  · rw [List.getElem?_eq_none (by rw [List.length_range]; omega)] at h
    cases h
theorem lv_caps : ∀ {caps : List Int}, (∀ c ∈ caps, 0 ≤ c) → Lv caps caps
  | [], _ => trivial
  | c :: cs, h => ⟨h c (by simp), Int.le_refl _, lv_caps fun x hx => h x (by simp [hx])⟩
theorem lv_zero : ∀ {caps : List Int}, (∀ c ∈ caps, 0 ≤ c) → Lv caps (List.replicate caps.length 0)
  | [], _ => trivial
  | c :: cs, h => ⟨Int.le_refl _, h c (by simp), lv_zero fun x hx => h x (by simp [hx])⟩
theorem lv_mix {caps s y : List Int} (hs : Lv caps s) (hy : Lv caps y) : Lv caps (y.take 1 ++ s.drop 1) := by
  cases caps with
  | nil => cases s with
    | nil => cases y with
      | nil => trivial
      | cons _ _ => exact hy.elim
    | cons _ _ => exact hs.elim
  | cons c cs => cases s with
    | nil => exact hs.elim
    | cons a s => cases y with
      | nil => exact hy.elim
      | cons b y => exact ⟨hy.1, hy.2.1, hs.2.2⟩
theorem mul_zero {n : Nat} (h1 : 1 ≤ n) (h2 : n ≤ 1000) : fMulT (.tuple [.int 0]) (.int (n : Int)) = some (.tuple ((List.replicate n (0 : Int)).map .int)) := by
  have e : (List.replicate n [PyData.int 0]).flatten = (List.replicate n (0 : Int)).map .int := by
    clear h1 h2
    induction n with
    | zero => rfl
    | succ n ih => rw [List.replicate_succ, List.flatten_cons, ih, List.replicate_succ, List.map_cons]; rfl
  show (if [PyData.int 0] ≠ [] ∧ 1 ≤ (n : Int) ∧ (n : Int) ≤ 1000 ∧ [PyData.int 0].length ≤ 1000 then some (PyData.tuple (List.replicate (n : Int).toNat [PyData.int 0]).flatten) else none) = _
  rw [if_pos ⟨by simp, by omega, by omega, by simp⟩, Int.toNat_natCast, e]
theorem targets_loop {caps s : List Int} {kvs : List (List Int × PyData)} (hc : caps.length ≤ 100) (hs : Lv caps s) (hk : ∀ y, Lv caps y → getDct kvs y = some (.int (fF caps s y))) (A B D x7 : Option Sl) : ∀ (rows : List (List Int)) (x6 : Option Sl), (∀ y ∈ rows, Lv caps y) → ∃ z6,
    forD (gSet 6) lp_law_0 (rows.map eT) [A, B, D, some (.val (eT caps)), some (.val (eT s)), some (.dct kvs), x6, x7] = some (.next [A, B, D, some (.val (eT caps)), some (.val (eT s)), some (.dct kvs), z6, x7])
  | [], x6, _ => ⟨x6, rfl⟩
  | y :: rows, x6, h => by
    have hy := h y (by simp)
    obtain ⟨z6, ih⟩ := targets_loop hc hs hk A B D x7 rows (some (.val (eT y))) fun z hz => h z (by simp [hz])
    have f1 := formula_ok hc hs hy
    have f2 := led_ok hc hs hy
    have g := hk y hy
    have kd := keyD_eT y
    refine ⟨z6, forD_step (e1 := [A, B, D, some (.val (eT caps)), some (.val (eT s)), some (.dct kvs), some (.val (eT y)), x7]) rfl ?_ ih⟩
    generalize eT y = Y at *
    generalize eT caps = C at *
    generalize eT s = S at *
    generalize fF caps s y = n at *
    simp only [sSeq, sSet, sOwn, sPar, sParL,  sIf, sRet, sRetL, sRetO, sDrop, sAug, sApp, sFrz, frz, sAsg, gSet, gsNil, gsCons, gTupF, Fi.gSub, sFor, iL, iT, iR1, iR2, iZ, iEn, itemsK, eVar, eC, Fi.e2, Fi.e1, asB, eChain, tAndF, tOrF, tNotF, eAnd, eOr, eNot, eIf, aNil, aCons, eTup, lLst, eL, eCall, lCall, eCallF, lCallF, eSlT, lSl, oNone, oSome, ownIx, ownLen, lLc, wipeE, pYes, sNext, fnD, entry, fAdd_int, fSub, fMul_l, fMul_r, fDiv_ok, fMod_ok, fPow_ok, fLt, fLe, fGt, fGe, fEq_int, fEq_str, fEq_bool, fNe_int, fNe_str, fNe_bool, isN, fIs, fIsNot, fIx, fNeg, fLen, fMin, fMax, fTuple, fList, fIntB, fSum, fAll, fAny, at_0, at_1, at_2, eT, eS, eStep, eR, getInts_map, Option.bind_some, Option.map_some, List.getElem?_cons_succ, List.getElem?_cons_zero, List.set_cons_succ, List.set_cons_zero, List.length_cons, List.length_nil, List.length_map, List.map_cons, List.map_nil, List.nil_append, List.cons_append, List.replicate, Nat.zero_add, Nat.reduceAdd, Nat.reduceSub, decide_true, decide_false, reduceIte, Nat.reduceLeDiff, Nat.reduceLT, Int.reduceLT, Int.reduceLE, Int.reduceNeg, Int.reducePow, and_self, or_self, and_true, true_and, or_true, true_or, Bool.not_true, Bool.not_false, pour_spend, spend_pour, lp_law_0, dctIx, kd, g, f1, f2]
theorem goal_body {caps s y : List Int} (hc : caps.length ≤ 100) (hs : Lv caps s) (hy : Lv caps y) (A B D x5 x6 : Option Sl) : lp_law_1 [A, B, D, some (.val (eT caps)), some (.val (eT s)), x5, x6, some (.val (eT y))] = some (.next [A, B, D, some (.val (eT caps)), some (.val (eT s)), x5, x6, some (.val (eT y))]) := by
  have f1 := formula_ok hc hs hy
  have f2 := led_ok hc hs hy
  generalize eT y = Y at *
  generalize eT caps = C at *
  generalize eT s = S at *
  generalize fF caps s y = n at *
  simp only [sSeq, sSet, sOwn, sPar, sParL,  sIf, sRet, sRetL, sRetO, sDrop, sAug, sApp, sFrz, frz, sAsg, gSet, gsNil, gsCons, gTupF, Fi.gSub, sFor, iL, iT, iR1, iR2, iZ, iEn, itemsK, eVar, eC, Fi.e2, Fi.e1, asB, eChain, tAndF, tOrF, tNotF, eAnd, eOr, eNot, eIf, aNil, aCons, eTup, lLst, eL, eCall, lCall, eCallF, lCallF, eSlT, lSl, oNone, oSome, ownIx, ownLen, lLc, wipeE, pYes, sNext, fnD, entry, fAdd_int, fSub, fMul_l, fMul_r, fDiv_ok, fMod_ok, fPow_ok, fLt, fLe, fGt, fGe, fEq_int, fEq_str, fEq_bool, fNe_int, fNe_str, fNe_bool, isN, fIs, fIsNot, fIx, fNeg, fLen, fMin, fMax, fTuple, fList, fIntB, fSum, fAll, fAny, at_0, at_1, at_2, eT, eS, eStep, eR, getInts_map, Option.bind_some, Option.map_some, List.getElem?_cons_succ, List.getElem?_cons_zero, List.set_cons_succ, List.set_cons_zero, List.length_cons, List.length_nil, List.length_map, List.map_cons, List.map_nil, List.nil_append, List.cons_append, List.replicate, Nat.zero_add, Nat.reduceAdd, Nat.reduceSub, decide_true, decide_false, reduceIte, Nat.reduceLeDiff, Nat.reduceLT, Int.reduceLT, Int.reduceLE, Int.reduceNeg, Int.reducePow, and_self, or_self, and_true, true_and, or_true, true_or, Bool.not_true, Bool.not_false, pour_spend, spend_pour, lp_law_1, f1, f2]
end Lw

namespace Lw
open PySem L2 Fi
theorem law_body (ns : List Int) (hl : ns.length ≤ 63) (k : Nat) (hk : k < 6) (x2 x3 x4 x5 x6 x7 : Option Sl) : ∃ y1 y2 y3 y4 y5 y6 y7,
    lp_law_2 [some (.val (.list (ns.map .int))), some (.val (.int k)), x2, x3, x4, x5, x6, x7] = some (.next [some (.val (.list (ns.map .int))), y1, y2, y3, y4, y5, y6, y7]) := by
  obtain ⟨ds, dl, dp, fD⟩ := digits_ok ns hl k (by omega) 60 (by decide) 27720 ⟨by decide, by decide⟩
  have fD : F__law_digits [.list (ns.map .int), .int k, .int 60, .int 27720] = some (.own (ds.map .int)) := fD
  obtain ⟨caps, c1, c3, cp, fC⟩ := caps_ok ds (fun d h => (dp d h).1) 3 4 (by decide) (by decide) (by omega) (by omega) (by decide)
  have fC : F__law_caps [.list (ds.map .int), .int 3, .int 4] = some (.val (eT caps)) := fC
  obtain ⟨lv, hv, fL⟩ := levels_ok (ds.drop 9) caps (by rw [List.length_drop]; omega) (fun c hc => by have := (cp c hc).1; omega) (by omega)
  have hcp : ∀ c ∈ caps, 0 ≤ c ∧ c ≤ 5 := fun c h => by have := cp c h; omega
  obtain ⟨kvs, fS, hk2⟩ := search_ok hcp c3 hv
  have fA := lall_ok hcp c3
  obtain ⟨caps2, d1, d6, dp2, fC2⟩ := caps_ok (ds.drop 20) (fun d h => (dp d (List.mem_of_mem_drop h)).1) 6 20000 (by decide) (by decide) (by rw [List.length_drop]; omega) (by rw [List.length_drop]; omega) (by decide)
  have fC2 : F__law_caps [.list ((ds.drop 20).map .int), .int 6, .int 20000] = some (.val (eT caps2)) := fC2
  have hc2 : ∀ c ∈ caps2, 0 ≤ c := fun c hc => by have := (dp2 c hc).1; omega
  obtain ⟨lv2, hv2, fL2⟩ := levels_ok (ds.drop 30) caps2 (by rw [List.length_drop]; omega) hc2 (by omega)
  obtain ⟨ta, ht, fT⟩ := levels_ok (ds.drop 40) caps2 (by rw [List.length_drop]; omega) hc2 (by omega)
  rw [List.map_drop] at fL fC2 fL2 fT
  obtain ⟨z6, l0⟩ := targets_loop (by omega) hv hk2 (some (.val (.list (ns.map .int)))) (some (.val (.int k))) (some (.val (.list (ds.map .int)))) x7 (allL caps) x6 (fun y hy => mem_all.mp hy)
  have gb := fun {y : List Int} (hy : Lv caps2 y) => goal_body (by omega) hv2 hy (some (.val (.list (ns.map .int)))) (some (.val (.int k))) (some (.val (.list (ds.map .int)))) (some (.dct kvs)) (some (.val (eT ta)))
  have g : forD (gSet 7) lp_law_1 [eT ta, eT caps2, eT (List.replicate caps2.length 0), eT lv2, eT (ta.take 1 ++ lv2.drop 1)] [some (.val (.list (ns.map .int))), some (.val (.int k)), some (.val (.list (ds.map .int))), some (.val (eT caps2)), some (.val (eT lv2)), some (.dct kvs), some (.val (eT ta)), x7] = _ :=
    forD_step rfl (gb ht) (forD_step rfl (gb (lv_caps hc2)) (forD_step rfl (gb (lv_zero hc2)) (forD_step rfl (gb hv2) (forD_step rfl (gb (lv_mix hv2 ht)) rfl))))
  have mz := mul_zero (n := caps2.length) d1 (by omega)
  have hlt := ht.len
  have hlv := hv2.len
  have ad : fAdd (.tuple ((ta.map PyData.int).take 1)) (.tuple ((lv2.map PyData.int).drop 1)) = some (.tuple ((ta.take 1 ++ lv2.drop 1).map .int)) := by
    rw [← List.map_take, ← List.map_drop, fAdd_tup (by simp; omega), ← List.map_append]
  clear gb
  generalize (allL caps).map eT = AL at *
  simp only [eT] at fC fL fS fA fC2 fL2 fT l0 g ⊢
  generalize (ta.take 1 ++ lv2.drop 1).map PyData.int = MX at *
  generalize (List.replicate caps2.length (0 : Int)).map PyData.int = ZR at *
  repeat apply Exists.intro
  simp only [sSeq, sSet, sOwn, sPar, sParL,  sIf, sRet, sRetL, sRetO, sDrop, sAug, sApp, sFrz, frz, sAsg, gSet, gsNil, gsCons, gTupF, Fi.gSub, sFor, iL, iT, iR1, iR2, iZ, iEn, itemsK, eVar, eC, Fi.e2, Fi.e1, asB, eChain, tAndF, tOrF, tNotF, eAnd, eOr, eNot, eIf, aNil, aCons, eTup, lLst, eL, eCall, lCall, eCallF, lCallF, eSlT, lSl, oNone, oSome, ownIx, ownLen, lLc, wipeE, pYes, sNext, fnD, entry, fAdd_int, fSub, fMul_l, fMul_r, fDiv_ok, fMod_ok, fPow_ok, fLt, fLe, fGt, fGe, fEq_int, fEq_str, fEq_bool, fNe_int, fNe_str, fNe_bool, isN, fIs, fIsNot, fIx, fNeg, fLen, fMin, fMax, fTuple, fList, fIntB, fSum, fAll, fAny, at_0, at_1, at_2, eT, eS, eStep, eR, getInts_map, Option.bind_some, Option.map_some, List.getElem?_cons_succ, List.getElem?_cons_zero, List.set_cons_succ, List.set_cons_zero, List.length_cons, List.length_nil, List.length_map, List.map_cons, List.map_nil, List.nil_append, List.cons_append, List.replicate, Nat.zero_add, Nat.reduceAdd, Nat.reduceSub, decide_true, decide_false, reduceIte, Nat.reduceLeDiff, Nat.reduceLT, Int.reduceLT, Int.reduceLE, Int.reduceNeg, Int.reducePow, and_self, or_self, and_true, true_and, or_true, true_or, Bool.not_true, Bool.not_false, pour_spend, spend_pour, lp_law_2, fD, fC, cut9, fL, sDct, dCallF, fS, fA, l0, cut20, fC2, cut30, fL2, cut40, fT, mz, cut_t1, cut_1, ad, g, Nat.zero_le]
  rfl
theorem law_true (ns : List Int) (hl : ns.length ≤ 63) : F_law [.list (ns.map .int)] = some (.val (.bool true)) := by
  obtain ⟨e, f1, y1, y2, y3, y4, y5, y6, y7, rfl⟩ : ∃ e, forD (gSet 1) lp_law_2 ((List.range 6).map fun (i : Nat) => PyData.int (i : Int)) [some (.val (.list (ns.map .int))), none, none, none, none, none, none, none] = some (.next e) ∧ ∃ y1 y2 y3 y4 y5 y6 y7, e = [some (.val (.list (ns.map .int))), y1, y2, y3, y4, y5, y6, y7] := by
    refine forD_inv (fun _ e => ∃ y1 y2 y3 y4 y5 y6 y7, e = [some (.val (.list (ns.map .int))), y1, y2, y3, y4, y5, y6, y7]) _ 0 _ ⟨_, _, _, _, _, _, _, rfl⟩ fun i d e hd he => ?_
    obtain ⟨y1, y2, y3, y4, y5, y6, y7, rfl⟩ := he
    obtain ⟨hi, rfl⟩ := range_get' hd
    obtain ⟨z1, z2, z3, z4, z5, z6, z7, h⟩ := law_body ns hl i hi y2 y3 y4 y5 y6 y7
    exact ⟨_, _, rfl, h, _, _, _, _, _, _, _, rfl⟩
  have r1 : F_fewest_steps [.tuple [.int 5, .int 9], .tuple [.int 1, .int 0], .tuple [.int 2, .int 4]] = some (.val (.int 2)) := by
    have h := few_ok (caps := [5, 9]) (s := [1, 0]) (y := [2, 4]) (by decide) (by simp [Lv]) (by simp [Lv])
    have e : fF [5, 9] [1, 0] [2, 4] = 2 := by decide +kernel
    rw [e] at h
    exact h
  have r2 : F_shortest_script [.tuple [.int 5, .int 9], .tuple [.int 1, .int 0], .tuple [.int 5, .int 2]] = some (.val (.tuple [.tuple [.str "pour", .int 6]])) := by
    have h := short_ok (caps := [5, 9]) (s := [1, 0]) (y := [5, 2]) (by decide) (by simp [Lv]) (by simp [Lv])
    have e : scr [5, 9] [1, 0] [5, 2] = [.pour 6] := by rfl
    rw [e] at h
    exact h
  have n2 : fEq (.tuple [.tuple [.str "pour", .int 6]]) (.tuple [.tuple [.str "pour", .int 6]]) = some (.bool true) := fEq_self (by decide +kernel)
  refine fn_ret ?_
  unfold b_law
  simp only [sSeq, sSet, sOwn, sPar, sParL,  sIf, sRet, sRetL, sRetO, sDrop, sAug, sApp, sFrz, frz, sAsg, gSet, gsNil, gsCons, gTupF, Fi.gSub, sFor, iL, iT, iR1, iR2, iZ, iEn, itemsK, eVar, eC, Fi.e2, Fi.e1, asB, eChain, tAndF, tOrF, tNotF, eAnd, eOr, eNot, eIf, aNil, aCons, eTup, lLst, eL, eCall, lCall, eCallF, lCallF, eSlT, lSl, oNone, oSome, ownIx, ownLen, lLc, wipeE, pYes, sNext, fnD, entry, fAdd_int, fSub, fMul_l, fMul_r, fDiv_ok, fMod_ok, fPow_ok, fLt, fLe, fGt, fGe, fEq_int, fEq_str, fEq_bool, fNe_int, fNe_str, fNe_bool, isN, fIs, fIsNot, fIx, fNeg, fLen, fMin, fMax, fTuple, fList, fIntB, fSum, fAll, fAny, at_0, at_1, at_2, eT, eS, eStep, eR, getInts_map, Option.bind_some, Option.map_some, List.getElem?_cons_succ, List.getElem?_cons_zero, List.set_cons_succ, List.set_cons_zero, List.length_cons, List.length_nil, List.length_map, List.map_cons, List.map_nil, List.nil_append, List.cons_append, List.replicate, Nat.zero_add, Nat.reduceAdd, Nat.reduceSub, decide_true, decide_false, reduceIte, Nat.reduceLeDiff, Nat.reduceLT, Int.reduceLT, Int.reduceLE, Int.reduceNeg, Int.reducePow, and_self, or_self, and_true, true_and, or_true, true_or, Bool.not_true, Bool.not_false, pour_spend, spend_pour, f1, r1, r2, n2, Nat.zero_le, show (6 : Int).toNat = 6 from rfl]
end Lw

namespace Lw
open PySem PySem.Spec PyProof.Rows L2 Fi
def top (i : Nat) : Stmt := PySem.Challenge.pw_fillorder_k22_whole_fewest_steps.main.body.getD i (.Pass ⟨0, 0, 0, 0⟩)
abbrev s_fewest_steps : Stmt := top 1
abbrev N_fewest_steps : List Str := ["caps", "levels", "target"]
theorem sc_fewest_steps : FnScope N_fewest_steps ["caps", "levels", "target"] (defScope s_fewest_steps) := ⟨rfl, rfl, rfl, by decide +kernel, rfl, by decide +kernel, by decide +kernel⟩
abbrev s_shortest_script : Stmt := top 2
abbrev N_shortest_script : List Str := ["caps", "levels", "target", "places", "raised", "script", "place", "last", "amount"]
theorem sc_shortest_script : FnScope N_shortest_script ["caps", "levels", "target"] (defScope s_shortest_script) := ⟨rfl, rfl, rfl, by decide +kernel, rfl, by decide +kernel, by decide +kernel⟩
abbrev s__law_cell : Stmt := top 4
abbrev N__law_cell : List Str := ["script", "index"]
theorem sc__law_cell : FnScope N__law_cell ["script", "index"] (defScope s__law_cell) := ⟨rfl, rfl, rfl, by decide +kernel, rfl, by decide +kernel, by decide +kernel⟩
abbrev s__law_digits : Stmt := top 5
abbrev N__law_digits : List Str := ["script", "index", "count", "base", "primes", "cell", "rest", "digits", "k", "mixed"]
theorem sc__law_digits : FnScope N__law_digits ["script", "index", "count", "base"] (defScope s__law_digits) := ⟨rfl, rfl, rfl, by decide +kernel, rfl, by decide +kernel, by decide +kernel⟩
abbrev s__law_caps : Stmt := top 6
abbrev N__law_caps : List Str := ["digits", "most", "top", "digit"]
theorem sc__law_caps : FnScope N__law_caps ["digits", "most", "top"] (defScope s__law_caps) := ⟨rfl, rfl, rfl, by decide +kernel, rfl, by decide +kernel, by decide +kernel⟩
abbrev s__law_levels : Stmt := top 7
abbrev N__law_levels : List Str := ["digits", "caps", "levels", "cap", "digit", "way"]
theorem sc__law_levels : FnScope N__law_levels ["digits", "caps"] (defScope s__law_levels) := ⟨rfl, rfl, rfl, by decide +kernel, rfl, by decide +kernel, by decide +kernel⟩
abbrev s__law_run : Stmt := top 8
abbrev N__law_run : List Str := ["caps", "levels", "script", "step", "now", "lost", "rest", "place", "cap", "part"]
theorem sc__law_run : FnScope N__law_run ["caps", "levels", "script"] (defScope s__law_run) := ⟨rfl, rfl, rfl, by decide +kernel, rfl, by decide +kernel, by decide +kernel⟩
abbrev s__law_all_levels : Stmt := top 9
abbrev N__law_all_levels : List Str := ["caps", "rows", "cap", "longer", "row", "level"]
theorem sc__law_all_levels : FnScope N__law_all_levels ["caps"] (defScope s__law_all_levels) := ⟨rfl, rfl, rfl, by decide +kernel, rfl, by decide +kernel, by decide +kernel⟩
abbrev s__law_search : Stmt := top 10
abbrev N__law_search : List Str := ["caps", "levels", "found", "front", "count", "reached", "one", "others", "place", "other", "amount", "level"]
theorem sc__law_search : FnScope N__law_search ["caps", "levels"] (defScope s__law_search) := ⟨rfl, rfl, rfl, by decide +kernel, rfl, by decide +kernel, by decide +kernel⟩
abbrev s__law_formula : Stmt := top 11
abbrev N__law_formula : List Str := ["caps", "levels", "target", "gains", "last", "count", "place"]
theorem sc__law_formula : FnScope N__law_formula ["caps", "levels", "target"] (defScope s__law_formula) := ⟨rfl, rfl, rfl, by decide +kernel, rfl, by decide +kernel, by decide +kernel⟩
abbrev s__law_led : Stmt := top 12
abbrev N__law_led : List Str := ["caps", "levels", "target", "count", "steps", "step", "found"]
theorem sc__law_led : FnScope N__law_led ["caps", "levels", "target", "count"] (defScope s__law_led) := ⟨rfl, rfl, rfl, by decide +kernel, rfl, by decide +kernel, by decide +kernel⟩
abbrev s_law : Stmt := top 13
abbrev N_law : List Str := ["script", "index", "digits", "caps", "levels", "found", "target", "goal"]
theorem sc_law : FnScope N_law ["script"] (defScope s_law) := ⟨rfl, rfl, rfl, by decide +kernel, rfl, by decide +kernel, by decide +kernel⟩
/-! ### what the top has left -/
structure Tx (K : PySem.W.Frag) (mg : Str → Option Value) : Prop where
  d_fewest_steps : ∃ fd, FnP K "fewest_steps" s_fewest_steps (He.ga K "fewest_steps") fd
  g_fewest_steps : mg "fewest_steps" = some (.ref (He.ga K "fewest_steps"))
  d_shortest_script : ∃ fd, FnP K "shortest_script" s_shortest_script (He.ga K "shortest_script") fd
  g_shortest_script : mg "shortest_script" = some (.ref (He.ga K "shortest_script"))
  d__law_cell : ∃ fd, FnP K "_law_cell" s__law_cell (He.ga K "_law_cell") fd
  g__law_cell : mg "_law_cell" = some (.ref (He.ga K "_law_cell"))
  d__law_digits : ∃ fd, FnP K "_law_digits" s__law_digits (He.ga K "_law_digits") fd
  g__law_digits : mg "_law_digits" = some (.ref (He.ga K "_law_digits"))
  d__law_caps : ∃ fd, FnP K "_law_caps" s__law_caps (He.ga K "_law_caps") fd
  g__law_caps : mg "_law_caps" = some (.ref (He.ga K "_law_caps"))
  d__law_levels : ∃ fd, FnP K "_law_levels" s__law_levels (He.ga K "_law_levels") fd
  g__law_levels : mg "_law_levels" = some (.ref (He.ga K "_law_levels"))
  d__law_run : ∃ fd, FnP K "_law_run" s__law_run (He.ga K "_law_run") fd
  g__law_run : mg "_law_run" = some (.ref (He.ga K "_law_run"))
  d__law_all_levels : ∃ fd, FnP K "_law_all_levels" s__law_all_levels (He.ga K "_law_all_levels") fd
  g__law_all_levels : mg "_law_all_levels" = some (.ref (He.ga K "_law_all_levels"))
  d__law_search : ∃ fd, FnP K "_law_search" s__law_search (He.ga K "_law_search") fd
  g__law_search : mg "_law_search" = some (.ref (He.ga K "_law_search"))
  d__law_formula : ∃ fd, FnP K "_law_formula" s__law_formula (He.ga K "_law_formula") fd
  g__law_formula : mg "_law_formula" = some (.ref (He.ga K "_law_formula"))
  d__law_led : ∃ fd, FnP K "_law_led" s__law_led (He.ga K "_law_led") fd
  g__law_led : mg "_law_led" = some (.ref (He.ga K "_law_led"))
  d_law : ∃ fd, FnP K "law" s_law (He.ga K "law") fd
  g_law : mg "law" = some (.ref (He.ga K "law"))
  n_enumerate : mg "enumerate" = none
  n_int : mg "int" = none
  n_isinstance : mg "isinstance" = none
  n_len : mg "len" = none
  n_list : mg "list" = none
  n_range : mg "range" = none
  n_sum : mg "sum" = none
  n_tuple : mg "tuple" = none
  n_zip : mg "zip" = none
section
variable {P : Program} {w : World} {K : PySem.W.Frag} {mg : Str → Option Value} {base : Heap}
theorem k_shortest_script (T : Tx K mg) : Known P w K mg base 1 "shortest_script" 3 F_shortest_script :=
  known_mk T.d_shortest_script T.g_shortest_script sc_shortest_script rfl rfl (fun _ _ _ _ _ _ us hl => match us, hl with | [_, _, _], _ => rfl) fun cdv A outer s H E hr =>
    (s_cons (s_set 3 sc_shortest_script.nd (x_L (l_listRange rfl rfl T.n_list rfl T.n_range (x_callB cd_len rfl T.n_len PySem.boot_len (a_cons (x_var 0) a_nil)))))
    (s_cons (s_setLc 4 rfl sc_shortest_script.nd (sw_true rfl rfl rfl (by decide +kernel)) (i_list (x_var 3)) (blkOk_by (own := [("place", 6)]) (N := N_shortest_script) (sc := defScope s_shortest_script) (by decide +kernel)) (fun _ _ _ _ _ => (g_name 6 sc_shortest_script.nd)) (fun _ _ _ _ _ => (q_one (t_cmp od_gt (x_ix (x_var 2) (x_var 6) (fun _ _ => rfl)) (x_ix (x_var 1) (x_var 6) (fun _ _ => rfl)) (nomark _)))) (fun _ _ _ _ _ => (x_var 6))) (s_frz 4 (s_cons (s_own 5 sc_shortest_script.nd (l_lst a_nil))
    (s_cons (s_if (t_cmp (od_ne hr.units) (x_var 4) (x_L (l_lst a_nil)) (nomark _)) (s_cons (s_set 7 sc_shortest_script.nd (x_ix (x_var 4) (x_neg x_int) (fun _ _ => rfl)))
    (s_cons (s_set 8 sc_shortest_script.nd (x_bin od_sub (x_bin od_add (x_callB (cd_sum rfl) rfl T.n_sum (by decide +kernel) (a_cons (x_L (l_lc rfl sc_shortest_script.nd (i_list (x_L (l_sl (x_var 3) o_none (o_some (x_var 7))))) (blkOk_by (own := [("place", 6)]) (N := N_shortest_script) (sc := defScope s_shortest_script) (by decide +kernel)) (fun _ _ _ _ _ => (g_name 6 sc_shortest_script.nd)) (fun _ _ _ _ _ => q_nil) (fun _ _ _ _ _ => (x_bin od_sub (x_ix (x_var 0) (x_var 6) (fun _ _ => rfl)) (x_ix (x_var 1) (x_var 6) (fun _ _ => rfl)))))) a_nil)) (x_ix (x_var 2) (x_var 7) (fun _ _ => rfl))) (x_ix (x_var 1) (x_var 7) (fun _ _ => rfl))))
    (s_cons (s_app 5 (x_tup (a_cons x_str (a_cons (x_var 8) a_nil))))
    (s_one (s_set 1 sc_shortest_script.nd (x_bin od_add (x_bin od_add (x_slT (x_var 0) o_none (o_some (x_var 7))) (x_tup (a_cons (x_ix (x_var 2) (x_var 7) (fun _ _ => rfl)) a_nil))) (x_slT (x_var 1) (o_some (x_bin od_add (x_var 7) x_int)) o_none))))))) s_nil)
    (s_cons (s_for PassesOwn.never rfl (i_list (x_var 3)) (g_name 6 sc_shortest_script.nd) (s_one (s_if (t_cmp od_lt (x_ix (x_var 2) (x_var 6) (fun _ _ => rfl)) (x_ix (x_var 1) (x_var 6) (fun _ _ => rfl)) (nomark _)) (s_one (s_app 5 (x_tup (a_cons x_str (a_cons (x_var 6) (a_cons (x_bin od_sub (x_ix (x_var 1) (x_var 6) (fun _ _ => rfl)) (x_ix (x_var 2) (x_var 6) (fun _ _ => rfl))) a_nil)))))) s_nil)))
    (s_frz 5 (s_one (s_ret (x_callTy cd_tuple rfl T.n_tuple (by decide +kernel) (a_cons (x_var 5) a_nil)))))))))))
theorem k__law_cell (T : Tx K mg) : Known P w K mg base 1 "_law_cell" 2 F__law_cell :=
  known_mk T.d__law_cell T.g__law_cell sc__law_cell rfl rfl (fun _ _ _ _ _ _ us hl => match us, hl with | [_, _], _ => rfl) fun cdv A outer s H E hr =>
    (s_cons (s_if (t_cmp od_lt (x_var 1) (x_callB cd_len rfl T.n_len PySem.boot_len (a_cons (x_var 0) a_nil)) (nomark _)) (s_one (s_ret (x_ix (x_var 0) (x_var 1) (fun _ _ => rfl)))) s_nil)
    (s_cons (s_if (t_cmp (od_eq hr.units) (x_callB cd_len rfl T.n_len PySem.boot_len (a_cons (x_var 0) a_nil)) x_int (nomark _)) (s_one (s_ret (x_bin od_add (x_bin od_mul x_int (x_var 1)) x_int))) s_nil)
    (s_one (s_ret (x_bin od_add (x_bin od_mod (x_ix (x_var 0) (x_bin od_mod (x_var 1) (x_callB cd_len rfl T.n_len PySem.boot_len (a_cons (x_var 0) a_nil))) (fun _ _ => rfl)) x_int) (x_bin od_mul x_int (x_var 1)))))))
theorem k__law_caps (T : Tx K mg) : Known P w K mg base 1 "_law_caps" 3 F__law_caps :=
  known_mk T.d__law_caps T.g__law_caps sc__law_caps rfl rfl (fun _ _ _ _ _ _ us hl => match us, hl with | [_, _, _], _ => rfl) fun cdv A outer s H E hr =>
    (s_one (s_ret (x_callTy cd_tuple rfl T.n_tuple (by decide +kernel) (a_cons (x_L (l_lc rfl sc__law_caps.nd (i_list (x_L (l_sl (x_var 0) (o_some x_int) (o_some (x_bin od_add x_int (x_bin od_mod (x_ix (x_var 0) x_int (fun _ _ => rfl)) (x_var 1))))))) (blkOk_by (own := [("digit", 3)]) (N := N__law_caps) (sc := defScope s__law_caps) (by decide +kernel)) (fun _ _ _ _ _ => (g_name 3 sc__law_caps.nd)) (fun _ _ _ _ _ => q_nil) (fun _ _ _ _ _ => (x_bin od_add x_int (x_bin od_mod (x_var 3) (x_var 2)))))) a_nil))))
theorem k__law_levels (T : Tx K mg) : Known P w K mg base 1 "_law_levels" 2 F__law_levels :=
  known_mk T.d__law_levels T.g__law_levels sc__law_levels rfl rfl (fun _ _ _ _ _ _ us hl => match us, hl with | [_, _], _ => rfl) fun cdv A outer s H E hr =>
    (s_cons (s_set 2 sc__law_levels.nd (x_tup a_nil))
    (s_cons (s_for PassesOwn.never rfl (i_zip .t .l rfl T.n_zip (a_cons (x_var 1) (a_cons (x_var 0) a_nil))) (g_tup rfl (gs_cons (g_name 3 sc__law_levels.nd) (gs_cons (g_name 4 sc__law_levels.nd) (gs_nil (m := false))))) (s_cons (s_set 5 sc__law_levels.nd (x_bin od_mod (x_bin od_div (x_var 4) x_int) x_int))
    (s_one (s_if (t_cmp (od_eq hr.units) (x_var 5) x_int (nomark _)) (s_one (s_set 2 sc__law_levels.nd (x_bin od_add (x_var 2) (x_tup (a_cons (x_var 3) a_nil))))) (s_one (s_if (t_cmp (od_eq hr.units) (x_var 5) x_int (nomark _)) (s_one (s_set 2 sc__law_levels.nd (x_bin od_add (x_var 2) (x_tup (a_cons x_int a_nil))))) (s_one (s_set 2 sc__law_levels.nd (x_bin od_add (x_var 2) (x_tup (a_cons (x_bin od_mod (x_var 4) (x_bin od_add (x_var 3) x_int)) a_nil)))))))))))
    (s_one (s_ret (x_var 2)))))
theorem k__law_run (T : Tx K mg) : Known P w K mg base 1 "_law_run" 3 F__law_run :=
  known_mk T.d__law_run T.g__law_run sc__law_run rfl rfl (fun _ _ _ _ _ _ us hl => match us, hl with | [_, _, _], _ => rfl) fun cdv A outer s H E hr =>
    (s_cons (s_parL 4 5 rfl sc__law_run.nd (l_callTy cl_list rfl T.n_list (by decide +kernel) (a_cons (x_var 1) a_nil)) x_int)
    (s_cons (s_for PassesOwn.never rfl (i_tup (x_var 2)) (g_name 3 sc__law_run.nd) (s_one (s_if (t_cmp (od_eq hr.units) (x_ix (x_var 3) x_int (fun _ _ => rfl)) x_str (nomark _)) (s_cons (s_if (t_cmp od_gt (x_ix (x_var 3) x_int (fun _ _ => rfl)) (x_ownIx 4 (x_ix (x_var 3) x_int (fun _ _ => rfl)) (fun _ _ => rfl)) (nomark _)) (s_one (s_ret x_non)) s_nil)
    (s_one (s_asg (x_bin od_sub (x_ownIx 4 (x_ix (x_var 3) x_int (fun _ _ => rfl)) (fun _ _ => rfl)) (x_ix (x_var 3) x_int (fun _ _ => rfl))) (g_sub 4 (he := (x_ix (x_var 3) x_int (fun _ _ => rfl))))))) (s_cons (s_set 6 sc__law_run.nd (x_ix (x_var 3) x_int (fun _ _ => rfl)))
    (s_cons (s_for PassesOwn.never rfl (i_enum .t rfl T.n_enumerate (a_cons (x_var 0) a_nil)) (g_tup rfl (gs_cons (g_name 7 sc__law_run.nd) (gs_cons (g_name 8 sc__law_run.nd) (gs_nil (m := false))))) (s_cons (s_set 9 sc__law_run.nd (x_if (t_cmp od_gt (x_var 6) (x_bin od_sub (x_var 8) (x_ownIx 4 (x_var 7) (fun _ _ => rfl))) (nomark _)) (x_bin od_sub (x_var 8) (x_ownIx 4 (x_var 7) (fun _ _ => rfl))) (x_var 6)))
    (s_one (s_asg (x_tup (a_cons (x_bin od_add (x_ownIx 4 (x_var 7) (fun _ _ => rfl)) (x_var 9)) (a_cons (x_bin od_sub (x_var 6) (x_var 9)) a_nil))) (g_tup rfl (gs_cons (g_sub 4 (he := (x_var 7))) (gs_cons (g_name 6 sc__law_run.nd) (gs_nil (m := false)))))))))
    (s_one (s_set 5 sc__law_run.nd (x_bin od_add (x_var 5) (x_var 6)))))))))
    (s_frz 4 (s_one (s_ret (x_tup (a_cons (x_callTy cd_tuple rfl T.n_tuple (by decide +kernel) (a_cons (x_var 4) a_nil)) (a_cons (x_var 5) a_nil))))))))
theorem k__law_all_levels (T : Tx K mg) : Known P w K mg base 1 "_law_all_levels" 1 F__law_all_levels :=
  known_mk T.d__law_all_levels T.g__law_all_levels sc__law_all_levels rfl rfl (fun _ _ _ _ _ _ us hl => match us, hl with | [_], _ => rfl) fun cdv A outer s H E hr =>
    (s_cons (s_set 1 sc__law_all_levels.nd (x_L (l_lst (a_cons (x_tup a_nil) a_nil))))
    (s_cons (s_for PassesOwn.never rfl (i_tup (x_var 0)) (g_name 2 sc__law_all_levels.nd) (s_cons (s_set 3 sc__law_all_levels.nd (x_L (l_lst a_nil)))
    (s_cons (s_for PassesOwn.never rfl (i_list (x_var 1)) (g_name 4 sc__law_all_levels.nd) (s_one (s_set 3 sc__law_all_levels.nd (x_L (l_cat (x_var 3) (x_L (l_lc rfl sc__law_all_levels.nd (i_range1 rfl T.n_range (a_cons (x_bin od_add (x_var 2) x_int) a_nil)) (blkOk_by (own := [("level", 5)]) (N := N__law_all_levels) (sc := defScope s__law_all_levels) (by decide +kernel)) (fun _ _ _ _ _ => (g_name 5 sc__law_all_levels.nd)) (fun _ _ _ _ _ => q_nil) (fun _ _ _ _ _ => (x_bin od_add (x_var 4) (x_tup (a_cons (x_var 5) a_nil)))))))))))
    (s_one (s_set 1 sc__law_all_levels.nd (x_var 3))))))
    (s_one (s_ret (x_var 1)))))
theorem k__law_formula (T : Tx K mg) : Known P w K mg base 1 "_law_formula" 3 F__law_formula :=
  known_mk T.d__law_formula T.g__law_formula sc__law_formula rfl rfl (fun _ _ _ _ _ _ us hl => match us, hl with | [_, _, _], _ => rfl) fun cdv A outer s H E hr =>
    (s_cons (s_setLc 3 rfl sc__law_formula.nd (sw_true rfl rfl rfl (by decide +kernel)) (i_range1 rfl T.n_range (a_cons (x_callB cd_len rfl T.n_len PySem.boot_len (a_cons (x_var 0) a_nil)) a_nil)) (blkOk_by (own := [("place", 6)]) (N := N__law_formula) (sc := defScope s__law_formula) (by decide +kernel)) (fun _ _ _ _ _ => (g_name 6 sc__law_formula.nd)) (fun _ _ _ _ _ => (q_one (t_cmp od_gt (x_ix (x_var 2) (x_var 6) (fun _ _ => rfl)) (x_ix (x_var 1) (x_var 6) (fun _ _ => rfl)) (nomark _)))) (fun _ _ _ _ _ => (x_var 6))) (s_frz 3 (s_cons (s_set 4 sc__law_formula.nd (x_if (t_cmp (od_ne hr.units) (x_var 3) (x_L (l_lst a_nil)) (nomark _)) (x_ix (x_var 3) (x_neg x_int) (fun _ _ => rfl)) (x_bin od_sub x_int x_int)))
    (s_cons (s_set 5 sc__law_formula.nd (x_callTy cd_int rfl T.n_int (by decide +kernel) (a_cons (x_cmp (od_ne hr.units) (x_var 3) (x_L (l_lst a_nil)) (nomark _)) a_nil)))
    (s_cons (s_for PassesOwn.never rfl (i_range1 rfl T.n_range (a_cons (x_callB cd_len rfl T.n_len PySem.boot_len (a_cons (x_var 0) a_nil)) a_nil)) (g_name 6 sc__law_formula.nd) (s_one (s_if (PW.pt (w_or (PW.pt (w_and (t_cmp od_lt (x_var 6) (x_var 4) (nomark _)) (pw_and1 (t_cmp od_lt (x_ix (x_var 2) (x_var 6) (fun _ _ => rfl)) (x_ix (x_var 0) (x_var 6) (fun _ _ => rfl)) (nomark _))))) (pw_or1 (PW.pt (w_and (t_cmp od_gt (x_var 6) (x_var 4) (nomark _)) (pw_and1 (t_cmp od_lt (x_ix (x_var 2) (x_var 6) (fun _ _ => rfl)) (x_ix (x_var 1) (x_var 6) (fun _ _ => rfl)) (nomark _)))))))) (s_one (s_set 5 sc__law_formula.nd (x_bin od_add (x_var 5) x_int))) s_nil)))
    (s_one (s_ret (x_var 5))))))))
theorem k_fewest_steps (T : Tx K mg) : Known P w K mg base 2 "fewest_steps" 3 F_fewest_steps :=
  known_mk T.d_fewest_steps T.g_fewest_steps sc_fewest_steps rfl rfl (fun _ _ _ _ _ _ us hl => match us, hl with | [_, _, _], _ => rfl) fun cdv A outer s H E hr =>
    (s_one (s_ret (x_callB cd_len rfl T.n_len PySem.boot_len (a_cons (x_fn (k_shortest_script T) hr (a_cons (x_var 0) (a_cons (x_var 1) (a_cons (x_var 2) a_nil))) (ln_cons (ln_cons (ln_cons ln_nil)))) a_nil))))
theorem k__law_digits (T : Tx K mg) : Known P w K mg base 2 "_law_digits" 4 F__law_digits :=
  known_mk T.d__law_digits T.g__law_digits sc__law_digits rfl rfl (fun _ _ _ _ _ _ us hl => match us, hl with | [_, _, _, _], _ => rfl) fun cdv A outer s H E hr =>
    (s_cons (s_set 4 sc__law_digits.nd (x_tup (a_cons x_int (a_cons x_int (a_cons x_int (a_cons x_int (a_cons x_int (a_cons x_int (a_cons x_int (a_cons x_int a_nil))))))))))
    (s_cons (s_set 5 sc__law_digits.nd (x_fn (k__law_cell T) hr (a_cons (x_var 0) (a_cons (x_var 1) a_nil)) (ln_cons (ln_cons ln_nil))))
    (s_cons (s_set 6 sc__law_digits.nd (x_if (t_cmp od_ge (x_var 5) (x_bin od_pow x_int x_int) (nomark _)) (x_var 5) x_int))
    (s_cons (s_own 7 sc__law_digits.nd (l_lst a_nil))
    (s_cons (s_for PassesOwn.never rfl (i_range1 rfl T.n_range (a_cons (x_var 2) a_nil)) (g_name 8 sc__law_digits.nd) (s_cons (s_set 9 sc__law_digits.nd (x_bin od_mul (x_bin od_mod (x_var 5) (x_ix (x_var 4) (x_bin od_mod (x_var 8) x_int) (fun _ _ => rfl))) (x_bin od_add x_int (x_bin od_mul (x_bin od_mul x_int (x_var 8)) (x_var 8)))))
    (s_cons (s_set 9 sc__law_digits.nd (x_bin od_add (x_bin od_add (x_var 9) (x_bin od_mul (x_bin od_mul x_int (x_bin od_add (x_var 8) x_int)) (x_bin od_add (x_var 8) x_int))) (x_bin od_mul x_int (x_var 1))))
    (s_cons (s_set 9 sc__law_digits.nd (x_bin od_mod (x_var 9) (x_ix (x_var 4) (x_bin od_mod (x_bin od_add (x_bin od_mul x_int (x_var 8)) (x_var 1)) x_int) (fun _ _ => rfl))))
    (s_cons (s_set 9 sc__law_digits.nd (x_bin od_mod (x_bin od_mul (x_bin od_mul (x_var 9) (x_var 9)) (x_var 9)) (x_ix (x_var 4) (x_bin od_mod (x_bin od_add (x_var 8) x_int) x_int) (fun _ _ => rfl))))
    (s_cons (s_if (t_cmp od_gt (x_var 6) x_int (nomark _)) (s_one (s_set 9 sc__law_digits.nd (x_var 6))) s_nil)
    (s_cons (s_app 7 (x_bin od_mod (x_var 9) (x_var 3)))
    (s_one (s_set 6 sc__law_digits.nd (x_bin od_div (x_var 6) (x_var 3)))))))))))
    (s_one (s_retO 7)))))))
theorem k__law_search (T : Tx K mg) : Known P w K mg base 2 "_law_search" 2 F__law_search :=
  known_mk T.d__law_search T.g__law_search sc__law_search rfl rfl (fun _ _ _ _ _ _ us hl => match us, hl with | [_, _], _ => rfl) fun cdv A outer s H E hr =>
    (s_cons (s_parD 2 3 4 rfl sc__law_search.nd (d_disp1 (u0 hr) (x_var 1) x_int) (x_L (l_lst (a_cons (x_var 1) a_nil))) x_int)
    (s_cons (s_while 64 PassesOwn.never (t_cmp (od_ne hr.units) (x_var 3) (x_L (l_lst a_nil)) (nomark _)) (s_cons (s_set 4 sc__law_search.nd (x_bin od_add (x_var 4) x_int))
    (s_cons (s_own 5 sc__law_search.nd (l_lst a_nil))
    (s_cons (s_for PassesOwn.never rfl (i_list (x_var 3)) (g_name 6 sc__law_search.nd) (s_cons (s_setLc 7 rfl sc__law_search.nd (sw_true rfl rfl rfl (by decide +kernel)) (i_range2 rfl T.n_range (a_cons x_int (a_cons (x_bin od_add (x_callB (cd_sum rfl) rfl T.n_sum (by decide +kernel) (a_cons (x_var 0) a_nil)) x_int) a_nil))) (blkOk_by (own := [("amount", 10)]) (N := N__law_search) (sc := defScope s__law_search) (by decide +kernel)) (fun _ _ _ _ _ => (g_name 10 sc__law_search.nd)) (fun _ _ _ _ _ => q_nil) (fun _ _ _ _ _ => (x_ix (x_fn (k__law_run T) hr (a_cons (x_var 0) (a_cons (x_var 6) (a_cons (x_tup (a_cons (x_tup (a_cons x_str (a_cons (x_var 10) a_nil))) a_nil)) a_nil))) (ln_cons (ln_cons (ln_cons ln_nil)))) x_int (fun _ _ => rfl)))) (s_frz 7 (s_cons (s_for PassesOwn.never rfl (i_range1 rfl T.n_range (a_cons (x_callB cd_len rfl T.n_len PySem.boot_len (a_cons (x_var 0) a_nil)) a_nil)) (g_name 8 sc__law_search.nd) (s_one (s_set 7 sc__law_search.nd (x_L (l_cat (x_var 7) (x_L (l_lc rfl sc__law_search.nd (i_range1 rfl T.n_range (a_cons (x_ix (x_var 6) (x_var 8) (fun _ _ => rfl)) a_nil)) (blkOk_by (own := [("level", 11)]) (N := N__law_search) (sc := defScope s__law_search) (by decide +kernel)) (fun _ _ _ _ _ => (g_name 11 sc__law_search.nd)) (fun _ _ _ _ _ => q_nil) (fun _ _ _ _ _ => (x_bin od_add (x_bin od_add (x_slT (x_var 6) o_none (o_some (x_var 8))) (x_tup (a_cons (x_var 11) a_nil))) (x_slT (x_var 6) (o_some (x_bin od_add (x_var 8) x_int)) o_none))))))))))
    (s_one (s_for PassesOwn.never rfl (i_list (x_var 7)) (g_name 9 sc__law_search.nd) (s_one (s_if (t_dctNotIn 2 (u1 hr) (x_var 9) rfl) (s_cons (s_dput 2 (u1 hr) (x_var 9) (x_var 4))
    (s_one (s_app 5 (x_var 9)))) s_nil))))))))
    (s_frz 5 (s_one (s_set 3 sc__law_search.nd (x_var 5))))))))
    (s_one (s_retDct 2))))
theorem k__law_led (T : Tx K mg) : Known P w K mg base 3 "_law_led" 4 F__law_led :=
  known_mk T.d__law_led T.g__law_led sc__law_led rfl rfl (fun _ _ _ _ _ _ us hl => match us, hl with | [_, _, _, _], _ => rfl) fun cdv A outer s H E hr =>
    (s_cons (s_set 4 sc__law_led.nd (x_fn (k_shortest_script T) hr (a_cons (x_var 0) (a_cons (x_var 1) (a_cons (x_var 2) a_nil))) (ln_cons (ln_cons (ln_cons ln_nil)))))
    (s_cons (s_if (PW.pt (w_or (t_not (t_val (x_isI (T := "tuple") (by decide +kernel) rfl T.n_isinstance rfl T.n_tuple (x_var 4)))) (w_or (t_cmp (od_ne hr.units) (x_callB cd_len rfl T.n_len PySem.boot_len (a_cons (x_var 4) a_nil)) (x_var 3) (nomark _)) (pw_or1 (t_cmp (od_ne hr.units) (x_fn (k_fewest_steps T) hr (a_cons (x_var 0) (a_cons (x_var 1) (a_cons (x_var 2) a_nil))) (ln_cons (ln_cons (ln_cons ln_nil)))) (x_var 3) (nomark _)))))) (s_one (s_ret x_bl)) s_nil)
    (s_cons (s_for PassesOwn.never rfl (i_tup (x_var 4)) (g_name 5 sc__law_led.nd) (s_one (s_if (PW.pt (w_or (t_cmp od_notInT (x_ix (x_var 5) x_int (fun _ _ => rfl)) (x_tup (a_cons x_str (a_cons x_str a_nil))) rfl) (w_or (t_cmp (od_ne hr.units) (x_callB cd_len rfl T.n_len PySem.boot_len (a_cons (x_var 5) a_nil)) (x_if (t_cmp (od_eq hr.units) (x_ix (x_var 5) x_int (fun _ _ => rfl)) x_str (nomark _)) x_int x_int) (nomark _)) (pw_or1 (t_cmp od_lt (x_ix (x_var 5) (x_neg x_int) (fun _ _ => rfl)) x_int (nomark _)))))) (s_one (s_ret x_bl)) s_nil)))
    (s_cons (s_set 6 sc__law_led.nd (x_fn (k__law_run T) hr (a_cons (x_var 0) (a_cons (x_var 1) (a_cons (x_var 4) a_nil))) (ln_cons (ln_cons (ln_cons ln_nil)))))
    (s_one (s_ret (x_and (x_cmp od_isNot (x_var 6) x_non (nomark _)) (x_one (x_cmp (od_eq hr.units) (x_ix (x_var 6) x_int (fun _ _ => rfl)) (x_var 2) (nomark _))))))))))
theorem k_law (T : Tx K mg) : Known P w K mg base 4 "law" 1 F_law :=
  known_mk T.d_law T.g_law sc_law rfl rfl (fun _ _ _ _ _ _ us hl => match us, hl with | [_], _ => rfl) fun cdv A outer s H E hr =>
    (s_cons (s_for PassesOwn.never rfl (i_range1 rfl T.n_range (a_cons x_int a_nil)) (g_name 1 sc_law.nd) (s_cons (s_set 2 sc_law.nd (x_L (l_fn (k__law_digits T) hr (a_cons (x_var 0) (a_cons (x_var 1) (a_cons x_int (a_cons x_int a_nil)))) (ln_cons (ln_cons (ln_cons (ln_cons ln_nil)))))))
    (s_cons (s_set 3 sc_law.nd (x_fn (k__law_caps T) hr (a_cons (x_var 2) (a_cons x_int (a_cons x_int a_nil))) (ln_cons (ln_cons (ln_cons ln_nil)))))
    (s_cons (s_set 4 sc_law.nd (x_fn (k__law_levels T) hr (a_cons (x_L (l_sl (x_var 2) (o_some x_int) o_none)) (a_cons (x_var 3) a_nil)) (ln_cons (ln_cons ln_nil))))
    (s_cons (s_dct 5 sc_law.nd (d_fn (k__law_search T) hr (a_cons (x_var 3) (a_cons (x_var 4) a_nil)) (ln_cons (ln_cons ln_nil))))
    (s_cons (s_for PassesOwn.never rfl (i_list (x_fn (k__law_all_levels T) hr (a_cons (x_var 3) a_nil) (ln_cons ln_nil))) (g_name 6 sc_law.nd) (s_one (s_if (PW.pt (w_or (t_cmp (od_ne hr.units) (x_dctIx 5 (u1 hr) (x_var 6) (fun _ _ => rfl)) (x_fn (k__law_formula T) hr (a_cons (x_var 3) (a_cons (x_var 4) (a_cons (x_var 6) a_nil))) (ln_cons (ln_cons (ln_cons ln_nil)))) (nomark _)) (pw_or1 (t_not (t_val (x_fn (k__law_led T) hr (a_cons (x_var 3) (a_cons (x_var 4) (a_cons (x_var 6) (a_cons (x_dctIx 5 (u1 hr) (x_var 6) (fun _ _ => rfl)) a_nil)))) (ln_cons (ln_cons (ln_cons (ln_cons ln_nil)))))))))) (s_one (s_ret x_bl)) s_nil)))
    (s_cons (s_set 3 sc_law.nd (x_fn (k__law_caps T) hr (a_cons (x_L (l_sl (x_var 2) (o_some x_int) o_none)) (a_cons x_int (a_cons x_int a_nil))) (ln_cons (ln_cons (ln_cons ln_nil)))))
    (s_cons (s_set 4 sc_law.nd (x_fn (k__law_levels T) hr (a_cons (x_L (l_sl (x_var 2) (o_some x_int) o_none)) (a_cons (x_var 3) a_nil)) (ln_cons (ln_cons ln_nil))))
    (s_cons (s_set 6 sc_law.nd (x_fn (k__law_levels T) hr (a_cons (x_L (l_sl (x_var 2) (o_some x_int) o_none)) (a_cons (x_var 3) a_nil)) (ln_cons (ln_cons ln_nil))))
    (s_one (s_for PassesOwn.never rfl (i_tup (x_tup (a_cons (x_var 6) (a_cons (x_var 3) (a_cons (x_bin od_mulT (x_tup (a_cons x_int a_nil)) (x_callB cd_len rfl T.n_len PySem.boot_len (a_cons (x_var 3) a_nil))) (a_cons (x_var 4) (a_cons (x_bin od_add (x_slT (x_var 6) o_none (o_some x_int)) (x_slT (x_var 4) (o_some x_int) o_none)) a_nil))))))) (g_name 7 sc_law.nd) (s_one (s_if (t_not (t_val (x_fn (k__law_led T) hr (a_cons (x_var 3) (a_cons (x_var 4) (a_cons (x_var 7) (a_cons (x_fn (k__law_formula T) hr (a_cons (x_var 3) (a_cons (x_var 4) (a_cons (x_var 7) a_nil))) (ln_cons (ln_cons (ln_cons ln_nil)))) a_nil)))) (ln_cons (ln_cons (ln_cons (ln_cons ln_nil))))))) (s_one (s_ret x_bl)) s_nil)))))))))))))
    (s_one (s_ret (x_and (x_cmp (od_eq hr.units) (x_fn (k_fewest_steps T) hr (a_cons (x_tup (a_cons x_int (a_cons x_int a_nil))) (a_cons (x_tup (a_cons x_int (a_cons x_int a_nil))) (a_cons (x_tup (a_cons x_int (a_cons x_int a_nil))) a_nil))) (ln_cons (ln_cons (ln_cons ln_nil)))) x_int (nomark _)) (x_one (x_cmp (od_eq hr.units) (x_fn (k_shortest_script T) hr (a_cons (x_tup (a_cons x_int (a_cons x_int a_nil))) (a_cons (x_tup (a_cons x_int (a_cons x_int a_nil))) (a_cons (x_tup (a_cons x_int (a_cons x_int a_nil))) a_nil))) (ln_cons (ln_cons (ln_cons ln_nil)))) (x_tup (a_cons (x_tup (a_cons x_str (a_cons x_int a_nil))) a_nil)) (nomark _)))))))
end
/-! ### the head -/
def dd_fewest_steps : He.DefD := ⟨("fewest_steps", none), "fewest_steps", "fewest_steps", defArgs s_fewest_steps, defBody s_fewest_steps, defScope s_fewest_steps, [], []⟩
def dd_shortest_script : He.DefD := ⟨("shortest_script", none), "shortest_script", "shortest_script", defArgs s_shortest_script, defBody s_shortest_script, defScope s_shortest_script, [], []⟩
def dd__law_cell : He.DefD := ⟨("_law_cell", none), "_law_cell", "_law_cell", defArgs s__law_cell, defBody s__law_cell, defScope s__law_cell, [], []⟩
def dd__law_digits : He.DefD := ⟨("_law_digits", none), "_law_digits", "_law_digits", defArgs s__law_digits, defBody s__law_digits, defScope s__law_digits, [], []⟩
def dd__law_caps : He.DefD := ⟨("_law_caps", none), "_law_caps", "_law_caps", defArgs s__law_caps, defBody s__law_caps, defScope s__law_caps, [], []⟩
def dd__law_levels : He.DefD := ⟨("_law_levels", none), "_law_levels", "_law_levels", defArgs s__law_levels, defBody s__law_levels, defScope s__law_levels, [], []⟩
def dd__law_run : He.DefD := ⟨("_law_run", none), "_law_run", "_law_run", defArgs s__law_run, defBody s__law_run, defScope s__law_run, [], []⟩
def dd__law_all_levels : He.DefD := ⟨("_law_all_levels", none), "_law_all_levels", "_law_all_levels", defArgs s__law_all_levels, defBody s__law_all_levels, defScope s__law_all_levels, [], []⟩
def dd__law_search : He.DefD := ⟨("_law_search", none), "_law_search", "_law_search", defArgs s__law_search, defBody s__law_search, defScope s__law_search, [], []⟩
def dd__law_formula : He.DefD := ⟨("_law_formula", none), "_law_formula", "_law_formula", defArgs s__law_formula, defBody s__law_formula, defScope s__law_formula, [], []⟩
def dd__law_led : He.DefD := ⟨("_law_led", none), "_law_led", "_law_led", defArgs s__law_led, defBody s__law_led, defScope s__law_led, [], []⟩
def dd_law : He.DefD := ⟨("law", none), "law", "law", defArgs s_law, defBody s_law, defScope s_law, [], []⟩
def fn : List He.DefD := [dd_fewest_steps, dd_shortest_script, dd__law_cell, dd__law_digits, dd__law_caps, dd__law_levels, dd__law_run, dd__law_all_levels, dd__law_search, dd__law_formula, dd__law_led, dd_law]
def fa : List He.Fa := [.glo "fewest_steps", .glo "shortest_script", .glo "_law_cell", .glo "_law_digits", .glo "_law_caps", .glo "_law_levels", .glo "_law_run", .glo "_law_all_levels", .glo "_law_search", .glo "_law_formula", .glo "_law_led", .glo "law", .free "enumerate", .free "int", .free "isinstance", .free "len", .free "list", .free "range", .free "sum", .free "tuple", .free "zip"]
abbrev R : PySem.W.OpenRow := PySem.W.OpenLaw.row PySem.Challenge.rw_fillorder_k22_whole_fewest_steps
abbrev hk : PySem.W.Hook := He.hookD 4 fa fn
def ob (s : PySem.W.SharedT) : He.AlD := He.obsDG 4 fa fn (HandSHeadRun.getT s)
theorem ob_eq (s : PySem.W.SharedT) : ob s = hk.obs s.abs := He.obsDG_eq (HandSHeadRun.getT_eq s)
theorem run (w : World) : HandSHeadRun.RunEq R (PySem.W.view R.prog [13]) hk ob 4000 ["fewest_steps", "shortest_script", "_law_cell", "_law_digits", "_law_caps", "_law_levels", "_law_run", "_law_all_levels", "_law_search", "_law_formula", "_law_led"] w := by
  intro os
  kernel_rfl
theorem tx {K : PySem.W.Frag} {h : Heap} {mg : Str → Option Value} (X : K.In h) (G : h.Ns mainGlobals mg) (c : He.SaysD fa fn K) : Tx K mg where
  d_fewest_steps := c.def_ 0 (d := dd_fewest_steps) rfl
  g_fewest_steps := He.glo_ok X G (c.fact 0 (f := .glo "fewest_steps") rfl)
  d_shortest_script := c.def_ 1 (d := dd_shortest_script) rfl
  g_shortest_script := He.glo_ok X G (c.fact 1 (f := .glo "shortest_script") rfl)
  d__law_cell := c.def_ 2 (d := dd__law_cell) rfl
  g__law_cell := He.glo_ok X G (c.fact 2 (f := .glo "_law_cell") rfl)
  d__law_digits := c.def_ 3 (d := dd__law_digits) rfl
  g__law_digits := He.glo_ok X G (c.fact 3 (f := .glo "_law_digits") rfl)
  d__law_caps := c.def_ 4 (d := dd__law_caps) rfl
  g__law_caps := He.glo_ok X G (c.fact 4 (f := .glo "_law_caps") rfl)
  d__law_levels := c.def_ 5 (d := dd__law_levels) rfl
  g__law_levels := He.glo_ok X G (c.fact 5 (f := .glo "_law_levels") rfl)
  d__law_run := c.def_ 6 (d := dd__law_run) rfl
  g__law_run := He.glo_ok X G (c.fact 6 (f := .glo "_law_run") rfl)
  d__law_all_levels := c.def_ 7 (d := dd__law_all_levels) rfl
  g__law_all_levels := He.glo_ok X G (c.fact 7 (f := .glo "_law_all_levels") rfl)
  d__law_search := c.def_ 8 (d := dd__law_search) rfl
  g__law_search := He.glo_ok X G (c.fact 8 (f := .glo "_law_search") rfl)
  d__law_formula := c.def_ 9 (d := dd__law_formula) rfl
  g__law_formula := He.glo_ok X G (c.fact 9 (f := .glo "_law_formula") rfl)
  d__law_led := c.def_ 10 (d := dd__law_led) rfl
  g__law_led := He.glo_ok X G (c.fact 10 (f := .glo "_law_led") rfl)
  d_law := c.def_ 11 (d := dd_law) rfl
  g_law := He.glo_ok X G (c.fact 11 (f := .glo "law") rfl)
  n_enumerate := He.free_ok X G (c.fact 12 (f := .free "enumerate") rfl)
  n_int := He.free_ok X G (c.fact 13 (f := .free "int") rfl)
  n_isinstance := He.free_ok X G (c.fact 14 (f := .free "isinstance") rfl)
  n_len := He.free_ok X G (c.fact 15 (f := .free "len") rfl)
  n_list := He.free_ok X G (c.fact 16 (f := .free "list") rfl)
  n_range := He.free_ok X G (c.fact 17 (f := .free "range") rfl)
  n_sum := He.free_ok X G (c.fact 18 (f := .free "sum") rfl)
  n_tuple := He.free_ok X G (c.fact 19 (f := .free "tuple") rfl)
  n_zip := He.free_ok X G (c.fact 20 (f := .free "zip") rfl)
theorem facts {P : Program} {w : World} {K : PySem.W.Frag} {h : Heap} {mg : Str → Option Value} {f : Addr} (X : K.In h) (G : h.Ns mainGlobals mg) (hfa : mg ("law" : Str) = some (.ref f)) (c : He.SaysD fa fn K) :
    ∃ fd : FuncData, (∀ (s : Shared) (v : Value), BindsTo s fd ⟨[v], []⟩ [("script", v)]) ∧ ∀ base : Heap, K.In base → base.Ns mainGlobals mg → FnOk P w K mg base CX0 4 f fd ["script"] (spD K 1 F_law) := by
  have T := tx X G c
  obtain ⟨fd, F⟩ := T.d_law
  have e := hfa.symm.trans T.g_law
  cases e
  have b := FunD.bindsA (ps := ["script"]) F fun _ _ _ _ _ _ us hl => match us, hl with | [_], _ => rfl
  refine ⟨fd, fun s v => b s [v] rfl, fun base _ _ => ?_⟩
  exact fnOk_mk F sc_law rfl rfl fun cdv A outer s H E hr =>
    (s_cons (s_for PassesOwn.never rfl (i_range1 rfl T.n_range (a_cons x_int a_nil)) (g_name 1 sc_law.nd) (s_cons (s_set 2 sc_law.nd (x_L (l_fn (k__law_digits T) hr (a_cons (x_var 0) (a_cons (x_var 1) (a_cons x_int (a_cons x_int a_nil)))) (ln_cons (ln_cons (ln_cons (ln_cons ln_nil)))))))
    (s_cons (s_set 3 sc_law.nd (x_fn (k__law_caps T) hr (a_cons (x_var 2) (a_cons x_int (a_cons x_int a_nil))) (ln_cons (ln_cons (ln_cons ln_nil)))))
    (s_cons (s_set 4 sc_law.nd (x_fn (k__law_levels T) hr (a_cons (x_L (l_sl (x_var 2) (o_some x_int) o_none)) (a_cons (x_var 3) a_nil)) (ln_cons (ln_cons ln_nil))))
    (s_cons (s_dct 5 sc_law.nd (d_fn (k__law_search T) hr (a_cons (x_var 3) (a_cons (x_var 4) a_nil)) (ln_cons (ln_cons ln_nil))))
    (s_cons (s_for PassesOwn.never rfl (i_list (x_fn (k__law_all_levels T) hr (a_cons (x_var 3) a_nil) (ln_cons ln_nil))) (g_name 6 sc_law.nd) (s_one (s_if (PW.pt (w_or (t_cmp (od_ne hr.units) (x_dctIx 5 (u1 hr) (x_var 6) (fun _ _ => rfl)) (x_fn (k__law_formula T) hr (a_cons (x_var 3) (a_cons (x_var 4) (a_cons (x_var 6) a_nil))) (ln_cons (ln_cons (ln_cons ln_nil)))) (nomark _)) (pw_or1 (t_not (t_val (x_fn (k__law_led T) hr (a_cons (x_var 3) (a_cons (x_var 4) (a_cons (x_var 6) (a_cons (x_dctIx 5 (u1 hr) (x_var 6) (fun _ _ => rfl)) a_nil)))) (ln_cons (ln_cons (ln_cons (ln_cons ln_nil)))))))))) (s_one (s_ret x_bl)) s_nil)))
    (s_cons (s_set 3 sc_law.nd (x_fn (k__law_caps T) hr (a_cons (x_L (l_sl (x_var 2) (o_some x_int) o_none)) (a_cons x_int (a_cons x_int a_nil))) (ln_cons (ln_cons (ln_cons ln_nil)))))
    (s_cons (s_set 4 sc_law.nd (x_fn (k__law_levels T) hr (a_cons (x_L (l_sl (x_var 2) (o_some x_int) o_none)) (a_cons (x_var 3) a_nil)) (ln_cons (ln_cons ln_nil))))
    (s_cons (s_set 6 sc_law.nd (x_fn (k__law_levels T) hr (a_cons (x_L (l_sl (x_var 2) (o_some x_int) o_none)) (a_cons (x_var 3) a_nil)) (ln_cons (ln_cons ln_nil))))
    (s_one (s_for PassesOwn.never rfl (i_tup (x_tup (a_cons (x_var 6) (a_cons (x_var 3) (a_cons (x_bin od_mulT (x_tup (a_cons x_int a_nil)) (x_callB cd_len rfl T.n_len PySem.boot_len (a_cons (x_var 3) a_nil))) (a_cons (x_var 4) (a_cons (x_bin od_add (x_slT (x_var 6) o_none (o_some x_int)) (x_slT (x_var 4) (o_some x_int) o_none)) a_nil))))))) (g_name 7 sc_law.nd) (s_one (s_if (t_not (t_val (x_fn (k__law_led T) hr (a_cons (x_var 3) (a_cons (x_var 4) (a_cons (x_var 7) (a_cons (x_fn (k__law_formula T) hr (a_cons (x_var 3) (a_cons (x_var 4) (a_cons (x_var 7) a_nil))) (ln_cons (ln_cons (ln_cons ln_nil)))) a_nil)))) (ln_cons (ln_cons (ln_cons (ln_cons ln_nil))))))) (s_one (s_ret x_bl)) s_nil)))))))))))))
    (s_one (s_ret (x_and (x_cmp (od_eq hr.units) (x_fn (k_fewest_steps T) hr (a_cons (x_tup (a_cons x_int (a_cons x_int a_nil))) (a_cons (x_tup (a_cons x_int (a_cons x_int a_nil))) (a_cons (x_tup (a_cons x_int (a_cons x_int a_nil))) a_nil))) (ln_cons (ln_cons (ln_cons ln_nil)))) x_int (nomark _)) (x_one (x_cmp (od_eq hr.units) (x_fn (k_shortest_script T) hr (a_cons (x_tup (a_cons x_int (a_cons x_int a_nil))) (a_cons (x_tup (a_cons x_int (a_cons x_int a_nil))) (a_cons (x_tup (a_cons x_int (a_cons x_int a_nil))) a_nil))) (ln_cons (ln_cons (ln_cons ln_nil)))) (x_tup (a_cons (x_tup (a_cons x_str (a_cons x_int a_nil))) a_nil)) (nomark _)))))))
end Lw
open PySem PySem.W PySem.Calls PyProof.Rows
set_option maxRecDepth 100000 in
set_option maxHeartbeats 0 in
theorem PySem.Challenge.cw_fillorder_k22_whole_fewest_steps_holds : PySem.Challenge.rw_fillorder_k22_whole_fewest_steps.Holds := by
  w_on; o_law
  refine HandSHeadRun.head_any (r := OpenLaw.row PySem.Challenge.rw_fillorder_k22_whole_fewest_steps) (q := view (OpenLaw.row PySem.Challenge.rw_fillorder_k22_whole_fewest_steps).prog [13]) (H := Lw.hk) (ob := Lw.ob) (M := 4000) (loose := ["fewest_steps", "shortest_script", "_law_cell", "_law_digits", "_law_caps", "_law_levels", "_law_run", "_law_all_levels", "_law_search", "_law_formula", "_law_led"]) (d := HandSHeadRun.topDef (OpenLaw.row PySem.Challenge.rw_fillorder_k22_whole_fewest_steps).prog 13) (kwd := []) Lw.ob_eq
    (by kernel_rfl) (fun s => by kernel_rfl) Lw.run (by kernel_rfl) (by kernel_rfl) (by kernel_rfl) (by rfl) (by first | assumption | decide +kernel) (by decide +kernel) ⟨rfl, rfl, rfl, rfl, rfl, by decide +kernel⟩ ?hw ?hc
  case hw => w_witness2
  case hc =>
    refine L2.walk_ofE (l := PySem.Challenge.rw_fillorder_k22_whole_fewest_steps) (n := 63) (k := 4) (x := "script") (CX := L2.CX0) rfl (by decide) (by kernel_rfl) ⟨rfl, by decide, by decide⟩ ?F (fun _ _ _ _ z => z)
    intro w mg fa h Y G hmg0
    obtain ⟨K, KX, c⟩ := Y
    have hmg : mg ("law" : PySem.Str) = some (.ref fa) := by
      have e : (HandSHeadRun.topDef (OpenLaw.row PySem.Challenge.rw_fillorder_k22_whole_fewest_steps).prog 13).name = ("law" : PySem.Str) := by kernel_rfl
      rw [← e]
      exact hmg0
    obtain ⟨fd, hb, hF⟩ := Lw.facts (P := (PySem.Challenge.rw_fillorder_k22_whole_fewest_steps).prog) (w := w) KX G hmg c
    exact ⟨K, fd, Fi.spD K 1 Lw.F_law, KX, hb, fun H a ns hl _ hS => Fi.law_sp hS (Lw.law_true ns hl), hF⟩
