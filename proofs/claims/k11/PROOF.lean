import PyProof.Rows.All
import Wide.All
import OpenK.AllK
import Wide.FinOn
import HandS.ForMost
import HandS.Walk
import HandS.Zip
import HandS.TupAny
import HandS.TupLe
import KE.GoesMore
import KE.GoesZip
import KE.GoesEnum
import HandS.More
import HandS.WordsExc
import HandS.Defaults
import HandS.Head0
import HandS.Head1
import HandS.Head2
import HandS.HeadEnd
import HandS.HeadHook1
import HandS.HeadHook2
import HandS.Deep
import HandS.IsInst
import HandS.SortInts
import HandS.Style
import HandS.TupMul
import HandS.Conv
import HandS.ForExc
import HandS.Property
import HandS.MakeKw
import HandS.Star
import HandS.HotCalls
import HandS.Lambda
import HandS.ClsMeth
import KE.KSuper
import HandS.TryOnly
import HandS.ExcIs
import HandS.HeadHook4
import HandS.HeadWalk
import PyProof.Rows.SetFrom
import HandS.OwnEq
import KE.KBoundM
import HandS.Dict
import PySem.Challenge.RW_fillorder_k11_whole_moved_envelopes
set_option Elab.async false
set_option linter.all false
set_option maxRecDepth 100000
set_option maxHeartbeats 4000000
namespace Fi
open PySem L2

theorem sqT_up {K : PySem.W.Frag} {H H' : Hp} {a : Addr} {xs : List V} (e : Same H H') (h : SqT K H a xs) : SqT K H' a xs := by
  rcases h with h | h
  · rcases h with h | ⟨o, h⟩
    · exact .inl (.inl (e a _ h))
    · exact .inl (.inr ⟨o, e a _ h⟩)
  · exact .inr h
mutual
theorem Dp_up {K : PySem.W.Frag} {H H' : Hp} (e : Same H H') : ∀ {v : V} {d : PyData}, Dp K H v d → Dp K H' v d
  | _, _, .non => .non
  | _, _, .bl b => .bl b
  | _, _, .int i => .int i
  | _, _, .str x => .str x
  | _, _, .lst hs ha => .lst (e.seq hs) (DpAll_up e ha)
  | _, _, .tup hs ha => .tup (sqT_up e hs) (DpAll_up e ha)
theorem DpAll_up {K : PySem.W.Frag} {H H' : Hp} (e : Same H H') : ∀ {vs : List V} {ds : List PyData}, DpAll K H vs ds → DpAll K H' vs ds
  | _, _, .nil => .nil
  | _, _, .cons h t => .cons (Dp_up e h) (DpAll_up e t)
end
end Fi
namespace L2
open PySem
section
variable {K : PySem.W.Frag} {H : Hp}
theorem DpAll.len : ∀ {vs : List V} {ds : List PyData}, DpAll K H vs ds → vs.length = ds.length
  | _, _, .nil => rfl
  | _, _, .cons _ t => by rw [List.length_cons, List.length_cons, DpAll.len t]
theorem DpAll.get : ∀ {vs : List V} {ds : List PyData} {i : Nat} {v : V}, DpAll K H vs ds → vs[i]? = some v → ∃ d, ds[i]? = some d ∧ Dp K H v d
  | _, _, _, _, .nil, e => by simp at e
  | _, _, 0, _, .cons h _, e => by
    simp at e
    subst e
    exact ⟨_, rfl, h⟩
  | _, _, i + 1, v, .cons _ t, e => by
    obtain ⟨d, h1, h2⟩ := DpAll.get (i := i) (v := v) t (by simpa using e)
    exact ⟨d, by simpa using h1, h2⟩
theorem DpAll.at : ∀ {vs : List V} {ds : List PyData} {i : Nat} {d : PyData}, DpAll K H vs ds → ds[i]? = some d → ∃ v, vs[i]? = some v ∧ Dp K H v d
  | _, _, _, _, .nil, e => by simp at e
  | _, _, 0, _, .cons h _, e => by
    simp at e
    subst e
    exact ⟨_, rfl, h⟩
  | _, _, i + 1, v, .cons _ t, e => by
    obtain ⟨d, h1, h2⟩ := DpAll.at (i := i) t (by simpa using e)
    exact ⟨d, by simpa using h1, h2⟩
theorem DpAll.app : ∀ {vs us : List V} {ds es : List PyData}, DpAll K H vs ds → DpAll K H us es → DpAll K H (vs ++ us) (ds ++ es)
  | _, _, _, _, .nil, h => h
  | _, _, _, _, .cons h t, q => .cons h (DpAll.app t q)
theorem DpAll.tk : ∀ {vs : List V} {ds : List PyData} (n : Nat), DpAll K H vs ds → DpAll K H (vs.take n) (ds.take n)
  | _, _, 0, _ => .nil
  | _, _, _ + 1, .nil => .nil
  | _, _, n + 1, .cons h t => .cons h (DpAll.tk n t)
theorem DpAll.dr : ∀ {vs : List V} {ds : List PyData} (n : Nat), DpAll K H vs ds → DpAll K H (vs.drop n) (ds.drop n)
  | _, _, 0, h => h
  | _, _, _ + 1, .nil => .nil
  | _, _, n + 1, .cons _ t => DpAll.dr n t
theorem DpAll.set {v : V} {d : PyData} (h : Dp K H v d) : ∀ {vs : List V} {ds : List PyData} (i : Nat), DpAll K H vs ds → DpAll K H (vs.set i v) (ds.set i d)
  | _, _, _, .nil => .nil
  | _, _, 0, .cons _ t => .cons h t
  | _, _, i + 1, .cons q t => .cons q (DpAll.set h i t)
theorem Dp.int_eq {v : V} {i : Int} (h : Dp K H v (.int i)) : v = .int i := by cases h; rfl
theorem Dp.bl_eq {v : V} {b : Bool} (h : Dp K H v (.bool b)) : v = .bl b := by cases h; rfl
theorem Dp.str_eq {v : V} {x : Str} (h : Dp K H v (.str x)) : v = .str x := by cases h; rfl
theorem Dp.non_eq {v : V} (h : Dp K H v .none) : v = .non := by cases h; rfl
theorem Dp.tup_of {v : V} {ds : List PyData} (h : Dp K H v (.tuple ds)) : ∃ a xs, v = .ref a ∧ SqT K H a xs ∧ DpAll K H xs ds := by
  cases h with
  | tup hs ha => exact ⟨_, _, rfl, hs, ha⟩
theorem Dp.lst_of {v : V} {ds : List PyData} (h : Dp K H v (.list ds)) : ∃ a xs, v = .ref a ∧ SqL K H a xs ∧ DpAll K H xs ds := by
  cases h with
  | lst hs ha => exact ⟨_, _, rfl, hs, ha⟩
theorem DpAll.ints : ∀ {ns : List Int} {vs : List V}, DpAll K H vs (ns.map PyData.int) → vs = ns.map V.int
  | [], vs, h => by cases h; rfl
  | n :: ns, vs, h => by
    cases h with
    | cons h t => rw [h.int_eq, DpAll.ints t]; rfl
theorem DpAll.bools : ∀ {ns : List Bool} {vs : List V}, DpAll K H vs (ns.map PyData.bool) → vs = ns.map V.bl
  | [], vs, h => by cases h; rfl
  | n :: ns, vs, h => by
    cases h with
    | cons h t => rw [h.bl_eq, DpAll.bools t]; rfl
theorem DpAll.one {vs : List V} {d : PyData} (h : DpAll K H vs [d]) : ∃ v, vs = [v] ∧ Dp K H v d := by
  cases h with
  | cons h t => cases t; exact ⟨_, rfl, h⟩
theorem DpAll.two {vs : List V} {d e : PyData} (h : DpAll K H vs [d, e]) : ∃ v w, vs = [v, w] ∧ Dp K H v d ∧ Dp K H w e := by
  cases h with
  | cons h t =>
    obtain ⟨w, rfl, q⟩ := t.one
    exact ⟨_, w, rfl, h, q⟩
end

end L2
namespace Fi
open PySem L2
inductive Sl where
  | val (d : PyData)
  | own (ds : List PyData)
  | dct (kvs : List (List Int × PyData))
/-- what this def alone points to -/
def Sl.hid : Sl → Bool
  | .val _ => false
  | _ => true
abbrev En := List (Option Sl)
inductive Out where
  | next (e : En) | brk (e : En) | cont (e : En) | ret (d : PyData) | retL (ds : List PyData) | retD (kvs : List (List Int × PyData))
abbrev FE := En → Option PyData
abbrev FL := En → Option (List PyData)
abbrev FT := En → Option Bool
abbrev FS := En → Option Out

/-- the heap steps on: Hf what may be pointed to, H all that is tracked -/
structure Stp (Hf H Hf' H' : Hp) : Prop where
  f : Same Hf Hf'
  i : Same Hf' H'
  h : Same H H'
  n : ∀ a o, H a = some o → Hf a = none → Hf' a = none
theorem Stp.refl {Hf H : Hp} (i : Same Hf H) : Stp Hf H Hf H := ⟨Same.refl _, i, Same.refl _, fun _ _ _ h => h⟩
theorem Stp.trans {A B C E F G : Hp} (a : Stp A B C E) (b : Stp C E F G) : Stp A B F G :=
  ⟨a.f.trans b.f, b.i, a.h.trans b.h, fun x o h1 h2 => b.n x o (a.h x o h1) (a.n x o h1 h2)⟩
theorem same_new {H : Hp} {p : Addr} {o : HO} (h : H p = none) : Same H (upd H p o) := fun b x e => by
  rw [upd_ne (ne_of_none e h)]
  exact e
theorem same_both {Hf H : Hp} {p : Addr} {o : HO} (i : Same Hf H) : Same (upd Hf p o) (upd H p o) := fun b x e => by
  by_cases hb : b = p
  · subst hb
    rw [upd_same] at e ⊢
    exact e
  · rw [upd_ne hb] at e ⊢
    exact i b x e
theorem Stp.new {Hf H : Hp} {p : Addr} {o : HO} (i : Same Hf H) (h : H p = none) : Stp Hf H (upd Hf p o) (upd H p o) :=
  ⟨same_new (i.free h), same_both i, same_new h, fun a x e q => by
    rw [upd_ne (ne_of_none e h)]
    exact q⟩
theorem Stp.hid {Hf H : Hp} {p : Addr} {o : HO} (i : Same Hf H) (h : H p = none) : Stp Hf H Hf (upd H p o) :=
  ⟨Same.refl _, i.trans (same_new h), same_new h, fun a x e q => q⟩
/-- what was hidden and new may be pointed to -/
theorem Stp.show {Hf H Hf' H' : Hp} {p : Addr} {o : HO} (s : Stp Hf H Hf' H') (h : H p = none) (h1 : Hf' p = none) (h2 : H' p = some o) : Stp Hf H (upd Hf' p o) H' :=
  ⟨s.f.trans (same_new h1), fun b x e => by
    by_cases hb : b = p
    · subst hb
      rw [upd_same] at e
      rw [h2, e]
    · rw [upd_ne hb] at e
      exact s.i b x e, s.h, fun a x e q => by
    rw [upd_ne (ne_of_none e h)]
    exact s.n a x e q⟩

def hI (ks : List Int) : Int := reduceHash (Builtin.Tuple.tupleHashOf (ks.map hashInt))
def eI (x : List Int × Addr × Value) : DictEntry := ⟨hI x.1, .ref x.2.1, x.2.2⟩
def DI (p : Addr) (xs : List (List Int × Addr × Value)) : Heap → Prop := fun h => ∃ o es ep, h.get? p = some o ∧ o.ExactDict ∧ o.data = .dict es ep ∧ es.toList = xs.map eI
def KeyOk (K : PySem.W.Frag) (Hf : Hp) (x : List Int × Addr × Value) (kv : List Int × PyData) : Prop := x.1 = kv.1 ∧ SqT K Hf x.2.1 (x.1.map V.int) ∧ ∃ w, RelV w x.2.2 ∧ Dp K Hf w kv.2
def DctOk (K : PySem.W.Frag) (Hf : Hp) (xs : List (List Int × Addr × Value)) (kvs : List (List Int × PyData)) : Prop := (xs.map (·.1)).Nodup ∧ xs.length ≤ 100000 ∧ Paired (KeyOk K Hf) xs kvs
theorem DctOk.up {K : PySem.W.Frag} {Hf Hf' : Hp} {xs : List (List Int × Addr × Value)} {kvs : List (List Int × PyData)} (h : DctOk K Hf xs kvs) (e : Same Hf Hf') : DctOk K Hf' xs kvs :=
  ⟨h.1, h.2.1, Paired.mapP h.2.2 fun _ _ z => ⟨z.1, sqT_up e z.2.1, z.2.2.imp fun _ q => ⟨q.1, Dp_up e q.2⟩⟩⟩
def SlOk (K : PySem.W.Frag) (H0 Hf H : Hp) (v : V) : Sl → Prop
  | .val d => Dp K Hf v d
  | .own ds => ∃ p vs, v = .ref p ∧ H0 p = none ∧ Hf p = none ∧ H p = some (.lst vs) ∧ DpAll K Hf vs ds
  | .dct kvs => ∃ p xs, v = .ref p ∧ H0 p = none ∧ Hf p = none ∧ H p = some (.ext (DI p xs)) ∧ (p == sysModules) = false ∧ DctOk K Hf xs kvs
/-- Z: the two heaps at the def's entry -/
structure Rel (K : PySem.W.Frag) (Z : Hp × Hp) (Hf H : Hp) (env : En) (σ : L2.St) : Prop where
  st : Stp Z.1 Z.2 Hf H
  len : env.length = σ.length
  sl : ∀ (i : Nat) (s : Sl), env[i]? = some (some s) → ∃ v, σ[i]? = some (some v) ∧ SlOk K Z.2 Hf H v s
  ds : ∀ (i j : Nat) (x y : List PyData) (p : Addr), env[i]? = some (some (.own x)) → env[j]? = some (some (.own y)) → σ[i]? = some (some (.ref p)) → σ[j]? = some (some (.ref p)) → i = j
section
variable {K : PySem.W.Frag} {Z : Hp × Hp} {Hf H Hf' H' : Hp} {env : En} {σ : L2.St}
theorem Rel.step (R : Rel K Z Hf H env σ) (s : Stp Hf H Hf' H') : Rel K Z Hf' H' env σ := by
  refine ⟨R.st.trans s, R.len, fun i x e => ?_, R.ds⟩
  obtain ⟨v, h1, h2⟩ := R.sl i x e
  refine ⟨v, h1, ?_⟩
  cases x with
  | val d => exact Dp_up s.f h2
  | own l =>
    obtain ⟨p, vs, a, b, c, d, e⟩ := h2
    exact ⟨p, vs, a, b, s.n p _ d c, s.h p _ d, DpAll_up s.f e⟩
  | dct l =>
    obtain ⟨p, xs, a, b, c, d, e, f⟩ := h2
    exact ⟨p, xs, a, b, s.n p _ d c, s.h p _ d, e, f.up s.f⟩
theorem set_cases {α : Type} {l : List (Option α)} {i j : Nat} {x : Option α} {y : α} (h : (l.set i x)[j]? = some (some y)) : (i = j ∧ x = some y) ∨ (i ≠ j ∧ l[j]? = some (some y)) := by
  by_cases e : i = j
  · subst e
    by_cases hl : i < l.length
    · rw [List.getElem?_set_self hl] at h
      exact .inl ⟨rfl, Option.some.inj h⟩
    · rw [List.getElem?_eq_none (by rw [List.length_set]; omega)] at h
      cases h
  · rw [List.getElem?_set_ne e] at h
    exact .inr ⟨e, h⟩
theorem set_some_lt {α : Type} {l : List (Option α)} {i : Nat} {x y : Option α} (h : (l.set i x)[i]? = some y) : i < l.length := by
  by_cases hl : i < l.length
  · exact hl
  · rw [List.getElem?_eq_none (by rw [List.length_set]; omega)] at h
    cases h
/-- a value is stored -/
theorem Rel.set {v : V} {d : PyData} (R : Rel K Z Hf H env σ) (i : Nat) (h : Dp K Hf v d) : Rel K Z Hf H (env.set i (some (.val d))) (σ.set i (some v)) := by
  refine ⟨R.st, by rw [List.length_set, List.length_set, R.len], fun j s e => ?_, fun j k x y p ej ek hj hk => ?_⟩
  · rcases set_cases e with ⟨rfl, q⟩ | ⟨hn, q⟩
    · cases q
      have hl := set_some_lt e
      refine ⟨v, List.getElem?_set_self (by rw [← R.len]; exact hl), h⟩
    · obtain ⟨w, h1, h2⟩ := R.sl j s q
      exact ⟨w, by rw [List.getElem?_set_ne hn]; exact h1, h2⟩
  · rcases set_cases ej with ⟨rfl, q⟩ | ⟨hn, q⟩
    · cases q
    · rcases set_cases ek with ⟨rfl, q2⟩ | ⟨hn2, q2⟩
      · cases q2
      · rw [List.getElem?_set_ne hn] at hj
        rw [List.getElem?_set_ne hn2] at hk
        exact R.ds j k x y p q q2 hj hk
/-- a slot is forgotten, in the functions' view -/
theorem Rel.drop (R : Rel K Z Hf H env σ) (i : Nat) (o : Option V) : Rel K Z Hf H (env.set i none) (σ.set i o) := by
  refine ⟨R.st, by rw [List.length_set, List.length_set, R.len], fun j s e => ?_, fun j k x y p ej ek hj hk => ?_⟩
  · rcases set_cases e with ⟨rfl, q⟩ | ⟨hn, q⟩
    · cases q
    · obtain ⟨w, h1, h2⟩ := R.sl j s q
      exact ⟨w, by rw [List.getElem?_set_ne hn]; exact h1, h2⟩
  · rcases set_cases ej with ⟨rfl, q⟩ | ⟨hn, q⟩
    · cases q
    · rcases set_cases ek with ⟨rfl, q2⟩ | ⟨hn2, q2⟩
      · cases q2
      · rw [List.getElem?_set_ne hn] at hj
        rw [List.getElem?_set_ne hn2] at hk
        exact R.ds j k x y p q q2 hj hk
/-- a new list is stored, to be changed here alone -/
theorem Rel.setOwn {p : Addr} {vs : List V} {ds : List PyData} (R : Rel K Z Hf H env σ) (s : Stp Hf H Hf' H') (i : Nat) (h0 : H p = none) (h1 : Hf' p = none) (h2 : H' p = some (.lst vs)) (h3 : DpAll K Hf' vs ds) :
    Rel K Z Hf' H' (env.set i (some (.own ds))) (σ.set i (some (.ref p))) := by
  have R' := R.step s
  have hz : Z.2 p = none := R.st.h.free h0
  -- an own slot of before stands elsewhere
  have ne : ∀ (j : Nat) (x : List PyData) (q : Addr), env[j]? = some (some (Sl.own x)) → σ[j]? = some (some (V.ref q)) → q ≠ p := fun j x q e1 e2 => by
    obtain ⟨v, g1, g2⟩ := R.sl j _ e1
    obtain ⟨r, ws, rfl, _, _, g3, _⟩ := g2
    rw [e2] at g1
    cases g1
    exact ne_of_none g3 h0
  refine ⟨R'.st, by rw [List.length_set, List.length_set, R.len], fun j t e => ?_, fun j k x y q ej ek hj hk => ?_⟩
  · rcases set_cases e with ⟨rfl, z⟩ | ⟨hn, z⟩
    · cases z
      have hl := set_some_lt e
      exact ⟨.ref p, List.getElem?_set_self (by rw [← R.len]; exact hl), p, vs, rfl, hz, h1, h2, h3⟩
    · obtain ⟨w, g1, g2⟩ := R'.sl j t z
      exact ⟨w, by rw [List.getElem?_set_ne hn]; exact g1, g2⟩
  · rcases set_cases ej with ⟨rfl, z⟩ | ⟨hn, z⟩
    · rcases set_cases ek with ⟨rfl, z2⟩ | ⟨hn2, z2⟩
      · rfl
      · have hl := set_some_lt ej
        rw [List.getElem?_set_self (by rw [← R.len]; exact hl)] at hj
        cases hj
        rw [List.getElem?_set_ne hn2] at hk
        exact absurd rfl (ne k y _ z2 hk)
    · rcases set_cases ek with ⟨rfl, z2⟩ | ⟨hn2, z2⟩
      · have hl := set_some_lt ek
        rw [List.getElem?_set_self (by rw [← R.len]; exact hl)] at hk
        cases hk
        rw [List.getElem?_set_ne hn] at hj
        exact absurd rfl (ne j x _ z hj)
      · rw [List.getElem?_set_ne hn] at hj
        rw [List.getElem?_set_ne hn2] at hk
        exact R.ds j k x y q z z2 hj hk
/-- the list of an own slot is changed -/
theorem Rel.mut {i : Nat} {l l' : List PyData} {p : Addr} {vs' : List V} (R : Rel K Z Hf H env σ) (he : env[i]? = some (some (.own l))) (hs : σ[i]? = some (some (.ref p))) (h3 : DpAll K Hf vs' l') :
    Rel K Z Hf (upd H p (.lst vs')) (env.set i (some (.own l'))) σ := by
  obtain ⟨v, g1, q, vs, rfl, hz, hf, hp, hd⟩ := R.sl i _ he
  rw [hs] at g1
  cases g1
  have hi : i < env.length := (List.getElem?_eq_some_iff.mp he).1
  refine ⟨⟨R.st.f, fun b o e => ?_, fun b o e => ?_, R.st.n⟩, by rw [List.length_set, R.len], fun j t e => ?_, fun j k x y q ej ek hj hk => ?_⟩
  · rw [upd_ne (ne_of_none e hf)]
    exact R.st.i b o e
  · rw [upd_ne (ne_of_none e hz)]
    exact R.st.h b o e
  · rcases set_cases e with ⟨rfl, z⟩ | ⟨hn, z⟩
    · cases z
      exact ⟨.ref p, hs, p, vs', rfl, hz, hf, upd_same, h3⟩
    · obtain ⟨w, g1, g2⟩ := R.sl j t z
      refine ⟨w, g1, ?_⟩
      cases t with
      | val d => exact g2
      | own m =>
        obtain ⟨r, ws, rfl, a, b, c, d⟩ := g2
        refine ⟨r, ws, rfl, a, b, ?_, d⟩
        have hr : r ≠ p := fun q => hn (R.ds i j l m p he z hs (by rw [g1, q]))
        rw [upd_ne hr]
        exact c
      | dct m =>
        obtain ⟨r, xs, rfl, a, b, c, d⟩ := g2
        exact ⟨r, xs, rfl, a, b, by rw [upd_ne (ne_of c hp (fun z => nomatch z))]; exact c, d⟩
  · have e1 : ∃ x', env[j]? = some (some (.own x')) := by
      rcases set_cases ej with ⟨rfl, z⟩ | ⟨hn, z⟩
      · exact ⟨l, he⟩
      · exact ⟨x, z⟩
    have e2 : ∃ y', env[k]? = some (some (.own y')) := by
      rcases set_cases ek with ⟨rfl, z⟩ | ⟨hn, z⟩
      · exact ⟨l, he⟩
      · exact ⟨y, z⟩
    obtain ⟨x', e1⟩ := e1
    obtain ⟨y', e2⟩ := e2
    exact R.ds j k x' y' q e1 e2 hj hk
/-- an own slot becomes a value: from here on it is read alone -/
def frz (i : Nat) (env : En) : En := match env[i]? with
  | some (some (.own l)) => env.set i (some (.val (.list l)))
  | _ => env
theorem Rel.frz (R : Rel K Z Hf H env σ) (i : Nat) : ∃ Hf', Same Hf Hf' ∧ Rel K Z Hf' H (frz i env) σ := by
  unfold Fi.frz
  split
  · rename_i l he
    obtain ⟨v, hs, p, vs, rfl, hz, hf, hp, hd⟩ := R.sl i _ he
    have hsm : Same Hf (upd Hf p (.lst vs)) := same_new hf
    refine ⟨upd Hf p (.lst vs), hsm, ⟨⟨R.st.f.trans hsm, fun b o e => ?_, R.st.h, fun a o e q => ?_⟩, by rw [List.length_set, R.len], fun j t e => ?_, fun j k x y q ej ek hj hk => ?_⟩⟩
    · by_cases hb : b = p
      · subst hb
        rw [upd_same] at e
        rw [hp, e]
      · rw [upd_ne hb] at e
        exact R.st.i b o e
    · rw [upd_ne (ne_of_none e hz)]
      exact R.st.n a o e q
    · rcases set_cases e with ⟨rfl, z⟩ | ⟨hn, z⟩
      · cases z
        exact ⟨.ref p, hs, .lst (SqL.of upd_same) (DpAll_up hsm hd)⟩
      · obtain ⟨w, g1, g2⟩ := R.sl j t z
        refine ⟨w, g1, ?_⟩
        cases t with
        | val d => exact Dp_up hsm g2
        | own m =>
          obtain ⟨r, ws, rfl, a, b, c, d⟩ := g2
          have hr : r ≠ p := fun q => hn (R.ds i j l m p he z hs (by rw [g1, q]))
          exact ⟨r, ws, rfl, a, by rw [upd_ne hr]; exact b, c, DpAll_up hsm d⟩
        | dct m =>
          obtain ⟨r, xs, rfl, a, b, c, d, f⟩ := g2
          exact ⟨r, xs, rfl, a, by rw [upd_ne (ne_of c hp (fun z => nomatch z))]; exact b, c, d, f.up hsm⟩
    · rcases set_cases ej with ⟨rfl, z⟩ | ⟨hn, z⟩
      · cases z
      · rcases set_cases ek with ⟨rfl, z2⟩ | ⟨hn2, z2⟩
        · cases z2
        · exact R.ds j k x y q z z2 hj hk
  · exact ⟨Hf, Same.refl _, R⟩
end

def tE (K : PySem.W.Frag) (f : FE) : TE := fun σ H Q => ∃ (Z : Hp × Hp) (Hf : Hp) (env : En) (d : PyData), Rel K Z Hf H env σ ∧ f env = some d ∧ ∀ v H' Hf', Stp Hf H Hf' H' → Dp K Hf' v d → Q v H'
/-- a new list, hidden as yet -/
def tL (K : PySem.W.Frag) (f : FL) : TE := fun σ H Q => ∃ (Z : Hp × Hp) (Hf : Hp) (env : En) (ds : List PyData), Rel K Z Hf H env σ ∧ f env = some ds ∧
  ∀ p vs H' Hf', Stp Hf H Hf' H' → H p = none → Hf' p = none → H' p = some (.lst vs) → DpAll K Hf' vs ds → Q (.ref p) H'
def tA (K : PySem.W.Frag) (f : FL) : TA := fun σ H Q => ∃ (Z : Hp × Hp) (Hf : Hp) (env : En) (ds : List PyData), Rel K Z Hf H env σ ∧ f env = some ds ∧ ∀ vs H' Hf', Stp Hf H Hf' H' → DpAll K Hf' vs ds → Q vs H'
def tT (K : PySem.W.Frag) (f : FT) : TT := fun σ H Q => ∃ (Z : Hp × Hp) (Hf : Hp) (env : En) (b : Bool), Rel K Z Hf H env σ ∧ f env = some b ∧ ∀ H' Hf', Stp Hf H Hf' H' → Q b H'
def tO (K : PySem.W.Frag) (f : En → Option (Option Int)) : TO := fun σ H Q => ∃ (Z : Hp × Hp) (Hf : Hp) (env : En) (o : Option Int), Rel K Z Hf H env σ ∧ f env = some o ∧ ∀ H' Hf', Stp Hf H Hf' H' → Q o H'
def Fin (K : PySem.W.Frag) (Z : Hp × Hp) (Hf : Hp) (D : Ends) : Out → Prop
  | .next e => ∀ σ' H' Hf', Same Hf Hf' → Rel K Z Hf' H' e σ' → D.nx σ' H'
  | .brk e => ∀ σ' H' Hf', Same Hf Hf' → Rel K Z Hf' H' e σ' → D.bk σ' H'
  | .cont e => ∀ σ' H' Hf', Same Hf Hf' → Rel K Z Hf' H' e σ' → D.ct σ' H'
  | .ret d => ∀ v H' Hf', Stp Z.1 Z.2 Hf' H' → Dp K Hf' v d → D.rt v H'
  | .retL ds => ∀ p vs H' Hf', Stp Z.1 Z.2 Hf' H' → Z.2 p = none → Hf' p = none → H' p = some (.lst vs) → DpAll K Hf' vs ds → D.rt (.ref p) H'
  | .retD kvs => ∀ p xs H' Hf', Stp Z.1 Z.2 Hf' H' → Z.2 p = none → Hf' p = none → H' p = some (.ext (DI p xs)) → (p == sysModules) = false → DctOk K Hf' xs kvs → D.rt (.ref p) H'
theorem Fin.up {K : PySem.W.Frag} {Z : Hp × Hp} {Hf Hf' : Hp} {D : Ends} (e : Same Hf Hf') : ∀ {o : Out}, Fin K Z Hf D o → Fin K Z Hf' D o
  | .next _, h => fun σ' H' Hg s R => h σ' H' Hg (e.trans s) R
  | .brk _, h => fun σ' H' Hg s R => h σ' H' Hg (e.trans s) R
  | .cont _, h => fun σ' H' Hg s R => h σ' H' Hg (e.trans s) R
  | .ret _, h => h
  | .retL _, h => h
  | .retD _, h => h
def tS (K : PySem.W.Frag) (f : FS) : TS := fun D σ H => ∃ (Z : Hp × Hp) (Hf : Hp) (env : En) (o : Out), Rel K Z Hf H env σ ∧ f env = some o ∧ Fin K Z Hf D o
section
variable {X : Cx}
theorem pe_le {e : Expr} {t t' : TE} (h : PE X e t) (hm : ∀ σ H Q, t' σ H Q → t σ H Q) : PE X e t' := ⟨fun pins s σ H Q I q => h.run pins s σ H Q I (hm σ H Q q)⟩
theorem pt_le {e : Expr} {t t' : TT} (h : PT X e t) (hm : ∀ σ H Q, t' σ H Q → t σ H Q) : PT X e t' := ⟨fun pins s σ H Q I q => h.run pins s σ H Q I (hm σ H Q q)⟩
theorem pa_le {e : List Expr} {t t' : TA} (h : PA X e t) (hm : ∀ σ H Q, t' σ H Q → t σ H Q) : PA X e t' := ⟨fun pos pins s σ H Q I q => h.run pos pins s σ H Q I (hm σ H Q q)⟩
theorem po_le {e : Option Expr} {t t' : TO} (h : PO X e t) (hm : ∀ σ H Q, t' σ H Q → t σ H Q) : PO X e t' := ⟨fun pins s σ H Q I q => h.run pins s σ H Q I (hm σ H Q q)⟩
theorem ps_le {e : Stmt} {t t' : TS} (h : PS X e t) (hm : ∀ D σ H, t' D σ H → t D σ H) : PS X e t' := ⟨fun pins s σ H D I q => h.run pins s σ H D I (hm D σ H q)⟩
theorem pss_le {e : List Stmt} {t t' : TS} (h : PSs X e t) (hm : ∀ D σ H, t' D σ H → t D σ H) : PSs X e t' := ⟨fun pins s σ H D I q => h.run pins s σ H D I (hm D σ H q)⟩
theorem pi_le {tg e : Expr} {t t' : TI} (h : PI X tg e t) (hm : ∀ σ H R, t' σ H R → t σ H R) : PI X tg e t' := ⟨fun pins s σ H R I q => h.run pins s σ H R I (hm σ H R q)⟩
theorem pg_le {e : Expr} {t t' : TG} (h : PG X e t) (hm : ∀ v σ H Q, t' v σ H Q → t v σ H Q) : PG X e t' := ⟨fun pins s σ H v u Q I r q => h.run pins s σ H v u Q I r (hm v σ H Q q)⟩
end
end Fi

namespace Fi
open PySem L2

def rD2 (K : PySem.W.Frag) (F : PyData → PyData → Option PyData) : R2 := fun x y H Q => ∃ (Hf : Hp) (dx dy dz : PyData), Same Hf H ∧ Dp K Hf x dx ∧ Dp K Hf y dy ∧ F dx dy = some dz ∧ ∀ v H' Hf', Stp Hf H Hf' H' → Dp K Hf' v dz → Q v H'
abbrev OpD (X : Cx) (f : Value → Value → Sem Value) (F : PyData → PyData → Option PyData) : Prop := OpR X f (rD2 X.K F)
def rD1 (K : PySem.W.Frag) (F : PyData → Option PyData) : V → Hp → VK → Prop := fun x H Q => ∃ (Hf : Hp) (dx dz : PyData), Same Hf H ∧ Dp K Hf x dx ∧ F dx = some dz ∧ ∀ v H' Hf', Stp Hf H Hf' H' → Dp K Hf' v dz → Q v H'
def rDc (K : PySem.W.Frag) (F : List PyData → Option PyData) : List V → Hp → VK → Prop := fun vs H Q => ∃ (Hf : Hp) (ds : List PyData) (dz : PyData), Same Hf H ∧ DpAll K Hf vs ds ∧ F ds = some dz ∧ ∀ v H' Hf', Stp Hf H Hf' H' → Dp K Hf' v dz → Q v H'
abbrev CallD (X : Cx) (f : Value) (F : List PyData → Option PyData) : Prop := CallR X f (rDc X.K F)
/-- a new list comes of it -/
def rDcL (K : PySem.W.Frag) (F : List PyData → Option (List PyData)) : List V → Hp → VK → Prop := fun vs H Q => ∃ (Hf : Hp) (ds dz : List PyData), Same Hf H ∧ DpAll K Hf vs ds ∧ F ds = some dz ∧ ∀ p us H' Hf', Stp Hf H Hf' H' → H p = none → Hf' p = none → H' p = some (.lst us) → DpAll K Hf' us dz → Q (.ref p) H'
abbrev CallL (X : Cx) (f : Value) (F : List PyData → Option (List PyData)) : Prop := CallR X f (rDcL X.K F)

def fAdd : PyData → PyData → Option PyData
  | .int a, .int b => some (.int (a + b))
  | .tuple a, .tuple b => if a.length + b.length ≤ 100000 then some (.tuple (a ++ b)) else none
  | .str a, .str b => if a.length + b.length ≤ 100000 then some (.str (a ++ b)) else none
  | _, _ => none
def fSub : PyData → PyData → Option PyData
  | .int a, .int b => some (.int (a - b))
  | _, _ => none
def fMul : PyData → PyData → Option PyData
  | .int a, .int b => if (-(2 ^ 64) < a ∧ a < 2 ^ 64) ∨ (-(2 ^ 64) < b ∧ b < 2 ^ 64) then some (.int (a * b)) else none
  | _, _ => none
def fDiv : PyData → PyData → Option PyData
  | .int a, .int b => if 0 < b ∧ b < 1073741824 then some (.int (a / b)) else none
  | _, _ => none
def fMod : PyData → PyData → Option PyData
  | .int a, .int b => if 0 < b then some (.int (a % b)) else none
  | _, _ => none
def fPow : PyData → PyData → Option PyData
  | .int a, .int b => if 0 ≤ b ∧ b ≤ 1000000 ∧ a.natAbs < 2 ^ 64 then some (.int (a ^ b.toNat)) else none
  | _, _ => none
def fLt : PyData → PyData → Option PyData
  | .int a, .int b => some (.bool (decide (a < b)))
  | _, _ => none
def fLe : PyData → PyData → Option PyData
  | .int a, .int b => some (.bool (decide (a ≤ b)))
  | _, _ => none
def fGt : PyData → PyData → Option PyData
  | .int a, .int b => some (.bool (decide (b < a)))
  | _, _ => none
def fGe : PyData → PyData → Option PyData
  | .int a, .int b => some (.bool (decide (b ≤ a)))
  | _, _ => none
def fEq : PyData → PyData → Option PyData
  | .int a, .int b => some (.bool (decide (a = b)))
  | .str a, .str b => some (.bool (decide (a = b)))
  | .bool a, .bool b => some (.bool (decide (a = b)))
  | a, b => if SeqAt.shaped a = true ∧ SeqAt.shaped b = true then some (.bool (PyData.eqv a b)) else none
def fNe : PyData → PyData → Option PyData
  | .int a, .int b => some (.bool (!decide (a = b)))
  | .str a, .str b => some (.bool (!decide (a = b)))
  | .bool a, .bool b => some (.bool (!decide (a = b)))
  | a, b => if SeqAt.shaped a = true ∧ SeqAt.shaped b = true then some (.bool (!PyData.eqv a b)) else none
def isN : PyData → Bool
  | .none => true
  | _ => false
def fIs : PyData → PyData → Option PyData
  | a, .none => some (.bool (isN a))
  | .bool a, .bool b => some (.bool (decide (a = b)))
  | _, _ => none
def fIsNot : PyData → PyData → Option PyData
  | a, .none => some (.bool (!isN a))
  | .bool a, .bool b => some (.bool (!decide (a = b)))
  | _, _ => none
def fIx : PyData → PyData → Option PyData
  | .list l, .int i => atI l i
  | .tuple l, .int i => atI l i
  | _, _ => none
def fNeg : PyData → Option PyData
  | .int i => some (.int (-i))
  | _ => none
section
variable {X : Cx}
theorem od_sub : OpD X (binaryOp .Sub) fSub := by
  intro pins s σ H x y v u Q I rx ry ⟨Hf, dx, dy, dz, hi, hx, hy, hf, k⟩
  unfold fSub at hf
  split at hf
  · cases hf
    cases hx.int_eq
    cases hy.int_eq
    exact op_sub pins s σ H _ _ v u Q I rx ry ⟨_, _, rfl, rfl, k _ _ _ (.refl hi) (.int _)⟩
  · cases hf
theorem od_mul : OpD X (binaryOp .Mult) fMul := by
  intro pins s σ H x y v u Q I rx ry ⟨Hf, dx, dy, dz, hi, hx, hy, hf, k⟩
  unfold fMul at hf
  split at hf
  · split at hf
    · rename_i hc
      cases hf
      cases hx.int_eq
      cases hy.int_eq
      exact op_mul pins s σ H _ _ v u Q I rx ry ⟨_, _, rfl, rfl, hc, k _ _ _ (.refl hi) (.int _)⟩
    · cases hf
  · cases hf
theorem od_div : OpD X (binaryOp .FloorDiv) fDiv := by
  intro pins s σ H x y v u Q I rx ry ⟨Hf, dx, dy, dz, hi, hx, hy, hf, k⟩
  unfold fDiv at hf
  split at hf
  · split at hf
    · rename_i hc
      cases hf
      cases hx.int_eq
      cases hy.int_eq
      exact op_fdiv pins s σ H _ _ v u Q I rx ry ⟨_, _, rfl, rfl, hc, k _ _ _ (.refl hi) (.int _)⟩
    · cases hf
  · cases hf
theorem od_mod : OpD X (binaryOp .Mod) fMod := by
  intro pins s σ H x y v u Q I rx ry ⟨Hf, dx, dy, dz, hi, hx, hy, hf, k⟩
  unfold fMod at hf
  split at hf
  · split at hf
    · rename_i hc
      cases hf
      cases hx.int_eq
      cases hy.int_eq
      exact op_mod pins s σ H _ _ v u Q I rx ry ⟨_, _, rfl, rfl, hc, k _ _ _ (.refl hi) (.int _)⟩
    · cases hf
  · cases hf
theorem od_pow : OpD X (binaryOp .Pow) fPow := by
  intro pins s σ H x y v u Q I rx ry ⟨Hf, dx, dy, dz, hi, hx, hy, hf, k⟩
  unfold fPow at hf
  split at hf
  · split at hf
    · rename_i hc
      cases hf
      cases hx.int_eq
      cases hy.int_eq
      exact op_pow pins s σ H _ _ v u Q I rx ry ⟨_, _, rfl, rfl, hc, k _ _ _ (.refl hi) (.int _)⟩
    · cases hf
  · cases hf
theorem size_le {n : Nat} (h : n ≤ 100000) : n ≤ sizeLine := Nat.le_trans h (by decide)
theorem od_add : OpD X (binaryOp .Add) fAdd := by
  intro pins s σ H x y v u Q I rx ry ⟨Hf, dx, dy, dz, hi, hx, hy, hf, k⟩
  unfold fAdd at hf
  split at hf
  · cases hf
    cases hx.int_eq
    cases hy.int_eq
    exact op_add pins s σ H _ _ v u Q I rx ry ⟨_, _, rfl, rfl, k _ _ _ (.refl hi) (.int _)⟩
  · split at hf
    · rename_i a b hc
      cases hf
      obtain ⟨p, xs, rfl, hp, ha⟩ := hx.tup_of
      obtain ⟨q, ys, rfl, hq, hb⟩ := hy.tup_of
      refine op_catA pins s σ H _ _ v u Q I rx ry ⟨p, q, xs, ys, rfl, rfl, sqT_up hi hp, sqT_up hi hq, size_le (by rw [ha.len, hb.len]; exact hc), fun e => ?_, fun e e2 => ?_, fun e e2 r hr => ?_⟩
      · subst e
        cases ha
        exact k _ _ _ (.refl hi) hy
      · subst e2
        cases hb
        refine k _ _ _ (.refl hi) ?_
        rw [List.append_nil]
        exact hx
      · have st := Stp.new (o := .tup (xs ++ ys)) hi hr
        exact k _ _ _ st (.tup (SqT.of upd_same) (DpAll_up st.f (ha.app hb)))
    · cases hf
  · split at hf
    · rename_i a b hc
      cases hf
      cases hx.str_eq
      cases hy.str_eq
      exact op_add_str pins s σ H _ _ v u Q I rx ry ⟨_, _, rfl, rfl, size_le hc, k _ _ _ (.refl hi) (.str _)⟩
    · cases hf
  · cases hf
theorem od_lt : OpD X (compareOp .Lt) fLt := by
  intro pins s σ H x y v u Q I rx ry ⟨Hf, dx, dy, dz, hi, hx, hy, hf, k⟩
  unfold fLt at hf
  split at hf
  · cases hf
    cases hx.int_eq
    cases hy.int_eq
    exact op_lt pins s σ H _ _ v u Q I rx ry ⟨_, _, rfl, rfl, k _ _ _ (.refl hi) (.bl _)⟩
  · cases hf
theorem od_le : OpD X (compareOp .LtE) fLe := by
  intro pins s σ H x y v u Q I rx ry ⟨Hf, dx, dy, dz, hi, hx, hy, hf, k⟩
  unfold fLe at hf
  split at hf
  · cases hf
    cases hx.int_eq
    cases hy.int_eq
    exact op_le pins s σ H _ _ v u Q I rx ry ⟨_, _, rfl, rfl, k _ _ _ (.refl hi) (.bl _)⟩
  · cases hf
theorem od_gt : OpD X (compareOp .Gt) fGt := by
  intro pins s σ H x y v u Q I rx ry ⟨Hf, dx, dy, dz, hi, hx, hy, hf, k⟩
  unfold fGt at hf
  split at hf
  · cases hf
    cases hx.int_eq
    cases hy.int_eq
    exact op_gt pins s σ H _ _ v u Q I rx ry ⟨_, _, rfl, rfl, k _ _ _ (.refl hi) (.bl _)⟩
  · cases hf
theorem od_ge : OpD X (compareOp .GtE) fGe := by
  intro pins s σ H x y v u Q I rx ry ⟨Hf, dx, dy, dz, hi, hx, hy, hf, k⟩
  unfold fGe at hf
  split at hf
  · cases hf
    cases hx.int_eq
    cases hy.int_eq
    exact op_ge pins s σ H _ _ v u Q I rx ry ⟨_, _, rfl, rfl, k _ _ _ (.refl hi) (.bl _)⟩
  · cases hf
theorem dec_vi {a b : Int} : decide (V.int a = V.int b) = decide (a = b) := by simp
theorem dec_vs {a b : Str} : decide (V.str a = V.str b) = decide (a = b) := by simp
theorem dec_vb {a b : Bool} : decide (V.bl a = V.bl b) = decide (a = b) := by simp
theorem od_eq (hu : X.A.units + 64 < cLine) : OpD X (compareOp .Eq) fEq := by
  intro pins s σ H x y v u Q I rx ry ⟨Hf, dx, dy, dz, hi, hx, hy, hf, k⟩
  unfold fEq at hf
  split at hf
  · cases hf
    cases hx.int_eq
    cases hy.int_eq
    exact op_eq pins s σ H _ _ v u Q I rx ry ⟨rfl, by rw [dec_vi]; exact k _ _ _ (.refl hi) (.bl _)⟩
  · cases hf
    cases hx.str_eq
    cases hy.str_eq
    exact op_eq pins s σ H _ _ v u Q I rx ry ⟨rfl, by rw [dec_vs]; exact k _ _ _ (.refl hi) (.bl _)⟩
  · cases hf
    cases hx.bl_eq
    cases hy.bl_eq
    exact op_eq pins s σ H _ _ v u Q I rx ry ⟨rfl, by rw [dec_vb]; exact k _ _ _ (.refl hi) (.bl _)⟩
  · split at hf
    · rename_i hc
      cases hf
      exact op_eqD hu pins s σ H _ _ v u Q I rx ry ⟨_, _, Dp_up hi hx, Dp_up hi hy, hc.1, hc.2, k _ _ _ (.refl hi) (.bl _)⟩
    · cases hf
theorem od_ne (hu : X.A.units + 64 < cLine) : OpD X (compareOp .NotEq) fNe := by
  intro pins s σ H x y v u Q I rx ry ⟨Hf, dx, dy, dz, hi, hx, hy, hf, k⟩
  unfold fNe at hf
  split at hf
  · cases hf
    cases hx.int_eq
    cases hy.int_eq
    exact op_ne pins s σ H _ _ v u Q I rx ry ⟨rfl, by rw [dec_vi]; exact k _ _ _ (.refl hi) (.bl _)⟩
  · cases hf
    cases hx.str_eq
    cases hy.str_eq
    exact op_ne pins s σ H _ _ v u Q I rx ry ⟨rfl, by rw [dec_vs]; exact k _ _ _ (.refl hi) (.bl _)⟩
  · cases hf
    cases hx.bl_eq
    cases hy.bl_eq
    exact op_ne pins s σ H _ _ v u Q I rx ry ⟨rfl, by rw [dec_vb]; exact k _ _ _ (.refl hi) (.bl _)⟩
  · split at hf
    · rename_i hc
      cases hf
      exact op_neD hu pins s σ H _ _ v u Q I rx ry ⟨_, _, Dp_up hi hx, Dp_up hi hy, hc.1, hc.2, k _ _ _ (.refl hi) (.bl _)⟩
    · cases hf
theorem isN_dec {K : PySem.W.Frag} {H : Hp} {v : V} {d : PyData} (h : Dp K H v d) : decide (v = .non) = isN d := by
  cases h <;> simp [isN]
theorem od_isNot : OpD X (compareOp .IsNot) fIsNot := by
  intro pins s σ H x y v u Q I rx ry ⟨Hf, dx, dy, dz, hi, hx, hy, hf, k⟩
  unfold fIsNot at hf
  split at hf
  · cases hf
    cases hy.non_eq
    exact op_notN pins s σ H _ _ v u Q I rx ry ⟨rfl, by rw [isN_dec hx]; exact k _ _ _ (.refl hi) (.bl _)⟩
  · cases hf
    cases hx.bl_eq
    cases hy.bl_eq
    exact op_isnot_bl pins s σ H _ _ v u Q I rx ry ⟨_, _, rfl, rfl, k _ _ _ (.refl hi) (.bl _)⟩
  · cases hf
theorem atI_dp {K : PySem.W.Frag} {H : Hp} {vs : List V} {ds : List PyData} {i : Int} {d : PyData} (h : DpAll K H vs ds) (e : atI ds i = some d) : ∃ v, atI vs i = some v ∧ Dp K H v d := by
  unfold atI at e ⊢
  rw [h.len]
  cases q : ixN ds.length i with
  | none =>
    rw [q] at e
    cases e
  | some j =>
    rw [q] at e
    exact h.at e
theorem od_ix : IxR X (rD2 X.K fIx) := by
  intro value slice pins s σ H x y v u Q I rx ry ⟨Hf, dx, dy, dz, hi, hx, hy, hf, k⟩ hs
  unfold fIx at hf
  split at hf
  · obtain ⟨p, xs, rfl, hp, ha⟩ := hx.lst_of
    cases hy.int_eq
    obtain ⟨w, e, hw⟩ := atI_dp ha hf
    exact ix_list value slice pins s σ H _ _ v u Q I rx ry ⟨p, xs, _, w, rfl, rfl, hi.seq hp, e, k _ _ _ (.refl hi) hw⟩ hs
  · obtain ⟨p, xs, rfl, hp, ha⟩ := hx.tup_of
    cases hy.int_eq
    obtain ⟨w, e, hw⟩ := atI_dp ha hf
    exact ix_tup value slice pins s σ H _ _ v u Q I rx ry ⟨p, xs, _, w, rfl, rfl, sqT_up hi hp, e, k _ _ _ (.refl hi) hw⟩ hs
  · cases hf
theorem od_neg : UnR X (unaryOp .USub) (rD1 X.K fNeg) := by
  intro pins s σ H x v Q I rx ⟨Hf, dx, dz, hi, hx, hf, k⟩
  unfold fNeg at hf
  split at hf
  · cases hf
    cases hx.int_eq
    exact un_neg pins s σ H _ v Q I rx ⟨_, rfl, k _ _ _ (.refl hi) (.int _)⟩
  · cases hf

def eVar (i : Nat) : FE := fun env => match env[i]? with
  | some (some (.val d)) => some d
  | _ => none
def eC (d : PyData) : FE := fun _ => some d
def e2 (F : PyData → PyData → Option PyData) (f g : FE) : FE := fun env => (f env).bind fun x => (g env).bind fun y => F x y
def e1 (F : PyData → Option PyData) (f : FE) : FE := fun env => (f env).bind F
variable {a b c e : Expr} {f g h : FE} {pos : Pos} {F : PyData → PyData → Option PyData}
theorem Option_bind_some {α β : Type} {o : Option α} {q : α → Option β} {y : β} (h : o.bind q = some y) : ∃ x, o = some x ∧ q x = some y := by
  cases o with
  | none => cases h
  | some x => exact ⟨x, rfl, h⟩
theorem x_var (i : Nat) {x : Str} (hN : X.N[i]? = some x := by rfl) (hv : Vis X.env.scope x := by first | exact Or.inl rfl | exact Or.inr (Or.inl rfl) | exact Or.inr (Or.inr rfl)) (hd : (x == ("__debug__" : Str)) = false := by decide)
    (hcd : (x == ("__classdict__" : Str)) = false := by decide) : PE X (.Name x pos) (tE X.K (eVar i)) := by
  refine pe_le (pe_var hN hv hd hcd) fun σ H Q ⟨Z, Hf, env, d, R, hf, k⟩ => ?_
  unfold eVar at hf
  split at hf
  · rename_i d' he
    cases hf
    obtain ⟨v, hs, hv⟩ := R.sl i _ he
    exact ⟨v, hs, k v H Hf (.refl R.st.i) hv⟩
  · cases hf
theorem x_int {i j} : PE X (.Constant (.int i) j pos) (tE X.K (eC (.int i))) := pe_le pe_int fun σ H Q ⟨Z, Hf, env, d, R, hf, k⟩ => by
  cases hf
  exact k _ _ _ (.refl R.st.i) (.int i)
theorem x_str {x j} : PE X (.Constant (.str x) j pos) (tE X.K (eC (.str x))) := pe_le pe_str fun σ H Q ⟨Z, Hf, env, d, R, hf, k⟩ => by
  cases hf
  exact k _ _ _ (.refl R.st.i) (.str x)
theorem x_bl {x j} : PE X (.Constant (.bool x) j pos) (tE X.K (eC (.bool x))) := pe_le pe_bl fun σ H Q ⟨Z, Hf, env, d, R, hf, k⟩ => by
  cases hf
  exact k _ _ _ (.refl R.st.i) (.bl x)
theorem x_non {j} : PE X (.Constant .none j pos) (tE X.K (eC .none)) := pe_le pe_non fun σ H Q ⟨Z, Hf, env, d, R, hf, k⟩ => by
  cases hf
  exact k _ _ _ (.refl R.st.i) .non
theorem tOp_of {K : PySem.W.Frag} {σ : L2.St} {H : Hp} {Q : VK} (q : tE K (e2 F f g) σ H Q) : tOp (rD2 K F) (tE K f) (tE K g) σ H Q := by
  obtain ⟨Z, Hf, env, d, R, hf, k⟩ := q
  obtain ⟨x, hx, hf⟩ := Option_bind_some hf
  obtain ⟨y, hy, hf⟩ := Option_bind_some hf
  exact ⟨Z, Hf, env, x, R, hx, fun v H1 Hf1 s1 d1 => ⟨Z, Hf1, env, y, R.step s1, hy, fun u H2 Hf2 s2 d2 => ⟨Hf2, x, y, d, s2.i, Dp_up s2.f d1, d2, hf, fun r H3 Hf3 s3 d3 => k r H3 Hf3 (s1.trans (s2.trans s3)) d3⟩⟩⟩
theorem x_bin {op : Operator} (ho : OpD X (binaryOp op) F) (ha : PE X a (tE X.K f)) (hb : PE X b (tE X.K g)) : PE X (.BinOp a op b pos) (tE X.K (e2 F f g)) :=
  pe_le (pe_op ho ha hb) fun _ _ _ q => tOp_of q
theorem x_cmp {op : CmpOp} (ho : OpD X (compareOp op) F) (ha : PE X a (tE X.K f)) (hb : PE X b (tE X.K g)) (hm : behindInMarks op b = false) : PE X (.Compare a [op] [b] pos) (tE X.K (e2 F f g)) :=
  pe_le (pe_cmpR ho ha hb hm) fun _ _ _ q => tOp_of q
theorem x_ix (ha : PE X a (tE X.K f)) (hb : PE X b (tE X.K g)) (hs : PlainIx b) : PE X (.Subscript a b pos) (tE X.K (e2 fIx f g)) :=
  pe_le (pe_ix od_ix ha hb hs) fun _ _ _ q => tOp_of q
theorem x_neg (ha : PE X a (tE X.K f)) : PE X (.UnaryOp .USub a pos) (tE X.K (e1 fNeg f)) :=
  pe_le (pe_un od_neg ha) fun σ H Q ⟨Z, Hf, env, d, R, hf, k⟩ => by
    obtain ⟨x, hx, hf⟩ := Option_bind_some hf
    exact ⟨Z, Hf, env, x, R, hx, fun v H1 Hf1 s1 d1 => ⟨Hf1, x, d, s1.i, d1, hf, fun r H3 Hf3 s3 d3 => k r H3 Hf3 (s1.trans s3) d3⟩⟩
def asB (f : FE) : FT := fun env => match f env with
  | some (.bool b) => some b
  | _ => none
theorem asB_some {f : FE} {env : En} {b : Bool} (h : asB f env = some b) : f env = some (.bool b) := by
  unfold asB at h
  split at h
  · rename_i q
    cases h
    exact q
  · cases h
theorem t_val (ha : PE X a (tE X.K f)) (he : ∀ whole, isTrue a X.env whole = (do let v ← whole; standAt a.pos; holding [v] (truthy v)) := by intro _; rfl) : PT X a (tT X.K (asB f)) :=
  pt_le (pt_val ha he) fun σ H Q ⟨Z, Hf, env, d, R, hf, k⟩ => ⟨Z, Hf, env, .bool d, R, asB_some hf, fun v H1 Hf1 s1 d1 => ⟨d, d1.bl_eq, k H1 Hf1 s1⟩⟩
theorem t_cmp {op : CmpOp} (ho : OpD X (compareOp op) F) (ha : PE X a (tE X.K f)) (hb : PE X b (tE X.K g)) (hm : behindInMarks op b = false) : PT X (.Compare a [op] [b] pos) (tT X.K (asB (e2 F f g))) :=
  pt_le (pt_cmpR ho ha hb hm) fun σ H Q ⟨Z, Hf, env, d, R, hf, k⟩ => by
    have q : tE X.K (e2 F f g) σ H (fun x H' => ∃ k, x = .bl k ∧ Q k H') := ⟨Z, Hf, env, .bool d, R, asB_some hf, fun v H1 Hf1 s1 d1 => ⟨d, d1.bl_eq, k H1 Hf1 s1⟩⟩
    exact tOp_of q
/-- a op1 b op2 c -/
def eChain (F G : PyData → PyData → Option PyData) (f g h : FE) : FE := fun env => (f env).bind fun x => (g env).bind fun y => (F x y).bind fun r => match r with
  | .bool true => (h env).bind fun z => G y z
  | .bool false => some (.bool false)
  | _ => none
theorem tChain_of {G : PyData → PyData → Option PyData} {K : PySem.W.Frag} {σ : L2.St} {H : Hp} {Q : VK} (q : tE K (eChain F G f g h) σ H Q) : tChain (rD2 K F) (rD2 K G) (tE K f) (tE K g) (tE K h) σ H Q := by
  obtain ⟨Z, Hf, env, d, R, hf, k⟩ := q
  obtain ⟨x, hx, hf⟩ := Option_bind_some hf
  obtain ⟨y, hy, hf⟩ := Option_bind_some hf
  obtain ⟨r, hr, hf⟩ := Option_bind_some hf
  refine ⟨Z, Hf, env, x, R, hx, fun v H1 Hf1 s1 d1 => ⟨Z, Hf1, env, y, R.step s1, hy, fun u H2 Hf2 s2 d2 => ⟨Hf2, x, y, r, s2.i, Dp_up s2.f d1, d2, hr, fun w H3 Hf3 s3 d3 => ?_⟩⟩⟩
  split at hf
  · refine ⟨true, d3.bl_eq, ?_⟩
    obtain ⟨z, hz, hf⟩ := Option_bind_some hf
    exact iteT ⟨Z, Hf3, env, z, R.step (s1.trans (s2.trans s3)), hz, fun w' H4 Hf4 s4 d4 => ⟨Hf4, y, z, d, s4.i, Dp_up (s3.f.trans s4.f) d2, d4, hf, fun r' H5 Hf5 s5 d5 => k r' H5 Hf5 (s1.trans (s2.trans (s3.trans (s4.trans s5)))) d5⟩⟩
  · refine ⟨false, d3.bl_eq, ?_⟩
    cases hf
    exact iteF (k _ _ _ (s1.trans (s2.trans s3)) (.bl false))
  · cases hf
theorem x_chain {op op' : CmpOp} {G : PyData → PyData → Option PyData} (ho : OpD X (compareOp op) F) (ho' : OpD X (compareOp op') G) (ha : PE X a (tE X.K f)) (hb : PE X b (tE X.K g)) (hc : PE X c (tE X.K h))
    (hm : lastMarks [op, op'] [b, c] = false := by with_unfolding_all rfl) : PE X (.Compare a [op, op'] [b, c] pos) (tE X.K (eChain F G f g h)) := pe_le (pe_chain ho ho' ha hb hc hm) fun _ _ _ q => tChain_of q
theorem t_chain {op op' : CmpOp} {G : PyData → PyData → Option PyData} (ho : OpD X (compareOp op) F) (ho' : OpD X (compareOp op') G) (ha : PE X a (tE X.K f)) (hb : PE X b (tE X.K g)) (hc : PE X c (tE X.K h))
    (hm : lastMarks [op, op'] [b, c] = false := by with_unfolding_all rfl) : PT X (.Compare a [op, op'] [b, c] pos) (tT X.K (asB (eChain F G f g h))) :=
  pt_le (pt_chain ho ho' ha hb hc hm) fun σ H Q ⟨Z, Hf, env, d, R, hf, k⟩ => by
    have q : tE X.K (eChain F G f g h) σ H (fun x H' => ∃ k, x = .bl k ∧ Q k H') := ⟨Z, Hf, env, .bool d, R, asB_some hf, fun v H1 Hf1 s1 d1 => ⟨d, d1.bl_eq, k H1 Hf1 s1⟩⟩
    exact tChain_of q
def tAndF (p q : FT) : FT := fun env => match p env with
  | some true => q env
  | some false => some false
  | none => none
def tOrF (p q : FT) : FT := fun env => match p env with
  | some true => some true
  | some false => q env
  | none => none
def tNotF (p : FT) : FT := fun env => (p env).map (!·)
variable {p q : FT} {rest : List Expr}
theorem tAnd_of {K : PySem.W.Frag} {σ : L2.St} {H : Hp} {Q : Bool → Hp → Prop} (w : tT K (tAndF p q) σ H Q) : tAnd (tT K p) (tT K q) σ H Q := by
  obtain ⟨Z, Hf, env, d, R, hf, k⟩ := w
  unfold tAndF at hf
  split at hf
  · rename_i hp
    exact ⟨Z, Hf, env, true, R, hp, fun H1 Hf1 s1 => iteT ⟨Z, Hf1, env, d, R.step s1, hf, fun H2 Hf2 s2 => k H2 Hf2 (s1.trans s2)⟩⟩
  · rename_i hp
    cases hf
    exact ⟨Z, Hf, env, false, R, hp, fun H1 Hf1 s1 => iteF (k H1 Hf1 s1)⟩
  · cases hf
theorem tOr_of {K : PySem.W.Frag} {σ : L2.St} {H : Hp} {Q : Bool → Hp → Prop} (w : tT K (tOrF p q) σ H Q) : tOr (tT K p) (tT K q) σ H Q := by
  obtain ⟨Z, Hf, env, d, R, hf, k⟩ := w
  unfold tOrF at hf
  split at hf
  · rename_i hp
    cases hf
    exact ⟨Z, Hf, env, true, R, hp, fun H1 Hf1 s1 => iteT (k H1 Hf1 s1)⟩
  · rename_i hp
    exact ⟨Z, Hf, env, false, R, hp, fun H1 Hf1 s1 => iteF ⟨Z, Hf1, env, d, R.step s1, hf, fun H2 Hf2 s2 => k H2 Hf2 (s1.trans s2)⟩⟩
  · cases hf
theorem pw_le {e : Expr} {t t' : TT} (h : PW X e t) (hm : ∀ σ H Q, t' σ H Q → t σ H Q) : PW X e t' := ⟨fun wh pins s σ H Q I q => h.run wh pins s σ H Q I (hm σ H Q q)⟩
theorem w_and (ha : PT X a (tT X.K p)) (hb : PW X (.BoolOp .And (b :: rest) pos) (tT X.K q)) : PW X (.BoolOp .And (a :: b :: rest) pos) (tT X.K (tAndF p q)) := pw_le (pw_and ha hb) fun _ _ _ w => tAnd_of w
theorem w_or (ha : PT X a (tT X.K p)) (hb : PW X (.BoolOp .Or (b :: rest) pos) (tT X.K q)) : PW X (.BoolOp .Or (a :: b :: rest) pos) (tT X.K (tOrF p q)) := pw_le (pw_or ha hb) fun _ _ _ w => tOr_of w
theorem t_not (ha : PT X a (tT X.K p)) : PT X (.UnaryOp .Not a pos) (tT X.K (tNotF p)) := pt_le (pt_not ha) fun σ H Q ⟨Z, Hf, env, d, R, hf, k⟩ => by
  unfold tNotF at hf
  obtain ⟨x, hx, rfl⟩ := Option.map_eq_some_iff.mp hf
  exact ⟨Z, Hf, env, x, R, hx, fun H1 Hf1 s1 => k H1 Hf1 s1⟩
/-- and, or, not as values (bools) -/
def eAnd (f g : FE) : FE := fun env => match f env with
  | some (.bool true) => g env
  | some (.bool false) => some (.bool false)
  | _ => none
def eOr (f g : FE) : FE := fun env => match f env with
  | some (.bool true) => some (.bool true)
  | some (.bool false) => g env
  | _ => none
def eNot (f : FE) : FE := fun env => match f env with
  | some (.bool b) => some (.bool (!b))
  | _ => none
theorem x_one {op} (ha : PE X a (tE X.K f)) : PE X (.BoolOp op [a] pos) (tE X.K f) := pe_one ha
theorem x_and (ha : PE X a (tE X.K f)) (hb : PE X (.BoolOp .And (b :: rest) pos) (tE X.K g)) : PE X (.BoolOp .And (a :: b :: rest) pos) (tE X.K (eAnd f g)) := pe_le (pe_and ha hb) fun σ H Q ⟨Z, Hf, env, d, R, hf, k⟩ => by
  unfold eAnd at hf
  split at hf
  · rename_i hp
    exact ⟨Z, Hf, env, _, R, hp, fun v H1 Hf1 s1 d1 => ⟨true, d1.bl_eq, iteT ⟨Z, Hf1, env, d, R.step s1, hf, fun u H2 Hf2 s2 d2 => k u H2 Hf2 (s1.trans s2) d2⟩⟩⟩
  · rename_i hp
    cases hf
    exact ⟨Z, Hf, env, _, R, hp, fun v H1 Hf1 s1 d1 => ⟨false, d1.bl_eq, iteF (k _ H1 Hf1 s1 (.bl false))⟩⟩
  · cases hf
theorem x_or (ha : PE X a (tE X.K f)) (hb : PE X (.BoolOp .Or (b :: rest) pos) (tE X.K g)) : PE X (.BoolOp .Or (a :: b :: rest) pos) (tE X.K (eOr f g)) := pe_le (pe_or ha hb) fun σ H Q ⟨Z, Hf, env, d, R, hf, k⟩ => by
  unfold eOr at hf
  split at hf
  · rename_i hp
    cases hf
    exact ⟨Z, Hf, env, _, R, hp, fun v H1 Hf1 s1 d1 => ⟨true, d1.bl_eq, iteT (k _ H1 Hf1 s1 (.bl true))⟩⟩
  · rename_i hp
    exact ⟨Z, Hf, env, _, R, hp, fun v H1 Hf1 s1 d1 => ⟨false, d1.bl_eq, iteF ⟨Z, Hf1, env, d, R.step s1, hf, fun u H2 Hf2 s2 d2 => k u H2 Hf2 (s1.trans s2) d2⟩⟩⟩
  · cases hf
theorem x_not (ha : PE X a (tE X.K f)) : PE X (.UnaryOp .Not a pos) (tE X.K (eNot f)) := pe_le (pe_not ha) fun σ H Q ⟨Z, Hf, env, d, R, hf, k⟩ => by
  unfold eNot at hf
  split at hf
  · rename_i hp
    cases hf
    exact ⟨Z, Hf, env, _, R, hp, fun v H1 Hf1 s1 d1 => ⟨_, d1.bl_eq, k _ H1 Hf1 s1 (.bl _)⟩⟩
  · cases hf
def eIf (p : FT) (f g : FE) : FE := fun env => match p env with
  | some true => f env
  | some false => g env
  | none => none
theorem x_if {t : Expr} (ht : PT X t (tT X.K p)) (ha : PE X a (tE X.K f)) (hb : PE X b (tE X.K g)) : PE X (.IfExp t a b pos) (tE X.K (eIf p f g)) := pe_le (pe_ifExp ht ha hb) fun σ H Q ⟨Z, Hf, env, d, R, hf, k⟩ => by
  unfold eIf at hf
  split at hf
  · rename_i hp
    exact ⟨Z, Hf, env, true, R, hp, fun H1 Hf1 s1 => iteT ⟨Z, Hf1, env, d, R.step s1, hf, fun u H2 Hf2 s2 d2 => k u H2 Hf2 (s1.trans s2) d2⟩⟩
  · rename_i hp
    exact ⟨Z, Hf, env, false, R, hp, fun H1 Hf1 s1 => iteF ⟨Z, Hf1, env, d, R.step s1, hf, fun u H2 Hf2 s2 d2 => k u H2 Hf2 (s1.trans s2) d2⟩⟩
  · cases hf

def aNil : FL := fun _ => some []
def aCons (f : FE) (r : FL) : FL := fun env => (f env).bind fun x => (r env).bind fun xs => some (x :: xs)
variable {es : List Expr} {r : FL}
theorem a_nil : PA X [] (tA X.K aNil) := pa_le pa_nil fun σ H Q ⟨Z, Hf, env, d, R, hf, k⟩ => by
  cases hf
  exact k [] H Hf (.refl R.st.i) .nil
theorem a_cons (ha : PE X e (tE X.K f)) (hr : PA X es (tA X.K r)) (hs : starEach (e :: es) X.env = (false, eval e X.env) :: starEach es X.env := by rfl) : PA X (e :: es) (tA X.K (aCons f r)) :=
  pa_le (pa_cons ha hr hs) fun σ H Q ⟨Z, Hf, env, d, R, hf, k⟩ => by
    obtain ⟨x, hx, hf⟩ := Option_bind_some hf
    obtain ⟨xs, hxs, hf⟩ := Option_bind_some hf
    cases hf
    exact ⟨Z, Hf, env, x, R, hx, fun v H1 Hf1 s1 d1 => ⟨Z, Hf1, env, xs, R.step s1, hxs, fun vs H2 Hf2 s2 d2 => k (v :: vs) H2 Hf2 (s1.trans s2) (.cons (Dp_up s2.f d1) d2)⟩⟩
def eTup (r : FL) : FE := fun env => (r env).bind fun xs => if xs.length ≤ 100000 then some (.tuple xs) else none
def lLst (r : FL) : FL := fun env => (r env).bind fun xs => if xs.length ≤ 100000 then some xs else none
theorem x_tup {x1} (h : PA X es (tA X.K r)) : PE X (.Tuple es x1 pos) (tE X.K (eTup r)) := pe_le (pe_tup h) fun σ H Q ⟨Z, Hf, env, d, R, hf, k⟩ => by
  obtain ⟨xs, hxs, hf⟩ := Option_bind_some hf
  split at hf
  · rename_i hl
    cases hf
    refine ⟨Z, Hf, env, xs, R, hxs, fun vs H1 Hf1 s1 d1 => ⟨size_le (by rw [d1.len]; exact hl), fun p hp => ?_⟩⟩
    have s2 := Stp.new (o := .tup vs) s1.i hp
    exact k _ _ _ (s1.trans s2) (.tup (SqT.of upd_same) (DpAll_up s2.f d1))
  · cases hf
theorem l_lst (h : PA X es (tA X.K r)) : PE X (.List es pos) (tL X.K (lLst r)) := pe_le (pe_lst h) fun σ H Q ⟨Z, Hf, env, d, R, hf, k⟩ => by
  obtain ⟨xs, hxs, hf⟩ := Option_bind_some hf
  split at hf
  · rename_i hl
    cases hf
    refine ⟨Z, Hf, env, d, R, hxs, fun vs H1 Hf1 s1 d1 => ⟨size_le (by rw [d1.len]; exact hl), fun p hp => ?_⟩⟩
    exact k p vs _ _ (s1.trans (Stp.hid s1.i hp)) (s1.h.free hp) (s1.i.free hp) upd_same d1
  · cases hf
/-- a new list, taken as a value -/
def eL (l : FL) : FE := fun env => (l env).map .list
theorem x_L {l : FL} (h : PE X e (tL X.K l)) : PE X e (tE X.K (eL l)) := pe_le h fun σ H Q ⟨Z, Hf, env, d, R, hf, k⟩ => by
  unfold eL at hf
  obtain ⟨xs, hxs, hq⟩ := Option.map_eq_some_iff.mp hf
  subst hq
  refine ⟨Z, Hf, env, xs, R, hxs, fun p vs H1 Hf1 s1 h0 h1 h2 d1 => ?_⟩
  exact k _ _ _ (s1.show h0 h1 h2) (.lst (SqL.of upd_same) (DpAll_up (same_new h1) d1))

def eCall (F : List PyData → Option PyData) (r : FL) : FE := fun env => (r env).bind F
def lCall (F : List PyData → Option (List PyData)) (r : FL) : FL := fun env => (r env).bind F
theorem tCB_of {G : List PyData → Option PyData} {K : PySem.W.Frag} {σ : L2.St} {H : Hp} {Q : VK} (w : tE K (eCall G r) σ H Q) : tCB (rDc K G) (tA K r) σ H Q := by
  obtain ⟨Z, Hf, env, d, R, hf, k⟩ := w
  obtain ⟨xs, hxs, hf⟩ := Option_bind_some hf
  exact ⟨Z, Hf, env, xs, R, hxs, fun vs H1 Hf1 s1 d1 => ⟨Hf1, xs, d, s1.i, d1, hf, fun v H2 Hf2 s2 d2 => k v H2 Hf2 (s1.trans s2) d2⟩⟩
theorem x_callB {G : List PyData → Option PyData} {x : Str} {id : String} {p : Pos} (hc : CallD X (.builtin id) G) (hg : Gl X x) (hm : X.mg x = none) (hv : bootBuiltins x = some (.builtin id)) (ha : PA X (e :: es) (tA X.K r)) (hn : x ≠ "__name__" := by decide) (hdb : (x == ("__debug__" : Str)) = false := by decide)
    (he : starEach (e :: es) X.env = (false, eval e X.env) :: starEach es X.env := by rfl) (hpl : (backTo pos (starEach es X.env)).any (·.1) = false := by rfl) :
    PE X (.Call (.Name x p) (e :: es) [] pos) (tE X.K (eCall G r)) := pe_le (pe_callB hc hg hm hv ha hn hdb he hpl) fun _ _ _ w => tCB_of w
theorem x_callTy {G : List PyData → Option PyData} {x : Str} {T : String} {p : Pos} (hc : CallD X (.type T) G) (hg : Gl X x) (hm : X.mg x = none) (hv : bootBuiltins x = some (.type T)) (ha : PA X (e :: es) (tA X.K r)) (hn : x ≠ "__name__" := by decide) (hdb : (x == ("__debug__" : Str)) = false := by decide)
    (he : starEach (e :: es) X.env = (false, eval e X.env) :: starEach es X.env := by rfl) (hpl : (backTo pos (starEach es X.env)).any (·.1) = false := by rfl) :
    PE X (.Call (.Name x p) (e :: es) [] pos) (tE X.K (eCall G r)) := pe_le (pe_callTy hc hg hm hv ha hn hdb he hpl) fun _ _ _ w => tCB_of w
end
end Fi

namespace Fi
open PySem L2

def tG (K : PySem.W.Frag) (m : Bool) (sl : List Nat) (g : PyData → En → Option En) : TG := fun v σ H Q => ∃ (Z : Hp × Hp) (Hf : Hp) (env : En) (d : PyData) (env' : En), Rel K Z Hf H env σ ∧ Dp K Hf v d ∧ g d env = some env' ∧
  ∀ σ' H' Hf', Same Hf Hf' → Rel K Z Hf' H' env' σ' → (∀ i : Nat, i ∉ sl → σ'[i]? = σ[i]?) → σ'.length = σ.length → (m = false → H' = H ∧ Hf' = Hf) → Q σ' H'
def tGs (K : PySem.W.Frag) (m : Bool) (sl : List Nat) (g : List PyData → En → Option En) : TGs := fun vs σ H Q => ∃ (Z : Hp × Hp) (Hf : Hp) (env : En) (ds : List PyData) (env' : En), Rel K Z Hf H env σ ∧ DpAll K Hf vs ds ∧ g ds env = some env' ∧
  ∀ σ' H' Hf', Same Hf Hf' → Rel K Z Hf' H' env' σ' → (∀ i : Nat, i ∉ sl → σ'[i]? = σ[i]?) → σ'.length = σ.length → (m = false → H' = H ∧ Hf' = Hf) → Q σ' H'
def gSet (i : Nat) : PyData → En → Option En := fun d env => some (env.set i (some (.val d)))
def gsNil : List PyData → En → Option En := fun ds env => match ds with
  | [] => some env
  | _ => none
def gsCons (g : PyData → En → Option En) (r : List PyData → En → Option En) : List PyData → En → Option En := fun ds env => match ds with
  | d :: ds => (g d env).bind (r ds)
  | [] => none
def gTupF (n : Nat) (r : List PyData → En → Option En) : PyData → En → Option En := fun d env => match d with
  | .tuple ds => if ds.length = n then r ds env else none
  | _ => none
def gSub (i : Nat) (f : FE) : PyData → En → Option En := fun d env => match env[i]? with
  | some (some (.own l)) => match f env with
    | some (.int k) => match ixN l.length k with
      | some j => some (env.set i (some (.own (l.set j d))))
      | none => none
    | _ => none
  | _ => none
section
variable {X : Cx} {pos : Pos}
theorem g_name (i : Nat) {x : Str} (hN : X.N.Nodup) (hi : X.N[i]? = some x := by rfl) (hx : Loc X.env.scope x := by first | exact Or.inl rfl | exact Or.inr rfl) (hf : X.fn x = true ∨ X.env.scope.names.lookup x = some .local := by first | exact .inl rfl | exact .inr rfl | assumption) :
    PG X (.Name x pos) (tG X.K false [i] (gSet i)) := by
  refine pg_le (pg_name hN hi hx hf) fun v σ H Q ⟨Z, Hf, env, d, env', R, hd, hg, k⟩ => ?_
  cases hg
  refine k (σ.set i (some v)) H Hf (Same.refl _) (R.set i hd) (fun j hj => ?_) (List.length_set ..) fun _ => ⟨rfl, rfl⟩
  rw [List.getElem?_set_ne (fun e => hj (by simp [e]))]
theorem gs_nil {m : Bool} : PGs X [] (tGs X.K m [] gsNil) := by
  refine ⟨fun pins s σ H vs us Q I r ⟨Z, Hf, env, ds, env', R, hd, hg, k⟩ => ?_⟩
  unfold gsNil at hg
  split at hg
  · cases hg
    cases hd
    exact pgs_nil.run pins s σ H [] us Q I r ⟨rfl, k σ H Hf (Same.refl _) R (fun _ _ => rfl) rfl fun _ => ⟨rfl, rfl⟩⟩
  · cases hg
theorem gs_cons {e : Expr} {es : List Expr} {m n : Bool} {s1 s2 : List Nat} {g : PyData → En → Option En} {r : List PyData → En → Option En} (h1 : PG X e (tG X.K m s1 g)) (h2 : PGs X es (tGs X.K n s2 r))
    (hs : (assignEach (e :: es) X.env).map (·.2) = assign e X.env :: (assignEach es X.env).map (·.2) := by rfl) : PGs X (e :: es) (tGs X.K (m || n) (s1 ++ s2) (gsCons g r)) := by
  refine ⟨fun pins s σ H vs us Q I q ⟨Z, Hf, env, ds, env', R, hd, hg, k⟩ => ?_⟩
  refine (pgs_cons h1 h2 hs).run pins s σ H vs us Q I q ?_
  unfold gsCons at hg
  split at hg
  · rename_i d ds
    cases hd with
    | cons hd ht =>
      obtain ⟨e1, hg1, hg⟩ := Option_bind_some hg
      refine ⟨_, _, rfl, Z, Hf, env, d, e1, R, hd, hg1, fun σ' H' Hf' s1 R' p1 l1 m1 => ?_⟩
      refine ⟨Z, Hf', e1, ds, env', R', DpAll_up s1 ht, hg, fun σ2 H2 Hf2 s2 R2 p2 l2 m2 => ?_⟩
      refine k σ2 H2 Hf2 (s1.trans s2) R2 (fun i hi => ?_) (l2.trans l1) fun hm => ?_
      · have hi' : i ∉ _ ∧ i ∉ _ := ⟨fun q => hi (List.mem_append_left _ q), fun q => hi (List.mem_append_right _ q)⟩
        rw [p2 i hi'.2, p1 i hi'.1]
      · rw [Bool.or_eq_false_iff] at hm
        obtain ⟨a1, a2⟩ := m1 hm.1
        obtain ⟨b1, b2⟩ := m2 hm.2
        exact ⟨b1.trans a1, b2.trans a2⟩
  · cases hg
theorem g_tup {es : List Expr} {k n : Nat} {m : Bool} {sl : List Nat} {r : List PyData → En → Option En} (hc : X.calm = true) (h : PGs X es (tGs X.K m sl r))
    (hn : (assignEach es X.env).length = n := by rfl) (hst : (assignEach es X.env).findIdx? (·.1) = none := by rfl) : PG X (.Tuple es k pos) (tG X.K m sl (gTupF n r)) := by
  refine pg_le (pg_tup hc h hn hst) fun v σ H Q ⟨Z, Hf, env, d, env', R, hd, hg, kk⟩ => ?_
  unfold gTupF at hg
  split at hg
  · rename_i ds
    split at hg
    · rename_i hl
      obtain ⟨a, xs, rfl, hp, ha⟩ := hd.tup_of
      exact ⟨a, xs, rfl, sqT_up R.st.i hp, by rw [ha.len]; exact hl, Z, Hf, env, ds, env', R, ha, hg, kk⟩
    · cases hg
  · cases hg
end

def sNext : FS := fun env => some (.next env)
def sSeq (f g : FS) : FS := fun env => match f env with
  | some (.next e) => g e
  | o => o
def sAsg (f : FE) (g : PyData → En → Option En) : FS := fun env => (f env).bind fun d => (g d env).map .next
def sSet (i : Nat) (f : FE) : FS := fun env => (f env).map fun d => .next (env.set i (some (.val d)))
def sOwn (i : Nat) (l : FL) : FS := fun env => (l env).map fun ds => .next (env.set i (some (.own ds)))
def sPar (i j : Nat) (r : FL) : FS := fun env => match r env with
  | some [x, y] => some (.next ((env.set i (some (.val x))).set j (some (.val y))))
  | _ => none
def sParL (i j : Nat) (l : FL) (h : FE) : FS := fun env => (l env).bind fun xs => (h env).bind fun d => some (.next ((env.set i (some (.own xs))).set j (some (.val d))))
def sIf (p : FT) (f g : FS) : FS := fun env => match p env with
  | some true => f env
  | some false => g env
  | none => none
def sRet (f : FE) : FS := fun env => (f env).map .ret
def sRetL (l : FL) : FS := fun env => (l env).map .retL
def sRetO (i : Nat) : FS := fun env => match env[i]? with
  | some (some (.own l)) => some (.retL l)
  | _ => none
def sDrop (f : FE) : FS := fun env => (f env).map fun _ => .next env
def sAug (i : Nat) (g : Int → Int → Int) (f : FE) : FS := fun env => match eVar i env, f env with
  | some (.int a), some (.int b) => some (.next (env.set i (some (.val (.int (g a b))))))
  | _, _ => none
def sApp (i : Nat) (f : FE) : FS := fun env => match env[i]? with
  | some (some (.own l)) => (f env).bind fun d => if l.length < 100000 then some (.next (env.set i (some (.own (l ++ [d]))))) else none
  | _ => none
def sFrz (i : Nat) (f : FS) : FS := fun env => f (frz i env)
section
variable {X : Cx} {st : Stmt} {rest : List Stmt} {e : Expr} {pos : Pos} {f g : FS} {h : FE} {l : FL} {p : FT}
theorem s_nil : PSs X [] (tS X.K sNext) := pss_le pss_nil fun D σ H ⟨Z, Hf, env, o, R, hf, k⟩ => by
  cases hf
  exact k σ H Hf (Same.refl _) R
theorem s_cons (h1 : PS X st (tS X.K f)) (h2 : PSs X rest (tS X.K g)) : PSs X (st :: rest) (tS X.K (sSeq f g)) := pss_le (pss_cons h1 h2) fun D σ H ⟨Z, Hf, env, o, R, hf, k⟩ => by
  unfold sSeq at hf
  cases q : f env with
  | none =>
    rw [q] at hf
    cases hf
  | some o1 =>
    rw [q] at hf
    cases o1 with
    | next e1 => exact ⟨Z, Hf, env, .next e1, R, q, fun σ' H' Hf' s1 R' => ⟨Z, Hf', e1, o, R', hf, k.up s1⟩⟩
    | brk e1 =>
      cases hf
      exact ⟨Z, Hf, env, .brk e1, R, q, k⟩
    | cont e1 =>
      cases hf
      exact ⟨Z, Hf, env, .cont e1, R, q, k⟩
    | ret d =>
      cases hf
      exact ⟨Z, Hf, env, .ret d, R, q, k⟩
    | retL d =>
      cases hf
      exact ⟨Z, Hf, env, .retL d, R, q, k⟩
    | retD d =>
      cases hf
      exact ⟨Z, Hf, env, .retD d, R, q, k⟩
theorem s_one (h1 : PS X st (tS X.K f)) : PSs X [st] (tS X.K f) := pss_one h1
theorem s_frz (i : Nat) (h1 : PSs X rest (tS X.K f)) : PSs X rest (tS X.K (sFrz i f)) := pss_le h1 fun D σ H ⟨Z, Hf, env, o, R, hf, k⟩ => by
  obtain ⟨Hf', s1, R'⟩ := R.frz i
  exact ⟨Z, Hf', frz i env, o, R', hf, k.up s1⟩
theorem s_asg {tg : Expr} {m : Bool} {sl : List Nat} {gg : PyData → En → Option En} (he : PE X e (tE X.K h)) (hg : PG X tg (tG X.K m sl gg)) (hs : swapsWithSole [tg] e pos.line X.env = pure false := by rfl) (hw : swappedStores [tg] e X.env = pure none := by rfl)
    (h1 : (assignEach [tg] X.env).map (·.2) = [assign tg X.env] := by rfl) : PS X (.Assign [tg] e pos) (tS X.K (sAsg h gg)) := ps_le (ps_asg he hg hs hw h1) fun D σ H ⟨Z, Hf, env, o, R, hf, k⟩ => by
  obtain ⟨d, hd, hf⟩ := Option_bind_some hf
  obtain ⟨env', hg, rfl⟩ := Option.map_eq_some_iff.mp hf
  exact ⟨Z, Hf, env, d, R, hd, fun v H1 Hf1 s1 d1 => ⟨Z, Hf1, env, d, env', R.step s1, d1, hg, fun σ' H' Hf' s2 R' _ _ _ => k σ' H' Hf' (s1.f.trans s2) R'⟩⟩
theorem s_set (i : Nat) {x : Str} {pos' : Pos} (hN : X.N.Nodup) (he : PE X e (tE X.K h)) (hi : X.N[i]? = some x := by rfl) (hx : Loc X.env.scope x := by first | exact Or.inl rfl | exact Or.inr rfl) (hs : swapsWith e (some (.Name x pos')) pos.line X.env = pure false := by rfl) (hf : X.fn x = true ∨ X.env.scope.names.lookup x = some .local := by first | exact .inl rfl | exact .inr rfl | assumption) :
    PS X (.Assign [.Name x pos'] e pos) (tS X.K (sSet i h)) := ps_le (ps_set hN hi hx he hs hf) fun D σ H ⟨Z, Hf, env, o, R, hf, k⟩ => by
  obtain ⟨d, hd, rfl⟩ := Option.map_eq_some_iff.mp hf
  exact ⟨Z, Hf, env, d, R, hd, fun v H1 Hf1 s1 d1 => k _ H1 Hf1 s1.f ((R.step s1).set i d1)⟩
theorem s_own (i : Nat) {x : Str} {pos' : Pos} (hN : X.N.Nodup) (he : PE X e (tL X.K l)) (hi : X.N[i]? = some x := by rfl) (hx : Loc X.env.scope x := by first | exact Or.inl rfl | exact Or.inr rfl) (hs : swapsWith e (some (.Name x pos')) pos.line X.env = pure false := by rfl) (hf : X.fn x = true ∨ X.env.scope.names.lookup x = some .local := by first | exact .inl rfl | exact .inr rfl | assumption) :
    PS X (.Assign [.Name x pos'] e pos) (tS X.K (sOwn i l)) := ps_le (ps_set hN hi hx he hs hf) fun D σ H ⟨Z, Hf, env, o, R, hf, k⟩ => by
  obtain ⟨d, hd, rfl⟩ := Option.map_eq_some_iff.mp hf
  exact ⟨Z, Hf, env, d, R, hd, fun p vs H1 Hf1 s1 h0 h1 h2 d1 => k _ H1 Hf1 s1.f (R.setOwn s1 i h0 h1 h2 d1)⟩
theorem s_par (i j : Nat) {x y : Str} {a b : Expr} {px py pt : Pos} {kt k2 pt2} (hc : X.calm = true) (hN : X.N.Nodup) (ha : PA X [a, b] (tA X.K l)) (hi : X.N[i]? = some x := by rfl) (hj : X.N[j]? = some y := by rfl) (hij : i ≠ j := by decide)
    (hx : X.env.scope.names.lookup x = some .local := by rfl) (hy : X.env.scope.names.lookup y = some .local := by rfl) (hw : swappedStores [.Tuple [.Name x px, .Name y py] kt pt] (.Tuple [a, b] k2 pt2) X.env = pure (some [x, y]) := by rfl)
    (hs : swapsWithSole [.Tuple [.Name x px, .Name y py] kt pt] (.Tuple [a, b] k2 pt2) pos.line X.env = pure false := by rfl) :
    PS X (.Assign [.Tuple [.Name x px, .Name y py] kt pt] (.Tuple [a, b] k2 pt2) pos) (tS X.K (sPar i j l)) := ps_le (ps_par hc hN hi hj hij hx hy ha hw hs) fun D σ H ⟨Z, Hf, env, o, R, hf, k⟩ => by
  unfold sPar at hf
  split at hf
  · rename_i u v hl
    cases hf
    refine ⟨Z, Hf, env, _, R, hl, fun vs H1 Hf1 s1 d1 => ?_⟩
    obtain ⟨w1, w2, rfl, e1, e2⟩ := d1.two
    exact ⟨w1, w2, rfl, k _ H1 Hf1 s1.f (((R.step s1).set i e1).set j e2)⟩
  · cases hf
theorem s_if {c : Expr} {a b : List Stmt} (hc : PT X c (tT X.K p)) (ha : PSs X a (tS X.K f)) (hb : PSs X b (tS X.K g)) : PS X (.If c a b pos) (tS X.K (sIf p f g)) := ps_le (ps_if hc ha hb) fun D σ H ⟨Z, Hf, env, o, R, hf, k⟩ => by
  unfold sIf at hf
  split at hf
  · rename_i hp
    exact ⟨Z, Hf, env, true, R, hp, fun H1 Hf1 s1 => iteT ⟨Z, Hf1, env, o, R.step s1, hf, k.up s1.f⟩⟩
  · rename_i hp
    exact ⟨Z, Hf, env, false, R, hp, fun H1 Hf1 s1 => iteF ⟨Z, Hf1, env, o, R.step s1, hf, k.up s1.f⟩⟩
  · cases hf
theorem s_ret (he : PE X e (tE X.K h)) : PS X (.Return (some e) pos) (tS X.K (sRet h)) := ps_le (ps_ret he) fun D σ H ⟨Z, Hf, env, o, R, hf, k⟩ => by
  obtain ⟨d, hd, rfl⟩ := Option.map_eq_some_iff.mp hf
  exact ⟨Z, Hf, env, d, R, hd, fun v H1 Hf1 s1 d1 => k v H1 Hf1 (R.st.trans s1) d1⟩
theorem s_retL (he : PE X e (tL X.K l)) : PS X (.Return (some e) pos) (tS X.K (sRetL l)) := ps_le (ps_ret he) fun D σ H ⟨Z, Hf, env, o, R, hf, k⟩ => by
  obtain ⟨d, hd, rfl⟩ := Option.map_eq_some_iff.mp hf
  exact ⟨Z, Hf, env, d, R, hd, fun p vs H1 Hf1 s1 h0 h1 h2 d1 => k p vs H1 Hf1 (R.st.trans s1) (R.st.h.free h0) h1 h2 d1⟩
theorem s_retO (i : Nat) {x : Str} {p : Pos} (hN : X.N[i]? = some x := by rfl) (hv : Vis X.env.scope x := by first | exact Or.inl rfl | exact Or.inr (Or.inl rfl) | exact Or.inr (Or.inr rfl)) (hd : (x == ("__debug__" : Str)) = false := by decide)
    (hcd : (x == ("__classdict__" : Str)) = false := by decide) : PS X (.Return (some (.Name x p)) pos) (tS X.K (sRetO i)) := ps_le (ps_ret (pe_var hN hv hd hcd)) fun D σ H ⟨Z, Hf, env, o, R, hf, k⟩ => by
  unfold sRetO at hf
  split at hf
  · rename_i l hl
    cases hf
    obtain ⟨w, hs, p, vs, rfl, hz, hf, hp, ha⟩ := R.sl i _ hl
    exact ⟨.ref p, hs, k p vs H Hf R.st hz hf hp ha⟩
  · cases hf
theorem s_drop (he : PE X e (tE X.K h)) (hs : swapsWith e none pos.line X.env = pure false := by rfl) : PS X (.Expr e pos) (tS X.K (sDrop h)) := ps_le (ps_expr he hs) fun D σ H ⟨Z, Hf, env, o, R, hf, k⟩ => by
  obtain ⟨d, hd, rfl⟩ := Option.map_eq_some_iff.mp hf
  exact ⟨Z, Hf, env, d, R, hd, fun v H1 Hf1 s1 d1 => k σ H1 Hf1 s1.f (R.step s1)⟩
theorem s_app (i : Nat) {x : Str} {p apos cpos : Pos} (he : PE X e (tE X.K h)) (hN : X.N[i]? = some x := by rfl) (hv : Vis X.env.scope x := by first | exact Or.inl rfl | exact Or.inr (Or.inl rfl) | exact Or.inr (Or.inr rfl)) (hd : (x == ("__debug__" : Str)) = false := by decide)
    (hcd : (x == ("__classdict__" : Str)) = false := by decide)
    (hbase : attributeBase (.Name x p) "append" X.env (eval (.Name x p) X.env) = eval (.Name x p) X.env := by rfl)
    (hfew : ((backTo cpos (starEach (e :: []) X.env)).all (fun x => !x.1) && (backToKw cpos (keywordEach [] X.env)).all (fun x => x.1.isSome)
      && decide ((e :: []).length + ([] : List Keyword).length + (if ([] : List Keyword).isEmpty then 0 else 1) < 30)) = true := by rfl)
    (hline : (apos.endLine == cpos.line) = true := by rfl) (hs : starEach (e :: []) X.env = (false, eval e X.env) :: starEach [] X.env := by rfl) (hplain : (backTo cpos (starEach [] X.env)).any (·.1) = false := by rfl)
    (hsw : swapsWith (.Call (.Attribute (.Name x p) "append" apos) [e] [] cpos) none pos.line X.env = pure false := by rfl) :
    PS X (.Expr (.Call (.Attribute (.Name x p) "append" apos) [e] [] cpos) pos) (tS X.K (sApp i h)) :=
  ps_le (ps_expr (pe_bm PySem.F.plainAttrs_list PySem.F.slot_list_append PySem.F.type_list_append mt_append (pe_var hN hv hd hcd) (pa_cons he pa_nil hs) hbase hfew hline hs hplain) hsw) fun D σ H ⟨Z, Hf, env, o, R, hf, k⟩ => by
    unfold sApp at hf
    split at hf
    · rename_i l hl
      obtain ⟨d, hd, hf⟩ := Option_bind_some hf
      split at hf
      · rename_i hz
        cases hf
        obtain ⟨w, hs, q, vs, rfl, hz0, hf0, hp, ha⟩ := R.sl i _ hl
        refine ⟨.ref q, hs, .inl ⟨rfl, _, SqL.of hp⟩, Z, Hf, env, d, R, hd, fun v H1 Hf1 s1 d1 => ?_⟩
        have ha1 := DpAll_up s1.f ha
        refine ⟨q, vs, v, rfl, rfl, s1.h q _ hp, Nat.lt_of_lt_of_le (by rw [ha.len]; exact hz) (by decide : 100000 ≤ sizeLine), ?_⟩
        exact k σ _ Hf1 s1.f ((R.step s1).mut hl hs (ha1.app (.cons d1 .nil)))
      · cases hf
    · cases hf
end

def YD (K : PySem.W.Frag) (Hf : Hp) (ds : List PyData) : Nat → Hp → V → Hp → Prop := fun i H x H' => ∃ d, ds[i]? = some d ∧
  ((H' = H ∧ Dp K Hf x d) ∨ ∃ T us dus, x = .ref T ∧ H T = none ∧ H' = upd H T (.tup us) ∧ d = .tuple dus ∧ DpAll K Hf us dus)
abbrev WalkD (K : PySem.W.Frag) (J : It) (Hf : Hp) (ds : List PyData) : Prop := Walk J ds.length (fun H => Same Hf H) (YD K Hf ds)
def tI (K : PySem.W.Frag) (f : FL) : TI := fun σ H R => ∃ (Z : Hp × Hp) (Hf : Hp) (env : En) (ds : List PyData), Rel K Z Hf H env σ ∧ f env = some ds ∧ ∀ J H1 Hf1, Stp Hf H Hf1 H1 → WalkD K J Hf1 ds → R J H1
def iL (f : FE) : FL := fun env => match f env with
  | some (.list l) => some l
  | _ => none
def iT (f : FE) : FL := fun env => match f env with
  | some (.tuple l) => some l
  | _ => none
def iR1 (r : FL) : FL := fun env => match r env with
  | some [.int n] => if -100000 < n ∧ n < 100000 then some ((List.range n.toNat).map fun (i : Nat) => PyData.int (i : Int)) else none
  | _ => none
def iR2 (r : FL) : FL := fun env => match r env with
  | some [.int a, .int n] => if (-100000 < a ∧ a < 100000) ∧ -100000 < n ∧ n < 100000 then some ((List.range (n - a).toNat).map fun (i : Nat) => PyData.int (a + (i : Int))) else none
  | _ => none
section
variable {X : Cx} {tg e : Expr} {pos : Pos} {f : FE} {r : FL}
theorem walkD_seq {K : PySem.W.Frag} {Hf : Hp} {xs : List V} {ds : List PyData} {J : It} {n : Nat} {G : Hp → Prop} (ha : DpAll K Hf xs ds) (w : Walk J xs.length G (YAt xs)) (hG : ∀ H, Same Hf H → G H) : WalkD K J Hf ds := by
  rw [show xs.length = ds.length from ha.len] at w
  refine w.mono hG fun i H x H' _ _ y => ?_
  obtain ⟨d, h1, h2⟩ := ha.get y.2
  exact ⟨d, h1, .inl ⟨y.1, h2⟩⟩
theorem i_list (he : PE X e (tE X.K f)) : PI X tg e (tI X.K (iL f)) := pi_le (pi_list he) fun σ H R ⟨Z, Hf, env, ds, Rl, hf, k⟩ => by
  unfold iL at hf
  split at hf
  · rename_i l hl
    cases hf
    refine ⟨Z, Hf, env, _, Rl, hl, fun v H1 Hf1 s1 d1 => ?_⟩
    obtain ⟨a, xs, rfl, hp, ha⟩ := d1.lst_of
    exact ⟨a, rfl, ⟨xs, s1.i.seq hp⟩, k _ H1 Hf1 s1 (walkD_seq (n := 0) ha walk_list fun H h => h.seq hp)⟩
  · cases hf
theorem i_tup (he : PE X e (tE X.K f)) : PI X tg e (tI X.K (iT f)) := pi_le (pi_tup he) fun σ H R ⟨Z, Hf, env, ds, Rl, hf, k⟩ => by
  unfold iT at hf
  split at hf
  · rename_i l hl
    cases hf
    refine ⟨Z, Hf, env, _, Rl, hl, fun v H1 Hf1 s1 d1 => ?_⟩
    obtain ⟨a, xs, rfl, hp, ha⟩ := d1.tup_of
    exact ⟨a, rfl, ⟨xs, sqT_up s1.i hp⟩, k _ H1 Hf1 s1 (walkD_seq (n := 0) ha walk_tup fun H h => sqT_up h hp)⟩
  · cases hf
theorem walkD_range {K : PySem.W.Frag} {Hf : Hp} {lo : Int} {n : Nat} : WalkD K (Itr lo n) Hf ((List.range n).map fun (i : Nat) => PyData.int (lo + (i : Int))) := by
  have w := walk_range (lo := lo) (n := n)
  show Walk _ ((List.range n).map fun (i : Nat) => PyData.int (lo + (i : Int))).length _ _
  rw [List.length_map, List.length_range]
  refine w.mono (fun _ _ => trivial) fun i H x H' hi _ y => ⟨.int (lo + (i : Int)), ?_, .inl ⟨y.1, ?_⟩⟩
  · rw [List.getElem?_map, List.getElem?_range hi]
    rfl
  · rw [y.2]
    exact .int _
theorem i_range1 {a : Expr} {p pos : Pos} (hg : Gl X "range") (hm : X.mg "range" = none) (ha : PA X [a] (tA X.K r)) (hs : starEach [a] X.env = [(false, eval a X.env)] := by rfl) : PI X tg (.Call (.Name "range" p) [a] [] pos) (tI X.K (iR1 r)) :=
  pi_le (L2.pi_range1 hg hm ha hs) fun σ H R ⟨Z, Hf, env, ds, Rl, hf, k⟩ => by
    unfold iR1 at hf
    split at hf
    · rename_i n hl
      split at hf
      · rename_i hn
        cases hf
        refine ⟨Z, Hf, env, _, Rl, hl, fun vs H1 Hf1 s1 d1 => ?_⟩
        obtain ⟨v, rfl, hv⟩ := d1.one
        cases hv.int_eq
        refine ⟨n, rfl, by omega, by omega, k _ H1 Hf1 s1 ?_⟩
        have w := walkD_range (K := X.K) (Hf := Hf1) (lo := 0) (n := n.toNat)
        simp only [Int.zero_add] at w
        exact w
      · cases hf
    · cases hf
end

def forD (g : PyData → En → Option En) (fb : FS) : List PyData → FS
  | [], env => some (.next env)
  | d :: ds, env => (g d env).bind fun e1 => match fb e1 with
    | some (.next e) => forD g fb ds e
    | some (.cont e) => forD g fb ds e
    | some (.brk e) => some (.next e)
    | some (.ret d) => some (.ret d)
    | some (.retL d) => some (.retL d)
    | some (.retD d) => some (.retD d)
    | none => none
def sFor (fi : FL) (g : PyData → En → Option En) (fb : FS) : FS := fun env => (fi env).bind fun ds => forD g fb ds env
def whileD (p : FT) (fb : FS) : Nat → FS
  | 0, _ => none
  | n + 1, env => match p env with
    | none => none
    | some false => some (.next env)
    | some true => match fb env with
      | some (.next e) => whileD p fb n e
      | some (.cont e) => whileD p fb n e
      | some (.brk e) => some (.next e)
      | some (.ret d) => some (.ret d)
      | some (.retL d) => some (.retL d)
      | some (.retD d) => some (.retD d)
      | none => none
section
variable {X : Cx} {tg iter : Expr} {pos : Pos} {fi : FL} {g : PyData → En → Option En} {fb : FS} {m : Bool} {sl : List Nat} {body : List Stmt}
/-- the item of a turn -/
theorem yd_item {K : PySem.W.Frag} {Z : Hp × Hp} {Hf0 Hf H H' : Hp} {ds : List PyData} {i : Nat} {x : V} {env : En} {σ : L2.St} {d : PyData} (y : YD K Hf0 ds i H x H') (hd : ds[i]? = some d) (R : Rel K Z Hf H env σ) (s : Same Hf0 Hf) :
    ∃ Hf', Stp Hf H Hf' H' ∧ Dp K Hf' x d := by
  obtain ⟨d', h1, h2⟩ := y
  rw [hd] at h1
  cases h1
  rcases h2 with ⟨rfl, hx⟩ | ⟨T, us, dus, rfl, hT, rfl, rfl, hu⟩
  · exact ⟨Hf, .refl R.st.i, Dp_up s hx⟩
  · have st := Stp.new (o := .tup us) R.st.i hT
    exact ⟨_, st, .tup (SqT.of upd_same) (DpAll_up (s.trans st.f) hu)⟩
theorem drop_get {α : Type} {l : List α} {i : Nat} (h : i < l.length) : ∃ d, l[i]? = some d ∧ l.drop i = d :: l.drop (i + 1) := ⟨l[i], List.getElem?_eq_getElem h, List.drop_eq_getElem_cons h⟩
theorem s_for (hp : PassesOwn (model X.prog X.w) X.A X.env X.xe) (hc : X.calm = true) (hi : PI X tg iter (tI X.K fi)) (hg : PG X tg (tG X.K m sl g)) (hb : PSs X body (tS X.K fb))
    (hs : ∀ x, foldedSetIterable iter X.env x = pure x := by intro _; rfl) : PS X (.For tg iter body [] pos) (tS X.K (sFor fi g fb)) := ps_le (ps_for hp hc hi hg hb hs) fun D σ H ⟨Z, Hf, env, o, R, hf, k⟩ => by
  obtain ⟨ds, hds, hf⟩ := Option_bind_some hf
  refine ⟨Z, Hf, env, ds, R, hds, fun J H1 Hf1 s1 w => ?_⟩
  refine for_it w (fun i σ' H' => ∃ (Hf' : Hp) (env' : En), Same Hf1 Hf' ∧ Rel X.K Z Hf' H' env' σ' ∧ forD g fb (ds.drop i) env' = some o) ⟨Hf1, env, Same.refl _, R.step s1, hf⟩ (fun i σ' H' _ ⟨Hf', env', a, R', _⟩ => a.trans R'.st.i) (fun i x σ' H' H2 hi ⟨Hf', env', a, R', q⟩ y => ?_) fun σ' H' ⟨Hf', env', a, R', q⟩ => ?_
  · obtain ⟨d, hd, hdr⟩ := drop_get hi
    rw [hdr] at q
    obtain ⟨e1, hg1, q⟩ := Option_bind_some q
    obtain ⟨Hf2, st2, hx⟩ := yd_item y hd R' a
    refine ⟨Z, Hf2, env', d, e1, R'.step st2, hx, hg1, fun σ3 H3 Hf3 s3 R3 _ _ _ => ?_⟩
    have up : Same Hf1 Hf3 := a.trans (st2.f.trans s3)
    cases hb1 : fb e1 with
    | none =>
      rw [hb1] at q
      cases q
    | some o1 =>
      rw [hb1] at q
      refine ⟨Z, Hf3, e1, o1, R3, hb1, ?_⟩
      cases o1 with
      | next e2 => exact fun σ4 H4 Hf4 s4 R4 => ⟨Hf4, e2, up.trans s4, R4, q⟩
      | cont e2 => exact fun σ4 H4 Hf4 s4 R4 => ⟨Hf4, e2, up.trans s4, R4, q⟩
      | brk e2 =>
        cases q
        exact fun σ4 H4 Hf4 s4 R4 => k σ4 H4 Hf4 (s1.f.trans (up.trans s4)) R4
      | ret d =>
        cases q
        exact k
      | retL d =>
        cases q
        exact k
      | retD d =>
        cases q
        exact k
  · rw [List.drop_of_length_le (Nat.le_refl _)] at q
    cases q
    exact k σ' H' Hf' (s1.f.trans a) R'
end
end Fi

namespace Fi
open PySem L2

def wipeE (env : En) : List Nat → En
  | [] => env
  | v :: vs => (wipeE env vs).set v none
theorem Rel.wipe {K : PySem.W.Frag} {Z : Hp × Hp} {Hf H : Hp} {env : En} {σ : L2.St} (R : Rel K Z Hf H env σ) : ∀ vs : List Nat, Rel K Z Hf H (wipeE env vs) (L2.wipe σ vs)
  | [] => R
  | v :: vs => (Rel.wipe R vs).drop v none
theorem wipe_get (σ : L2.St) : ∀ (vs : List Nat) (i : Nat), (L2.wipe σ vs)[i]? = if i ∈ vs then σ[i]?.map (fun _ => none) else σ[i]?
  | [], i => by simp [L2.wipe]
  | v :: vs, i => by
    unfold L2.wipe
    rw [List.getElem?_set, wipe_length, wipe_get σ vs i]
    by_cases h : v = i
    · subst h
      simp only [if_true, List.mem_cons, true_or]
      by_cases hl : v < σ.length
      · simp [hl]
      · simp [hl, List.getElem?_eq_none (Nat.le_of_not_lt hl)]
    · simp only [h, if_false, List.mem_cons]
      by_cases hm : i ∈ vs
      · simp [hm]
      · have : ¬ (i = v) := fun e => h e.symm
        simp [hm, this]
theorem wipe_same {σ τ : L2.St} {vs : List Nat} (hl : τ.length = σ.length) (h : ∀ i : Nat, i ∉ vs → τ[i]? = σ[i]?) : L2.wipe τ vs = L2.wipe σ vs := by
  apply List.ext_getElem?
  intro i
  rw [wipe_get, wipe_get]
  by_cases hm : i ∈ vs
  · rw [if_pos hm, if_pos hm]
    by_cases hi : i < σ.length
    · rw [List.getElem?_eq_getElem hi, List.getElem?_eq_getElem (by omega)]
      rfl
    · rw [List.getElem?_eq_none (by omega), List.getElem?_eq_none (by omega)]
  · rw [if_neg hm, if_neg hm, h i hm]
theorem wipe_wipe (σ : L2.St) (vs : List Nat) : L2.wipe (L2.wipe σ vs) vs = L2.wipe σ vs := wipe_same (wipe_length σ vs) fun i hi => by rw [wipe_get, if_neg hi]
def lcD (g : PyData → En → Option En) (p : FT) (f : FE) (env : En) : List PyData → Option (List PyData)
  | [] => some []
  | d :: ds => (g d env).bind fun e1 => match p e1 with
    | none => none
    | some true => (f e1).bind fun x => (lcD g p f env ds).bind fun xs => some (x :: xs)
    | some false => lcD g p f env ds
def lLc (fi : FL) (g : PyData → En → Option En) (p : FT) (f : FE) (vs : List Nat) : FL := fun env => (fi env).bind fun ds => if ds.length < 100000 then lcD g p f (wipeE env vs) ds else none
def pYes : FT := fun _ => some true
section
variable {X : Cx}
theorem pts_le {e : List Expr} {t t' : TT} (h : PTs X e t) (hm : ∀ σ H Q, t' σ H Q → t σ H Q) : PTs X e t' := ⟨fun pins s σ H Q I q => h.run pins s σ H Q I (hm σ H Q q)⟩
theorem q_nil : PTs X [] (tT X.K pYes) := pts_le pts_nil fun σ H Q ⟨Z, Hf, env, b, R, hf, k⟩ => by
  cases hf
  exact k H Hf (.refl R.st.i)
theorem q_one {c : Expr} {p : FT} (h : PT X c (tT X.K p)) : PTs X [c] (tT X.K p) := pts_one h
theorem tLc_of {K : PySem.W.Frag} {fi : FL} {g : PyData → En → Option En} {p : FT} {f : FE} {vs sl : List Nat} (hsl : ∀ i ∈ sl, i ∈ vs) {σ : L2.St} {H : Hp} {Q : VK} (w : tL K (lLc fi g p f vs) σ H Q) : tLc (tI K fi) (tG K false sl g) (tT K p) (tE K f) vs σ H Q := by
  obtain ⟨Z, Hf, env, out, R, hf, k⟩ := w
  obtain ⟨ds, hds, hf⟩ := Option_bind_some hf
  split at hf
  · rename_i hlen
    refine ⟨Z, Hf, env, ds, R, hds, fun J H1 Hf1 s1 w D hD => ?_⟩
    have hD0 : H D = none := s1.h.free hD
    have hDf : Hf1 D = none := s1.i.free hD
    have hid := Stp.hid (o := .lst []) s1.i hD
    refine lc_it w (fun i H' => ∃ (Hf' : Hp) (acc : List V) (da rs : List PyData), Stp Hf1 H1 Hf' H' ∧ Hf' D = none ∧ H' D = some (.lst acc) ∧ DpAll K Hf' acc da ∧ da.length ≤ i ∧ lcD g p f (wipeE env vs) (ds.drop i) = some rs ∧ out = da ++ rs)
      ⟨Hf1, [], [], out, hid, hDf, upd_same, .nil, Nat.le_refl _, hf, rfl⟩ (fun i H' _ ⟨Hf', _, _, _, a, _⟩ => a.f.trans a.i) (fun i x H' H2 hi ⟨Hf', acc, da, rs, st, h1, h2, h3, hl, h4, h5⟩ y => ?_) fun H' ⟨Hf', acc, da, rs, st, h1, h2, h3, hl, h4, h5⟩ => ?_
    · obtain ⟨d, hd, hdr⟩ := drop_get hi
      rw [hdr] at h4
      obtain ⟨e1, hg1, h4⟩ := Option_bind_some h4
      have R1 : Rel K Z Hf' H' (wipeE env vs) (L2.wipe σ vs) := ((R.step s1).wipe vs).step st
      obtain ⟨Hf2, st2, hx⟩ := yd_item y hd R1 st.f
      refine ⟨Z, Hf2, wipeE env vs, d, e1, R1.step st2, hx, hg1, fun σ3 H3 Hf3 s3 R3 pt ln mm => ?_⟩
      obtain ⟨rfl, rfl⟩ := mm rfl
      have hw : L2.wipe σ3 vs = L2.wipe σ vs := by
        rw [← wipe_wipe σ vs]
        exact wipe_same (ln.trans rfl) fun i hi => pt i fun q => hi (hsl i q)
      refine ⟨hw, ?_⟩
      have st3 := st.trans st2
      have h1' : Hf3 D = none := st2.n D _ h2 h1
      have h2' : H3 D = some (.lst acc) := st2.h D _ h2
      cases hp : p e1 with
      | none =>
        rw [hp] at h4
        cases h4
      | some b =>
        rw [hp] at h4
        refine ⟨Z, Hf3, e1, b, R3, hp, fun H4 Hf4 s4 => ?_⟩
        have h1'' : Hf4 D = none := s4.n D _ h2' h1'
        have h2'' : H4 D = some (.lst acc) := s4.h D _ h2'
        cases b with
        | false => exact iteF ⟨Hf4, acc, da, rs, st3.trans s4, h1'', h2'', DpAll_up (st2.f.trans s4.f) h3, by omega, h4, h5⟩
        | true =>
          obtain ⟨x', hx', h4⟩ := Option_bind_some h4
          obtain ⟨ys, hy, h4⟩ := Option_bind_some h4
          cases h4
          refine iteT ⟨Z, Hf4, e1, x', R3.step s4, hx', fun v H5 Hf5 s5 d5 => ?_⟩
          have g1 : Hf5 D = none := s5.n D _ h2'' h1''
          have g2 : H5 D = some (.lst acc) := s5.h D _ h2''
          have st5 := (st3.trans s4).trans s5
          have up : Same Hf' Hf5 := st2.f.trans (s4.f.trans s5.f)
          have ha := DpAll_up up h3
          have hi' : i < ds.length := hi
          refine ⟨acc, g2, Nat.lt_of_lt_of_le (by rw [ha.len]; omega) (by decide : 100000 ≤ sizeLine), Hf5, acc ++ [v], da ++ [x'], ys, ⟨st5.f, fun b o e => ?_, fun b o e => ?_, st5.n⟩, g1, upd_same, ha.app (.cons d5 .nil), by rw [List.length_append, List.length_singleton]; omega, hy, by rw [h5, List.append_assoc]; rfl⟩
          · rw [upd_ne (ne_of_none e g1)]
            exact st5.i b o e
          · rw [upd_ne (ne_of_none e hD)]
            exact st5.h b o e
    · rw [List.drop_of_length_le (Nat.le_refl _)] at h4
      cases h4
      rw [List.append_nil] at h5
      subst h5
      exact k D acc H' Hf' (s1.trans st) hD0 h1 h2 h3
  · cases hf
variable {elt tg iter : Expr} {ifs : List Expr} {scope : Scope} {own : List (Str × Nat)} {pos : Pos} {fi : FL} {g : PyData → En → Option En} {p : FT} {f : FE} {sl vs : List Nat}
theorem l_lc (hc : X.calm = true) (hN : X.N.Nodup) (hi : PI X tg iter (tI X.K fi)) (ok : BlkOk X.N X.env.scope scope own)
    (hg : ∀ (s : Shared) (H : Hp) (C : Addr) (cl : List (Str × Addr)) (fp : List Addr), PG (X.blk s H scope (compEnvC scope cl C X.env) fp) tg (tG X.K false sl g)) (ht : ∀ (s : Shared) (H : Hp) (C : Addr) (cl : List (Str × Addr)) (fp : List Addr), PTs (X.blk s H scope (compEnvC scope cl C X.env) fp) ifs (tT X.K p))
    (he : ∀ (s : Shared) (H : Hp) (C : Addr) (cl : List (Str × Addr)) (fp : List Addr), PE (X.blk s H scope (compEnvC scope cl C X.env) fp) elt (tE X.K f)) (hvs : own.map (·.2) = vs := by rfl) (hsl : ∀ i ∈ sl, i ∈ vs := by decide) (hs : ∀ x, foldedSetIterable iter X.env x = pure x := by intro _; rfl) :
    PE X (.ListComp elt [⟨tg, iter, ifs, 0⟩] scope pos) (tL X.K (lLc fi g p f vs)) := by
  subst hvs
  exact pe_le (pe_lc hc hN hi ok hg ht he hs) fun _ _ _ w => tLc_of hsl w
/-- name = [..], on one line -/
theorem s_setLc (i : Nat) {y : Str} {py spos : Pos} (hc : X.calm = true) (hN : X.N.Nodup) (hsw : swapsWith (.ListComp elt [⟨tg, iter, ifs, 0⟩] scope pos) (some (.Name y py)) spos.line X.env = pure true) (hi : PI X tg iter (tI X.K fi)) (ok : BlkOk X.N X.env.scope scope own)
    (hg : ∀ (s : Shared) (H : Hp) (C : Addr) (cl : List (Str × Addr)) (fp : List Addr), PG (X.blk s H scope (compEnvC scope cl C X.env) fp) tg (tG X.K false sl g)) (ht : ∀ (s : Shared) (H : Hp) (C : Addr) (cl : List (Str × Addr)) (fp : List Addr), PTs (X.blk s H scope (compEnvC scope cl C X.env) fp) ifs (tT X.K p))
    (he : ∀ (s : Shared) (H : Hp) (C : Addr) (cl : List (Str × Addr)) (fp : List Addr), PE (X.blk s H scope (compEnvC scope cl C X.env) fp) elt (tE X.K f)) (hy : X.N[i]? = some y := by rfl) (hyl : X.env.scope.names.lookup y = some .local := by rfl) (hvs : own.map (·.2) = vs := by rfl) (hsl : ∀ i ∈ sl, i ∈ vs := by decide) (hs : ∀ x, foldedSetIterable iter X.env x = pure x := by intro _; rfl) :
    PS X (.Assign [.Name y py] (.ListComp elt [⟨tg, iter, ifs, 0⟩] scope pos) spos) (tS X.K (sOwn i (lLc fi g p f vs))) := by
  subst hvs
  exact ps_le (ps_setLc hc hN hy hyl hsw hi ok hg ht he hs) fun D σ H ⟨Z, Hf, env, o, R, hf, k⟩ => by
    obtain ⟨d, hd, rfl⟩ := Option.map_eq_some_iff.mp hf
    exact tLc_of hsl ⟨Z, Hf, env, d, R, hd, fun p vs H1 Hf1 s1 h0 h1 h2 d1 => k _ H1 Hf1 s1.f (R.setOwn s1 i h0 h1 h2 d1)⟩
end

def RetD (K : PySem.W.Frag) (Hf H : Hp) (Q : VK) : Sl → Prop
  | .val d => ∀ v H' Hf', Stp Hf H Hf' H' → Dp K Hf' v d → Q v H'
  | .own ds => ∀ p vs H' Hf', Stp Hf H Hf' H' → H p = none → Hf' p = none → H' p = some (.lst vs) → DpAll K Hf' vs ds → Q (.ref p) H'
  | .dct kvs => ∀ p xs H' Hf', Stp Hf H Hf' H' → H p = none → Hf' p = none → H' p = some (.ext (DI p xs)) → (p == sysModules) = false → DctOk K Hf' xs kvs → Q (.ref p) H'
/-- the promise of a def that is a function on data -/
def spD (K : PySem.W.Frag) (n : Nat) (F : List PyData → Option Sl) : Sp := fun vs H Q _ => vs.length = n ∧ ∃ (Hf : Hp) (ds : List PyData) (r : Sl), Same Hf H ∧ DpAll K Hf vs ds ∧ F ds = some r ∧ RetD K Hf H Q r
def entry (n : Nat) (ds : List PyData) : En := ds.map (fun d => some (Sl.val d)) ++ List.replicate (n - ds.length) none
def fnD (n : Nat) (b : FS) : List PyData → Option Sl := fun ds => match b (entry n ds) with
  | some (.ret d) => some (.val d)
  | some (.retL l) => some (.own l)
  | some (.retD l) => some (.dct l)
  | some (.next _) => some (.val .none)
  | _ => none
theorem dpAll_at {K : PySem.W.Frag} {H : Hp} {vs : List V} {ds : List PyData} (h : DpAll K H vs ds) (n : Nat) (i : Nat) (s : Sl) (e : (entry n ds)[i]? = some (some s)) : ∃ v, (vs.map some ++ List.replicate (n - vs.length) none)[i]? = some (some v) ∧ ∃ d, s = .val d ∧ Dp K H v d := by
  unfold entry at e
  by_cases hi : i < ds.length
  · rw [List.getElem?_append_left (by rw [List.length_map]; exact hi), List.getElem?_map, List.getElem?_eq_getElem hi] at e
    have e' : Sl.val ds[i] = s := Option.some.inj (Option.some.inj e)
    obtain ⟨v, h1, h2⟩ := h.at (List.getElem?_eq_getElem hi)
    refine ⟨v, ?_, _, e'.symm, h2⟩
    rw [List.getElem?_append_left (by rw [List.length_map, h.len]; exact hi), List.getElem?_map, h1]
    rfl
  · rw [List.getElem?_append_right (by rw [List.length_map]; omega)] at e
    rw [List.getElem?_replicate] at e
    split at e
    · cases e
    · cases e
theorem body_ok {X : Cx} {b : FS} {sts : List Stmt} {N : List Str} {vs : List V} {H : Hp} {Q : VK} {E : XK} {np n : Nat} (hn : N.length = n) (hb : PSs X sts (tS X.K b)) (h : spD X.K np (fnD n b) vs H Q E) : ∃ t, PSs X sts t ∧ t { nx := fun _ H' => Q .non H', rt := Q } (L2.start N vs) H := by
  refine ⟨_, hb, ?_⟩
  subst hn
  obtain ⟨hl, Hf, ds, r, hi, hd, hF, k⟩ := h
  have R : Rel X.K (Hf, H) Hf H (entry N.length ds) (L2.start N vs) := by
    refine ⟨.refl hi, ?_, fun i s e => ?_, fun i j x y p ei ej _ _ => ?_⟩
    · unfold entry L2.start
      simp only [List.length_append, List.length_map, List.length_replicate, hd.len]
    · obtain ⟨v, h1, d, rfl, h2⟩ := dpAll_at hd N.length i s e
      exact ⟨v, h1, h2⟩
    · obtain ⟨_, _, d, h3, _⟩ := dpAll_at hd N.length i _ ei
      cases h3
  unfold fnD at hF
  cases ho : b (entry N.length ds) with
  | none =>
    rw [ho] at hF
    cases hF
  | some o =>
    rw [ho] at hF
    refine ⟨(Hf, H), Hf, _, o, R, ho, ?_⟩
    cases o with
    | next e =>
      cases hF
      exact fun σ' H' Hf' s1 R' => k .non H' Hf' R'.st .non
    | ret d =>
      cases hF
      exact k
    | retL d =>
      cases hF
      exact k
    | retD d =>
      cases hF
      exact k
    | brk e => cases hF
    | cont e => cases hF
def eCallF (F : List PyData → Option Sl) (r : FL) : FE := fun env => (r env).bind fun ds => match F ds with
  | some (.val d) => some d
  | some (.own l) => some (.list l)
  | _ => none
def lCallF (F : List PyData → Option Sl) (r : FL) : FL := fun env => (r env).bind fun ds => match F ds with
  | some (.own l) => some l
  | _ => none
section
variable {X : Cx} {k : Nat} {f : Addr} {fd : FuncData} {ps : List Str} {F : List PyData → Option Sl} {n : Nat} {x : Str} {p pos : Pos} {e : Expr} {es : List Expr} {r : FL}
theorem x_call (G : FnOk X.prog X.w X.K X.mg X.base CX0 k f fd ps (spD X.K (es.length + 1) F)) (hr : Room k X.A) (hg : Gl X x) (hm : X.mg x = some (.ref f)) (hk : PySem.W.keepIn X.K (.ref f) = true) (hb : Binds X.K fd ps [])
    (ha : PA X (e :: es) (tA X.K r)) (hln : ∀ env ds, r env = some ds → ds.length = es.length + 1) (hdb : (x == ("__debug__" : Str)) = false := by decide) (he : starEach (e :: es) X.env = (false, eval e X.env) :: starEach es X.env := by rfl) (hpl : (backTo pos (starEach es X.env)).any (·.1) = false := by rfl) :
    PE X (.Call (.Name x p) (e :: es) [] pos) (tE X.K (eCallF F r)) := pe_le (pe_call G hr hg hm hk hb .nil pass0 ha hdb he hpl) fun σ H Q ⟨Z, Hf, env, d, R, hf, kk⟩ => by
  obtain ⟨ds, hds, hf⟩ := Option_bind_some hf
  refine ⟨Z, Hf, env, ds, R, hds, fun vs H1 Hf1 s1 d1 => ?_⟩
  show spD X.K (es.length + 1) F (vs ++ []) H1 Q E0
  rw [List.append_nil]
  refine ⟨by rw [d1.len]; exact hln env ds hds, ?_⟩
  split at hf
  · rename_i z hz
    cases hf
    exact ⟨Hf1, ds, _, s1.i, d1, hz, fun v H2 Hf2 s2 d2 => kk v H2 Hf2 (s1.trans s2) d2⟩
  · rename_i l hz
    cases hf
    exact ⟨Hf1, ds, _, s1.i, d1, hz, fun q vs H2 Hf2 s2 h0 h1 h2 d2 => kk _ _ _ (s1.trans (s2.show h0 h1 h2)) (.lst (SqL.of upd_same) (DpAll_up (same_new h1) d2))⟩
  · cases hf
theorem l_call (G : FnOk X.prog X.w X.K X.mg X.base CX0 k f fd ps (spD X.K (es.length + 1) F)) (hr : Room k X.A) (hg : Gl X x) (hm : X.mg x = some (.ref f)) (hk : PySem.W.keepIn X.K (.ref f) = true) (hb : Binds X.K fd ps [])
    (ha : PA X (e :: es) (tA X.K r)) (hln : ∀ env ds, r env = some ds → ds.length = es.length + 1) (hdb : (x == ("__debug__" : Str)) = false := by decide) (he : starEach (e :: es) X.env = (false, eval e X.env) :: starEach es X.env := by rfl) (hpl : (backTo pos (starEach es X.env)).any (·.1) = false := by rfl) :
    PE X (.Call (.Name x p) (e :: es) [] pos) (tL X.K (lCallF F r)) := pe_le (pe_call G hr hg hm hk hb .nil pass0 ha hdb he hpl) fun σ H Q ⟨Z, Hf, env, d, R, hf, kk⟩ => by
  obtain ⟨ds, hds, hf⟩ := Option_bind_some hf
  refine ⟨Z, Hf, env, ds, R, hds, fun vs H1 Hf1 s1 d1 => ?_⟩
  show spD X.K (es.length + 1) F (vs ++ []) H1 Q E0
  rw [List.append_nil]
  refine ⟨by rw [d1.len]; exact hln env ds hds, ?_⟩
  split at hf
  · rename_i l hz
    cases hf
    exact ⟨Hf1, ds, _, s1.i, d1, hz, fun q vs H2 Hf2 s2 h0 h1 h2 d2 => kk q vs H2 Hf2 (s1.trans s2) (s1.h.free h0) h1 h2 d2⟩
  · cases hf
end
theorem ln_nil : ∀ (env : En) (ds : List PyData), aNil env = some ds → ds.length = 0 := fun _ _ h => by cases h; rfl
theorem ln_cons {f : FE} {r : FL} {n : Nat} (h : ∀ (env : En) (ds : List PyData), r env = some ds → ds.length = n) : ∀ (env : En) (ds : List PyData), aCons f r env = some ds → ds.length = n + 1 := fun env ds e => by
  obtain ⟨x, _, e⟩ := Option_bind_some e
  obtain ⟨xs, hx, e⟩ := Option_bind_some e
  cases e
  rw [List.length_cons, h env xs hx]

def cutD (l : List PyData) (lo hi : Option Int) : List PyData := (l.drop (HT.sIx l.length 0 lo)).take (HT.sIx l.length l.length hi - HT.sIx l.length 0 lo)
theorem cut_dp {K : PySem.W.Frag} {H : Hp} {vs : List V} {ds : List PyData} (h : DpAll K H vs ds) (lo hi : Option Int) : DpAll K H (cutV vs lo hi) (cutD ds lo hi) := by
  unfold cutV cutD
  rw [h.len]
  exact (h.dr _).tk _
def oNone : En → Option (Option Int) := fun _ => some none
def oSome (f : FE) : En → Option (Option Int) := fun env => match f env with
  | some (.int i) => some (some i)
  | _ => none
/-- t[lo:hi] of a tuple -/
def eSlT (f : FE) (lo hi : En → Option (Option Int)) : FE := fun env => (f env).bind fun x => (lo env).bind fun a => (hi env).bind fun b => match x with
  | .tuple l => some (.tuple (cutD l a b))
  | _ => none
def lSl (f : FE) (lo hi : En → Option (Option Int)) : FL := fun env => (f env).bind fun x => (lo env).bind fun a => (hi env).bind fun b => match x with
  | .list l => some (cutD l a b)
  | _ => none
section
variable {X : Cx} {e : Expr} {f g : FE} {lo hi : Option Expr} {fl fh : En → Option (Option Int)} {pos p2 : Pos} {r : FL}
theorem o_none : PO X none (tO X.K oNone) := po_le po_none fun σ H Q ⟨Z, Hf, env, o, R, hf, k⟩ => by
  cases hf
  exact k H Hf (.refl R.st.i)
theorem o_some (he : PE X e (tE X.K f)) : PO X (some e) (tO X.K (oSome f)) := po_le (po_some he) fun σ H Q ⟨Z, Hf, env, o, R, hf, k⟩ => by
  unfold oSome at hf
  split at hf
  · rename_i i h
    cases hf
    exact ⟨Z, Hf, env, _, R, h, fun v H1 Hf1 s1 d1 => ⟨i, d1.int_eq, k H1 Hf1 s1⟩⟩
  · cases hf
theorem l_sl (he : PE X e (tE X.K f)) (hl : PO X lo (tO X.K fl)) (hh : PO X hi (tO X.K fh)) : PE X (.Subscript e (.Slice lo hi none p2) pos) (tL X.K (lSl f fl fh)) := pe_le (pe_slice sl_list he hl hh) fun σ H Q ⟨Z, Hf, env, o, R, hf, k⟩ => by
  obtain ⟨x, hx, hf⟩ := Option_bind_some hf
  obtain ⟨a, ha, hf⟩ := Option_bind_some hf
  obtain ⟨b, hb, hf⟩ := Option_bind_some hf
  cases x with
  | list l =>
    cases hf
    refine ⟨Z, Hf, env, _, R, hx, fun v H1 Hf1 s1 d1 => ⟨Z, Hf1, env, a, R.step s1, ha, fun H2 Hf2 s2 => ⟨Z, Hf2, env, b, (R.step s1).step s2, hb, fun H3 Hf3 s3 => ?_⟩⟩⟩
    obtain ⟨q, xs, rfl, hq, hd⟩ := d1.lst_of
    have up : Same Hf1 Hf3 := s2.f.trans s3.f
    refine ⟨q, xs, rfl, (up.trans s3.i).seq hq, fun p hp => ?_⟩
    have s13 := s1.trans (s2.trans s3)
    exact k p _ _ _ (s13.trans (Stp.hid s3.i hp)) (s13.h.free hp) (s3.i.free hp) upd_same (cut_dp (DpAll_up up hd) a b)
  | _ => cases hf
def fLen : List PyData → Option PyData
  | [.list l] => some (.int l.length)
  | [.tuple l] => some (.int l.length)
  | _ => none
def fMin : List PyData → Option PyData
  | [.int a, .int b] => some (.int (min a b))
  | _ => none
def fMax : List PyData → Option PyData
  | [.int a, .int b] => some (.int (max a b))
  | _ => none
def fTuple : List PyData → Option PyData
  | [.list l] => some (.tuple l)
  | [.tuple l] => some (.tuple l)
  | _ => none
def fList : List PyData → Option (List PyData)
  | [.list l] => some l
  | [.tuple l] => some l
  | _ => none
def fIntB : List PyData → Option PyData
  | [.int i] => some (.int i)
  | [.bool b] => some (.int (if b then 1 else 0))
  | _ => none
def getInts : List PyData → Option (List Int)
  | [] => some []
  | .int i :: r => (getInts r).bind fun l => some (i :: l)
  | _ => none
theorem getInts_eq : ∀ {ds : List PyData} {ns : List Int}, getInts ds = some ns → ds = ns.map .int
  | [], ns, h => by cases h; rfl
  | .int i :: r, ns, h => by
    obtain ⟨l, hl, h⟩ := Option_bind_some h
    cases h
    rw [getInts_eq hl]
    rfl
  | .none :: _, _, h => by cases h
  | .bool _ :: _, _, h => by cases h
  | .str _ :: _, _, h => by cases h
  | .list _ :: _, _, h => by cases h
  | .tuple _ :: _, _, h => by cases h
  | .dict _ :: _, _, h => by cases h
theorem getInts_map : ∀ ns : List Int, getInts (ns.map .int) = some ns
  | [] => rfl
  | n :: ns => by
    show (getInts (ns.map .int)).bind _ = _
    rw [getInts_map ns]
    rfl
def getBools : List PyData → Option (List Bool)
  | [] => some []
  | .bool i :: r => (getBools r).bind fun l => some (i :: l)
  | _ => none
theorem getBools_eq : ∀ {ds : List PyData} {ns : List Bool}, getBools ds = some ns → ds = ns.map .bool
  | [], ns, h => by cases h; rfl
  | .bool i :: r, ns, h => by
    obtain ⟨l, hl, h⟩ := Option_bind_some h
    cases h
    rw [getBools_eq hl]
    rfl
  | .none :: _, _, h => by cases h
  | .int _ :: _, _, h => by cases h
  | .str _ :: _, _, h => by cases h
  | .list _ :: _, _, h => by cases h
  | .tuple _ :: _, _, h => by cases h
  | .dict _ :: _, _, h => by cases h
def fSum : List PyData → Option PyData
  | [.list l] => (getInts l).bind fun ns => some (.int ns.sum)
  | [.tuple l] => (getInts l).bind fun ns => some (.int ns.sum)
  | _ => none
def fAll : List PyData → Option PyData
  | [.list l] => (getBools l).bind fun ns => some (.bool (ns.all id))
  | _ => none
def fAny : List PyData → Option PyData
  | [.list l] => (getBools l).bind fun ns => some (.bool (ns.any id))
  | _ => none
theorem cd_len : CallD X (.builtin "len") fLen := by
  intro pins s σ H xs us Q I r ⟨Hf, ds, dz, hi, hd, hf, k⟩
  unfold fLen at hf
  split at hf
  · cases hf
    obtain ⟨v, rfl, hv⟩ := hd.one
    obtain ⟨p, ys, rfl, hp, ha⟩ := hv.lst_of
    exact call_len_seq pins s σ H _ us Q I r ⟨p, ys, rfl, .inl (hi.seq hp), by rw [ha.len]; exact k _ _ _ (.refl hi) (.int _)⟩
  · cases hf
    obtain ⟨v, rfl, hv⟩ := hd.one
    obtain ⟨p, ys, rfl, hp, ha⟩ := hv.tup_of
    exact call_len_seq pins s σ H _ us Q I r ⟨p, ys, rfl, .inr (sqT_up hi hp), by rw [ha.len]; exact k _ _ _ (.refl hi) (.int _)⟩
  · cases hf
theorem cd_min (hc : X.calm = true) : CallD X (.builtin "min") fMin := by
  intro pins s σ H xs us Q I r ⟨Hf, ds, dz, hi, hd, hf, k⟩
  unfold fMin at hf
  split at hf
  · rename_i a b
    cases hf
    obtain ⟨v, w, rfl, hv, hw⟩ := hd.two
    cases hv.int_eq
    cases hw.int_eq
    refine call_min2 hc pins s σ H _ us Q I r ⟨a, b, rfl, ?_⟩
    have e : (if b < a then b else a) = min a b := by
      rw [Int.min_def]
      split <;> split <;> omega
    rw [e]
    exact k _ _ _ (.refl hi) (.int _)
  · cases hf
theorem cd_tuple : CallD X (.type "tuple") fTuple := by
  intro pins s σ H xs us Q I r ⟨Hf, ds, dz, hi, hd, hf, k⟩
  unfold fTuple at hf
  split at hf
  · cases hf
    obtain ⟨v, rfl, hv⟩ := hd.one
    obtain ⟨p, ys, rfl, hp, ha⟩ := hv.lst_of
    refine call_tuple_of pins s σ H _ us Q I r ⟨p, ys, rfl, .inl ⟨hi.seq hp, fun l hl => ?_⟩⟩
    have st := Stp.new (o := .tup ys) hi hl
    exact k _ _ _ st (.tup (SqT.of upd_same) (DpAll_up st.f ha))
  · cases hf
    obtain ⟨v, rfl, hv⟩ := hd.one
    obtain ⟨p, ys, rfl, hp, ha⟩ := id hv.tup_of
    exact call_tuple_of pins s σ H _ us Q I r ⟨p, ys, rfl, .inr ⟨sqT_up hi hp, k _ _ _ (.refl hi) hv⟩⟩
  · cases hf
theorem cd_all (hc : X.calm = true) : CallD X (.builtin "all") fAll := by
  intro pins s σ H xs us Q I r ⟨Hf, ds, dz, hi, hd, hf, k⟩
  unfold fAll at hf
  split at hf
  · obtain ⟨ns, hns, hf⟩ := Option_bind_some hf
    cases hf
    obtain ⟨v, rfl, hv⟩ := hd.one
    obtain ⟨p, ys, rfl, hp, ha⟩ := hv.lst_of
    rw [getBools_eq hns] at ha
    rw [ha.bools] at hp
    exact cr_all hc pins s σ H _ us Q I r ⟨p, ns, rfl, hi.seq hp, k _ _ _ (.refl hi) (.bl _)⟩
  · cases hf
end
end Fi

namespace Fi
open PySem PySem.Spec PyProof.Rows L2

inductive Kd where | l | t
def SqK (K : PySem.W.Frag) : Kd → Hp → Addr → List V → Prop
  | .l, H, a, xs => SqL K H a xs
  | .t, H, a, xs => SqT K H a xs
def ItK : Kd → Heap → Addr → Addr → Nat → Prop
  | .l, h, it, a, i => h.IsListIter it a i
  | .t, h, it, a, i => h.IsTupleIter it a i
def HasK : Kd → Heap → Addr → Array Value → Prop
  | .l, h, a, x => h.IsList a x
  | .t, h, a, x => h.IsTuple a x
def objK : Kd → Addr → Obj
  | .l, a => { cls := .type "list_iterator", data := .fields #[.ref a, .int 0 0] }
  | .t, a => { cls := .type "tuple_iterator", data := .fields #[.ref a, .int 0 0] }
theorem sqK_up {K : PySem.W.Frag} {k : Kd} {H H' : Hp} {a : Addr} {xs : List V} (e : Same H H') (h : SqK K k H a xs) : SqK K k H' a xs := by
  cases k
  · exact e.seq h
  · exact sqT_up e h
theorem drawsK (k : Kd) {prog : Program} {w : World} {A : Around} (hh : A.handled = none) (it a : Addr) (hne : a ≠ it) (items : Array Value) :
    Draws prog w A it [it, a] items.size (fun i v => items[i]? = some v) (fun i h => ItK k h it a i ∧ HasK k h a items) := by
  cases k
  · exact Draws.list hh it a hne items
  · exact Draws.tuple hh it a hne items
theorem beginsK (k : Kd) (a : Addr) (items : Array Value) : Begins (.ref a) (objK k a) fun h => HasK k h a items := by
  cases k
  · exact begins_list a items
  · exact begins_tuple a items
theorem itK_0 {k : Kd} {h : Heap} {it a : Addr} (e : h.get? it = some (objK k a)) : ItK k h it a 0 := by
  cases k
  · exact ⟨_, e, rfl, rfl⟩
  · exact ⟨_, e, rfl, rfl⟩
theorem itK_obj {k : Kd} {h : Heap} {it a : Addr} {i : Nat} (e : ItK k h it a i) : ∃ o, h.get? it = some o ∧ ∀ v, o.data ≠ .cell v := by
  cases k
  · obtain ⟨o, ho, _, hd⟩ := e
    exact ⟨o, ho, fun v q => by rw [hd] at q; cases q⟩
  · obtain ⟨o, ho, _, hd⟩ := e
    exact ⟨o, ho, fun v q => by rw [hd] at q; cases q⟩
theorem itK_at {k : Kd} {h h' : Heap} {it a : Addr} {i : Nat} (e : ItK k h it a i) (k' : ∀ o, h.get? it = some o → h'.get? it = some o) : ItK k h' it a i := by
  cases k
  · exact Heap.IsListIter.at e k'
  · exact Heap.IsTupleIter.at e k'
theorem hasK_of {X : Cx} {pins : List (Addr × Obj)} {σ : L2.St} {H : Hp} {s : Shared} {k : Kd} {a : Addr} {xs : List V} (I : Inv X pins σ H s) (h : SqK X.K k H a xs) : ∃ its : List Value, Vals xs its ∧ HasK k s.heap a its.toArray := by
  cases k
  · obtain ⟨its, r, p, _⟩ := I.list h
    exact ⟨its, r, p.isList⟩
  · obtain ⟨its, r, p, _⟩ := I.tuple h
    exact ⟨its, r, p⟩
theorem sqK_inj {X : Cx} {pins : List (Addr × Obj)} {σ : L2.St} {H : Hp} {s : Shared} {k : Kd} {a : Addr} {xs ys : List V} (I : Inv X pins σ H s) (h : SqK X.K k H a xs) (h' : SqK X.K k H a ys) : xs = ys := by
  cases k
  · exact I.list_inj h h'
  · exact I.tuple_inj h h'
def ItzK (K : PySem.W.Frag) (k1 k2 : Kd) (a b : Addr) : It :=
  ⟨fun i H => ∃ (xs ys : List V) (x y : V), SqK K k1 H a xs ∧ SqK K k2 H b ys ∧ xs[i]? = some x ∧ ys[i]? = some y,
    fun i H v H' => ∃ T x y, v = .ref T ∧ H T = none ∧ H' = upd H T (.tup [x, y]) ∧ (∀ xs, SqK K k1 H a xs → xs[i]? = some x) ∧ ∀ ys, SqK K k2 H b ys → ys[i]? = some y,
    fun i H => ∃ xs ys : List V, SqK K k1 H a xs ∧ SqK K k2 H b ys ∧ i ≤ xs.length ∧ i ≤ ys.length ∧ (i = xs.length ∨ i = ys.length)⟩
def iZipK (K : PySem.W.Frag) (k1 k2 : Kd) (ta : TA) : TI := fun σ H R => ta σ H fun vs H1 => ∃ a b xs ys, vs = [.ref a, .ref b] ∧ SqK K k1 H1 a xs ∧ SqK K k2 H1 b ys ∧ R (ItzK K k1 k2 a b) H1
/-- the items of a list or tuple -/
def itemsK : Kd → PyData → Option (List PyData)
  | .l, .list l => some l
  | .t, .tuple l => some l
  | _, _ => none
theorem dp_itemsK {K : PySem.W.Frag} {H : Hp} {v : V} {d : PyData} {k : Kd} {l : List PyData} (h : Dp K H v d) (e : itemsK k d = some l) : ∃ a xs, v = .ref a ∧ SqK K k H a xs ∧ DpAll K H xs l := by
  unfold itemsK at e
  split at e
  · cases e
    exact h.lst_of
  · cases e
    exact h.tup_of
  · cases e
def pairs : List PyData → List PyData → List PyData := fun xs ys => List.zipWith (fun x y => .tuple [x, y]) xs ys
def iZ (k1 k2 : Kd) (r : FL) : FL := fun env => match r env with
  | some [x, y] => (itemsK k1 x).bind fun xs => (itemsK k2 y).bind fun ys => some (pairs xs ys)
  | _ => none
theorem meets_enum1 {v : Value} {o : Obj} {H : Heap → Prop} (B : Begins v o H) :
    Meets (Builtin.«enumerate.__new__» ⟨[.type "enumerate", v], []⟩) (fun _ R s => H s.heap ∧
      R (.ok (.ret (.ref (s.heap.push o).objs.size))) { s with heap := (s.heap.push o).push { cls := .type "enumerate", data := .fields #[.none, .bool false, .ref s.heap.objs.size, rawInt 0, .none, .none] } }) :=
  .of_wp fun prog w A R s h => by
    obtain ⟨hp, g, d, tk, os⟩ := s; obtain ⟨h1, h⟩ := h
    have hsub := sub_enumerate
    have q1 : ∀ {A' : Around} {E : Value → Shared → Prop} {Q : Value → Shared → Prop}, Q (.ref hp.objs.size) ⟨hp.push o, g, d, tk, os⟩ → wpAny (model prog w) A' (pyIter v) Q E ⟨hp, g, d, tk, os⟩ :=
      fun q => B.iter prog w _ _ ⟨hp, g, d, tk, os⟩ _ h1 q
    wp_walk using q1
    refine wpAny_stack_any fun st => wpAny_pure ?_
    split
    · rename_i c _ _ _ _ _
      cases (c == Value.type "enumerate")
      · wp_walk using q1
        exact ⟨_, rfl, h⟩
      · wp_walk using q1
        exact ⟨_, rfl, h⟩
    · wp_walk using q1
      exact ⟨_, rfl, h⟩
theorem enum1_begins {prog : Program} {w : World} {A : Around} {E : Value → Shared → Prop} {s : Shared} {v : Value} {o : Obj} {H : Heap → Prop} {Q : Value → Shared → Prop} (B : Begins v o H) (h1 : H s.heap)
    (h : ∀ h', IsEnum h' (s.heap.objs.size + 1) s.heap.objs.size 0 .none → h'.get? s.heap.objs.size = some o → h'.objs.size = s.heap.objs.size + 2 →
      (∀ b o, s.heap.get? b = some o → h'.get? b = some o) → Q (.ref (s.heap.objs.size + 1)) { s with heap := h' }) :
    wpAny (model prog w) A (call (.type "enumerate") [v]) Q E s := by
  refine callType_new F.called_enumerate (by decide) (F.typeCall_enumerate_1 _) (F.newCall_enumerate_1 _) (fun obj => F.args_object_init_2 obj _) F.entry_enumerate_new
    (meets_enum1 B) ⟨h1, ?_⟩
  have hz : (s.heap.push o).objs.size = s.heap.objs.size + 1 := Heap.size_push ..
  show _ ∧ _
  rw [hz]
  have he : IsEnum ((s.heap.push o).push { cls := .type "enumerate", data := .fields #[.none, .bool false, .ref s.heap.objs.size, rawInt 0, .none, .none] }) (s.heap.objs.size + 1) s.heap.objs.size 0 .none := by
    have := Heap.get?_push_size (s.heap.push o) (o := { cls := .type "enumerate", data := .fields #[.none, .bool false, .ref s.heap.objs.size, rawInt 0, .none, .none] }) rfl
    rw [hz] at this; exact this
  refine ⟨⟨_, he, rfl⟩, h _ he (Heap.get?_push_of_some _ (Heap.get?_push_size _ B.free)) (by rw [Heap.size_push, hz]) fun b o x => Heap.get?_push_of_some _ (Heap.get?_push_of_some _ x)⟩
def IteK (K : PySem.W.Frag) (k : Kd) (a : Addr) : It :=
  ⟨fun i H => ∃ (xs : List V) (x : V), SqK K k H a xs ∧ xs[i]? = some x, fun i H v H' => ∃ T x, v = .ref T ∧ H T = none ∧ H' = upd H T (.tup [.int (i : Nat), x]) ∧ ∀ xs, SqK K k H a xs → xs[i]? = some x, fun i H => ∃ xs : List V, SqK K k H a xs ∧ i = xs.length⟩
theorem turn_enumK {P : Program} {w : World} {K : PySem.W.Frag} {elts : List Expr} {kk : Nat} {tpos : Pos} {k : Kd} (a e it : Addr) :
    Turn P w K (.Tuple elts kk tpos) (IteK K k a) [e, it] e (fun i h => (∃ old, IsEnum h e it ((i : Nat) : Int) old) ∧ ItK k h it a i ∧ e ≠ it) where
  mem := by simp
  obj := fun i h st b hb => by
    obtain ⟨⟨old, he⟩, hi, _⟩ := st
    have e' : b = e ∨ b = it := by simpa using hb
    rcases e' with z | z
    · rw [z]; exact ⟨_, he, fun v q => nomatch q⟩
    · rw [z]; exact itK_obj hi
  keep := fun i h h' st k => let ⟨⟨old, he⟩, hi, hne⟩ := st; ⟨⟨old, k e (by simp) _ he⟩, itK_at hi fun o q => k it (by simp) o q, hne⟩
  item := by
    intro X hP hw hK hc i pins s σ H E I hf st hg
    subst hP hw hK
    obtain ⟨⟨old, he⟩, hit, hne⟩ := st
    obtain ⟨xs, x, hq, hx⟩ := hg
    obtain ⟨its, rv, p⟩ := hasK_of I hq
    obtain ⟨u, hu, ru⟩ := rv.get hx
    have hel : e < s.heap.objs.size := Heap.lt_size he
    have hil : it < s.heap.objs.size := by obtain ⟨_, q, _⟩ := itK_obj hit; exact Heap.lt_size q
    have nai : a ≠ it := fun q => by
      subst q
      cases k with
      | l =>
        obtain ⟨o1, e1, c1, _⟩ := hit
        obtain ⟨o2, e2, c2, _⟩ := p
        rw [e1] at e2
        cases e2
        rw [c1] at c2
        exact absurd c2 (by decide)
      | t =>
        obtain ⟨o1, e1, c1, _⟩ := hit
        obtain ⟨o2, e2, c2, _⟩ := p
        rw [e1] at e2
        cases e2
        rw [c1] at c2
        exact absurd c2 (by decide)
    have nae : a ≠ e := fun q => by
      subst q
      cases k with
      | l =>
        obtain ⟨o2, e2, c2, _⟩ := p
        rw [he] at e2
        cases e2
        have c3 : Value.type "enumerate" = _ := c2
        exact absurd c3 (by decide)
      | t =>
        obtain ⟨o2, e2, c2, _⟩ := p
        rw [he] at e2
        cases e2
        have c3 : Value.type "enumerate" = _ := c2
        exact absurd c3 (by decide)
    have lx : i < its.toArray.size := by
      rw [List.size_toArray]
      exact (List.getElem?_eq_some_iff.mp hu).1
    refine wpAny_pyNext_enum_itemD (drawsK k (A := X.A.in1) (I.ok.hd hc) it a nai its.toArray) he ⟨hit, p⟩ lx hne (by simp [hne, Ne.symm nae]) fun x1 h' tk hx1 ho hit' hT hsz hk => ?_
    have ex1 : x1 = u := Option.some.inj (hx1.symm.trans (by simpa using hu))
    subst ex1
    refine ⟨_, rfl, wpAny_letOwnedTupleGo_enum (s := { s with heap := h', toks := tk + 1 }) ho fun h'' he' sb => ?_⟩
    have hT2 : h''.get? s.heap.objs.size = some { cls := .type "tuple", data := .seq #[.int i tk, x1] } := (sb.2 _ (Nat.ne_of_gt hel)).trans hT
    have new : ObjOk X.prog X.w (upd H s.heap.objs.size (.tup [.int (i : Nat), x])) h'' s.heap.objs.size (.tup [.int (i : Nat), x]) :=
      ⟨by show 2 ≤ sizeLine; decide, [.int i tk, x1], .cons ⟨_, rfl⟩ (.cons ru .nil), ⟨_, hT2, rfl, _, rfl⟩⟩
    have I1 : Inv X pins σ (upd H s.heap.objs.size (.tup [.int (i : Nat), x])) { s with heap := h'', toks := tk + 1 } :=
      I.turnedNew (ch := [e, it]) (fun b ob hb q => (sb.2 b (fun z => hb (by simp [z]))).trans (hk b ob (fun z => hb (by simp [z])) (fun z => hb (by simp [z])) q)) hf (Nat.le_refl _) new
    refine ⟨.ref s.heap.objs.size, _, I1, rfl, ⟨_, x, rfl, I.hok.fresh (Nat.le_refl _), rfl, fun ys hy => by rw [sqK_inj I hy hq]; exact hx⟩, ⟨⟨x1, ?_⟩, itK_at hit'.1 fun o q => (sb.2 it (Ne.symm hne)).trans q, hne⟩, fun b hb => ?_⟩
    · have e1 : ((i + 1 : Nat) : Int) = (i : Int) + 1 := by omega
      rw [e1]; exact he'
    · have hb' : b < s.heap.objs.size := by
        have e' : b = e ∨ b = it := by simpa using hb
        rcases e' with z | z
        · rw [z]; exact hel
        · rw [z]; exact hil
      rw [upd_ne (Nat.ne_of_lt hb')]
      exact (hf b hb).1
  done := by
    intro X hP hw hK hc i pins s σ H E I hf st hg
    subst hP hw hK
    obtain ⟨⟨old, he⟩, hit, hne⟩ := st
    obtain ⟨xs, hq, hx⟩ := hg
    obtain ⟨its, rv, p⟩ := hasK_of I hq
    obtain ⟨f0, f1, f2, f3, f4, f5⟩ := hf it (by simp)
    have hl := rv.length
    have nai : a ≠ it := fun q => by
      subst q
      cases k with
      | l =>
        obtain ⟨o1, e1, c1, _⟩ := hit
        obtain ⟨o2, e2, c2, _⟩ := p
        rw [e1] at e2
        cases e2
        rw [c1] at c2
        exact absurd c2 (by decide)
      | t =>
        obtain ⟨o1, e1, c1, _⟩ := hit
        obtain ⟨o2, e2, c2, _⟩ := p
        rw [e1] at e2
        cases e2
        rw [c1] at c2
        exact absurd c2 (by decide)
    have ei : i = its.toArray.size := by
      rw [List.size_toArray]
      omega
    exact wpAny_pyNext_enum_endD (drawsK k (A := X.A.in1) (I.ok.hd hc) it a nai its.toArray) he (by rw [← ei]; exact ⟨hit, p⟩) fun h' eb => ⟨rfl, I.turned (t' := s.toks) (fun b o hb q => eb b o hb q) f0 f1 f3 f4 f5⟩
  self := fun A i s Q E st h => let ⟨⟨_, he⟩, _⟩ := st; wpAny_pyIter_enum he h
def iEnumK (K : PySem.W.Frag) (k : Kd) (ta : TA) : TI := fun σ H R => ta σ H fun vs H1 => ∃ a xs, vs = [.ref a] ∧ SqK K k H1 a xs ∧ R (IteK K k a) H1
theorem pi_enumK (k : Kd) {X : Cx} {e : Expr} {ta : TA} {p pos tpos : Pos} {elts : List Expr} {kk : Nat} (hg : Gl X "enumerate") (hm : X.mg "enumerate" = none) (ha : PA X [e] ta) (hs : starEach [e] X.env = [(false, eval e X.env)] := by rfl) :
    PI X (.Tuple elts kk tpos) (.Call (.Name "enumerate" p) [e] [] pos) (iEnumK X.K k ta) := by
  refine ⟨fun pins s σ H R I h => ?_⟩
  refine Call_ (ld_blt I hg hm boot_enumerate (PyProof.Rows.callWith_type1 (thn (ha.run pos pins s σ H _ I h) fun us s1 ⟨vs, H1, I1, r1, q1⟩ => ?_) hs rfl))
  obtain ⟨a, xs, ex, hq, q⟩ := q1
  subst ex
  cases r1 with
  | cons r rr =>
    cases rr
    cases r
    obtain ⟨its, rv, p'⟩ := hasK_of I1 hq
    refine enum1_begins (beginsK k a its.toArray) p' fun h' he hit hsz hk => wpAny_pyIter_enum he ?_
    have I2 : Inv X pins σ H1 { s1 with heap := h' } := I1.kept (t' := s1.toks) hk
    refine ⟨s1.heap.objs.size + 1, [s1.heap.objs.size + 1, s1.heap.objs.size], _, _, H1, rfl, I2, turn_enumK a (s1.heap.objs.size + 1) s1.heap.objs.size, ⟨⟨.none, he⟩, itK_0 hit, Nat.succ_ne_self _⟩, fun b hb => ?_, q⟩
    have e' : b = s1.heap.objs.size + 1 ∨ b = s1.heap.objs.size := by simpa using hb
    have hle : s1.heap.objs.size ≤ b := by
      rcases e' with z | z
      · rw [z]; exact Nat.le_add_right _ _
      · rw [z]; exact Nat.le_refl _
    exact I1.fpOk hle (I1.hok.fresh hle)
theorem walk_enumK {K : PySem.W.Frag} {k : Kd} {a : Addr} {xs : List V} : Walk (IteK K k a) xs.length (fun H => SqK K k H a xs) (YPair (fun i => some (.int (i : Nat))) (fun i => xs[i]?)) := by
  refine ⟨fun i _ hi q => ⟨xs, xs[i], q, by simp [hi]⟩, fun _ q => ⟨xs, q, rfl⟩, fun i H v H' _ q y => ?_⟩
  obtain ⟨T, x, h1, h2, h3, h4⟩ := y
  exact ⟨T, .int (i : Nat), x, h1, h2, h3, rfl, h4 xs q⟩
def enumD (xs : List PyData) : List PyData := List.zipWith (fun (i : Nat) y => .tuple [.int (i : Int), y]) (List.range xs.length) xs
def iEn (k : Kd) (r : FL) : FL := fun env => match r env with
  | some [x] => (itemsK k x).bind fun xs => some (enumD xs)
  | _ => none
theorem i_enum (k : Kd) {X : Cx} {e : Expr} {r : FL} {p pos tpos : Pos} {elts : List Expr} {kk : Nat} (hg : Gl X "enumerate") (hm : X.mg "enumerate" = none) (ha : PA X [e] (tA X.K r)) (hs : starEach [e] X.env = [(false, eval e X.env)] := by rfl) :
    PI X (.Tuple elts kk tpos) (.Call (.Name "enumerate" p) [e] [] pos) (tI X.K (iEn k r)) := pi_le (pi_enumK k hg hm ha hs) fun σ H R ⟨Z, Hf, env, ds, Rl, hf, kk⟩ => by
  unfold iEn at hf
  split at hf
  · rename_i x hr
    obtain ⟨xs, hx, hf⟩ := Option_bind_some hf
    cases hf
    refine ⟨Z, Hf, env, _, Rl, hr, fun vs H1 Hf1 s1 d1 => ?_⟩
    obtain ⟨v, rfl, hv⟩ := d1.one
    obtain ⟨a, us, rfl, ha, hda⟩ := dp_itemsK hv hx
    refine ⟨a, us, rfl, sqK_up s1.i ha, kk _ H1 Hf1 s1 ?_⟩
    have hl : (enumD xs).length = us.length := by
      unfold enumD
      rw [List.length_zipWith, List.length_range, hda.len, Nat.min_self]
    have w := walk_enumK (K := X.K) (k := k) (a := a) (xs := us)
    rw [← hl] at w
    refine w.mono (fun H h => sqK_up h ha) fun i H v H' hi _ y => ?_
    obtain ⟨T, x, z, h1, h2, h3, h4, h5⟩ := y
    obtain ⟨dy, e2, q2⟩ := hda.get h5
    have hil : i < xs.length := (List.getElem?_eq_some_iff.mp e2).1
    have ex : V.int (i : Nat) = x := Option.some.inj h4
    subst ex
    refine ⟨.tuple [.int (i : Int), dy], ?_, .inr ⟨T, [_, z], [_, dy], h1, h2, h3, rfl, .cons (.int _) (.cons q2 .nil)⟩⟩
    unfold enumD
    rw [List.getElem?_zipWith, e2, List.getElem?_range hil]
  · cases hf

theorem intsAre_get : ∀ {vs : List Value} {ns : List Int} {i : Nat} {v : Value}, IntsAre vs ns → vs[i]? = some v → ∃ t, v = .int (ns.getD i 0) t
  | _, _, _, _, .nil, e => by simp at e
  | _, _, 0, _, .cons n t _, e => by
    simp at e
    exact ⟨t, e.symm⟩
  | _, _, i + 1, v, .cons n t h, e => by
    obtain ⟨t', q⟩ := intsAre_get (i := i) (v := v) h (by simpa using e)
    exact ⟨t', by simpa using q⟩
theorem cr_sumT {X : Cx} (hc : X.calm = true) : CallR X (.builtin "sum") (fun vs H Q => ∃ (a : Addr) (ns : List Int), vs = [V.ref a] ∧ SqT X.K H a (ns.map V.int) ∧ Q (.int ns.sum) H) := by
  intro pins s σ H vs us Q I r h
  obtain ⟨a, ns, rfl, hs, q⟩ := h
  obtain ⟨its, rv, hl, _⟩ := I.tuple hs
  rw [Vals.ref1 r]
  have hi := rv.ints
  have ht : s.heap.IsTuple a its.toArray := hl
  have hlt : a < s.heap.objs.size := by obtain ⟨_, e, _⟩ := ht; exact Heap.lt_size e
  refine call_sum_walkG (wpAny_pyIter_tuple ht ?_)
  refine ⟨_, _, _, _, _, _, fun i => ns.getD i 0, rfl, Walks.tuple (A := X.A.in1) (I.ok.hd hc) _ a (Nat.ne_of_lt hlt) its.toArray, ⟨⟨_, Heap.get?_push_size _ rfl, rfl, rfl⟩, ht.at fun o e => Heap.get?_push_of_some _ e⟩, fun b hb => ?_, fun i v hv => intsAre_get hi (by simpa using hv), fun h' tk t' hk => ?_⟩
  · show b < (s.heap.push _).objs.size
    rw [Heap.size_push]
    rcases List.mem_cons.mp hb with rfl | hb
    · exact Nat.lt_succ_self _
    · rw [List.mem_singleton.mp hb]
      exact Nat.lt_succ_of_lt hlt
  · have hlen : its.toArray.size = ns.length := by rw [List.size_toArray, hi.length]
    refine ⟨.int ns.sum, H, I.kept fun b o eo => hk b o (fun hmem => ?_) (Heap.get?_push_of_some _ eo), ⟨t', ?_⟩, q⟩
    · exact absurd (List.mem_singleton.mp hmem ▸ Heap.lt_size eo) (Nat.lt_irrefl _)
    · rw [hlen, preSum_getD, List.take_length]
theorem cd_sum {X : Cx} (hc : X.calm = true) : CallD X (.builtin "sum") fSum := by
  intro pins s σ H xs us Q I r ⟨Hf, ds, dz, hi, hd, hf, k⟩
  unfold fSum at hf
  split at hf
  · obtain ⟨ns, hns, hf⟩ := Option_bind_some hf
    cases hf
    obtain ⟨v, rfl, hv⟩ := hd.one
    obtain ⟨p, ys, rfl, hp, ha⟩ := hv.lst_of
    rw [getInts_eq hns] at ha
    rw [ha.ints] at hp
    exact cr_sum hc pins s σ H _ us Q I r ⟨p, ns, rfl, hi.seq hp, k _ _ _ (.refl hi) (.int _)⟩
  · obtain ⟨ns, hns, hf⟩ := Option_bind_some hf
    cases hf
    obtain ⟨v, rfl, hv⟩ := hd.one
    obtain ⟨p, ys, rfl, hp, ha⟩ := hv.tup_of
    rw [getInts_eq hns] at ha
    rw [ha.ints] at hp
    exact cr_sumT hc pins s σ H _ us Q I r ⟨p, ns, rfl, sqT_up hi hp, k _ _ _ (.refl hi) (.int _)⟩
  · cases hf
end Fi

namespace Fi
open PySem PySem.Spec PyProof.Rows L2

def ownIx (i : Nat) (f : FE) : FE := fun env => match env[i]? with
  | some (some (.own l)) => match f env with
    | some (.int k) => atI l k
    | _ => none
  | _ => none
def ownLen (i : Nat) : FE := fun env => match env[i]? with
  | some (some (.own l)) => some (.int l.length)
  | _ => none
section
variable {X : Cx}
end

structure Known (P : Program) (w : World) (K : PySem.W.Frag) (mg : Str → Option Value) (base : Heap) (k : Nat) (x : Str) (n : Nat) (F : List PyData → Option Sl) : Prop where
  ex : ∃ (f : Addr) (fd : FuncData) (ps : List Str), FnOk P w K mg base CX0 k f fd ps (spD K n F) ∧ mg x = some (.ref f) ∧ PySem.W.keepIn K (.ref f) = true ∧ Binds K fd ps []
abbrev FnP (K : PySem.W.Frag) (x : Str) (st : Stmt) (f : Addr) (fd : FuncData) : Prop := FunD K x x (defArgs st) (defBody st) (defScope st) [] [] f fd
theorem fnOk_mk {P : Program} {w : World} {K : PySem.W.Frag} {mg : Str → Option Value} {base : Heap} {x : Str} {st : Stmt} {f : Addr} {fd : FuncData} {N ps : List Str} {b : FS} {n np k : Nat} (hF : FnP K x st f fd) (S : FnScope N ps (defScope st)) (hn : N.length = n) (hp : ps.length = np)
    (hb : ∀ (cdv : Value) (A : Around) (outer : List Env) (s : Shared) (H : Hp) (E : XK), Room k (A.deeper (envOfC x (defScope st) s.heap.objs.size f cdv)) → PSs (cxOf CX0 P w K mg base N x (defScope st) f cdv A outer s H E).nox (defBody st) (tS K b)) :
    FnOk P w K mg base CX0 (k + 1) f fd ps (spD K np (fnD n b)) := by
  refine hF.ok S (fun vs H Q E h => ?_) (fun cdv A outer s H vs Q E hr h => ?_)
  · rw [h.1, hp]
  · obtain ⟨t, h1, h2⟩ := body_ok (X := (cxOf CX0 P w K mg base N x (defScope st) f cdv A outer s H E).nox) hn (hb cdv A outer s H E hr) h
    exact ⟨t, h1.nox, h2⟩
theorem known_mk {P : Program} {w : World} {K : PySem.W.Frag} {mg : Str → Option Value} {base : Heap} {x : Str} {st : Stmt} {f : Addr} {N ps : List Str} {b : FS} {n np k : Nat} (hF : ∃ fd, FnP K x st f fd) (hm : mg x = some (.ref f)) (S : FnScope N ps (defScope st)) (hn : N.length = n) (hp : ps.length = np)
    (hbd : ∀ (kV doc pm : Value) (an : Option Addr) (cdv ct : Value) (us : List Value), us.length = ps.length → bindArgs (PySem.W.fnOf x x (defArgs st) (defBody st) (defScope st) .none kV doc pm an cdv ct) ⟨us, []⟩ = pure (ps.zip us))
    (hb : ∀ (cdv : Value) (A : Around) (outer : List Env) (s : Shared) (H : Hp) (E : XK), Room k (A.deeper (envOfC x (defScope st) s.heap.objs.size f cdv)) → PSs (cxOf CX0 P w K mg base N x (defScope st) f cdv A outer s H E).nox (defBody st) (tS K b)) :
    Known P w K mg base (k + 1) x np (fnD n b) := by
  obtain ⟨fd, hF⟩ := hF
  exact ⟨f, fd, ps, fnOk_mk hF S hn hp hb, hm, hF.kp, hF.bindsN hbd⟩
section
variable {X : Cx} {j k : Nat} {F : List PyData → Option Sl} {n : Nat} {x : Str} {p pos : Pos} {e : Expr} {es : List Expr} {r : FL}
theorem x_fn (G : Known X.prog X.w X.K X.mg X.base j x n F) (hr : Room k X.A) (ha : PA X (e :: es) (tA X.K r)) (hln : ∀ env ds, r env = some ds → ds.length = es.length + 1) (hg : Gl X x := by rfl) (hjk : j ≤ k := by decide) (hn : n = es.length + 1 := by rfl) (hdb : (x == ("__debug__" : Str)) = false := by decide) (he : starEach (e :: es) X.env = (false, eval e X.env) :: starEach es X.env := by rfl) (hpl : (backTo pos (starEach es X.env)).any (·.1) = false := by rfl) :
    PE X (.Call (.Name x p) (e :: es) [] pos) (tE X.K (eCallF F r)) := by
  subst hn
  obtain ⟨f, fd, ps, h1, h2, h3, h4⟩ := G.ex
  exact x_call h1 (hr.mono hjk) hg h2 h3 h4 ha hln hdb he hpl
theorem l_fn (G : Known X.prog X.w X.K X.mg X.base j x n F) (hr : Room k X.A) (ha : PA X (e :: es) (tA X.K r)) (hln : ∀ env ds, r env = some ds → ds.length = es.length + 1) (hg : Gl X x := by rfl) (hjk : j ≤ k := by decide) (hn : n = es.length + 1 := by rfl) (hdb : (x == ("__debug__" : Str)) = false := by decide) (he : starEach (e :: es) X.env = (false, eval e X.env) :: starEach es X.env := by rfl) (hpl : (backTo pos (starEach es X.env)).any (·.1) = false := by rfl) :
    PE X (.Call (.Name x p) (e :: es) [] pos) (tL X.K (lCallF F r)) := by
  subst hn
  obtain ⟨f, fd, ps, h1, h2, h3, h4⟩ := G.ex
  exact l_call h1 (hr.mono hjk) hg h2 h3 h4 ha hln hdb he hpl
end
theorem dp_ints {K : PySem.W.Frag} {H : Hp} : ∀ ns : List Int, DpAll K H (ns.map V.int) (ns.map PyData.int)
  | [] => .nil
  | n :: ns => .cons (.int n) (dp_ints ns)
end Fi

namespace Fi
open PySem PySem.Spec PyProof.Rows L2

def rCatD (K : PySem.W.Frag) : R2 := fun x y H Q => ∃ a b xs ys, x = .ref a ∧ y = .ref b ∧ SqL K H a xs ∧ SqL K H b ys ∧ xs.length + ys.length ≤ sizeLine ∧ ∀ p, H p = none → Q (.ref p) (upd H p (.lst (xs ++ ys)))
theorem op_catL {X : Cx} : OpR X (binaryOp .Add) (rCatD X.K) := by
  intro pins s σ H x y v u Q I rx ry h
  obtain ⟨l, b, xs, zs, rfl, rfl, hH, hB, hz, q⟩ := h
  cases rx
  cases ry
  obtain ⟨its, r, ⟨⟨cls, dd, data, sl⟩, n, ho, hc, _, hd⟩, _⟩ := I.list hH
  obtain ⟨its2, r2, ⟨⟨cls2, dd2, data2, sl2⟩, n2, ho2, hc2, _, hd2⟩, _⟩ := I.list hB
  simp only at hc hd hc2 hd2
  subst hc hd hc2 hd2
  have hl := r.length
  have hl2 := r2.length
  have e : its.toArray ++ its2.toArray = (its ++ its2).toArray := by simp
  refine concat_meets ⟨_, ho, rfl⟩ ⟨_, ho2, rfl⟩ noFill_list_add seq_list_add PySem.F.slot_list_add PySem.F.entry_list_add (PySem.F.args_list_add_2 _ _) (list_addW l b its.toArray its2.toArray n n2 dd dd2 sl sl2 (by rw [List.size_toArray, List.size_toArray]; omega)) ⟨ho, ho2, ?_⟩
  rw [e]
  exact ⟨.ref _, _, I.lnew (t' := s.toks) (r.append r2) (by rw [List.length_append]; omega), rfl, q _ I.fresh⟩
def lCat (f g : FE) : FL := fun env => (f env).bind fun x => (g env).bind fun y => match x, y with
  | .list a, .list b => if a.length + b.length ≤ 100000 then some (a ++ b) else none
  | _, _ => none
section
variable {X : Cx} {a b e : Expr} {f g : FE} {pos : Pos}
theorem l_cat (ha : PE X a (tE X.K f)) (hb : PE X b (tE X.K g)) : PE X (.BinOp a .Add b pos) (tL X.K (lCat f g)) := pe_le (pe_op op_catL ha hb) fun σ H Q ⟨Z, Hf, env, d, R, hf, k⟩ => by
  obtain ⟨x, hx, hf⟩ := Option_bind_some hf
  obtain ⟨y, hy, hf⟩ := Option_bind_some hf
  split at hf
  · rename_i l1 l2
    split at hf
    · rename_i hle
      cases hf
      refine ⟨Z, Hf, env, _, R, hx, fun v H1 Hf1 s1 d1 => ⟨Z, Hf1, env, _, R.step s1, hy, fun u H2 Hf2 s2 d2 => ?_⟩⟩
      obtain ⟨p, xs, rfl, hp, hd1⟩ := (Dp_up s2.f d1).lst_of
      obtain ⟨q, ys, rfl, hq, hd2⟩ := d2.lst_of
      have s12 := s1.trans s2
      refine ⟨p, q, xs, ys, rfl, rfl, s2.i.seq hp, s2.i.seq hq, size_le (by rw [hd1.len, hd2.len]; exact hle), fun r hr => ?_⟩
      exact k r _ _ _ (s12.trans (Stp.hid s12.i hr)) (s12.h.free hr) (s12.i.free hr) upd_same (hd1.app hd2)
    · cases hf
  · cases hf

def tyD : PyData → String
  | .none => "NoneType"
  | .bool _ => "bool"
  | .int _ => "int"
  | .str _ => "str"
  | .list _ => "list"
  | .tuple _ => "tuple"
  | _ => "dict"
theorem tyX_of {K : PySem.W.Frag} {H : Hp} {v : V} {d : PyData} (h : Dp K H v d) : TyX K H v (.type (tyD d)) := by
  cases h with
  | non => exact .base .non
  | bl b => exact .base (.bl b)
  | int i => exact .base (.int i)
  | str x => exact .base (.str x)
  | lst hs _ =>
    rcases hs with h | ⟨o, its, n, hk, hc, _⟩
    · rcases h with h | ⟨o, h⟩
      · exact .base (.lst h)
      · exact .base (.frz h)
    · exact .kList hk hc
  | tup hs _ =>
    rcases hs with h | ⟨o, its, n, hk, hc, _⟩
    · rcases h with h | ⟨o, h⟩
      · exact .base (.tup h)
      · exact .fTuple h
    · exact .kTuple hk hc
def eIsI (T : String) (f : FE) : FE := fun env => (f env).bind fun d => (kitB (tyD d) T).map .bool
theorem x_isI {T : String} {x : Str} {p p2 : Pos} (hv : bootBuiltins x = some (.type T)) (hg : Gl X "isinstance") (hm : X.mg "isinstance" = none) (hg2 : Gl X x) (hm2 : X.mg x = none) (he : PE X e (tE X.K f)) (hn2 : x ≠ "__name__" := by decide) (hdb2 : (x == ("__debug__" : Str)) = false := by decide)
    (hs : starEach [e, .Name x p2] X.env = (false, eval e X.env) :: starEach [.Name x p2] X.env := by rfl) (hs2 : starEach [.Name x p2] X.env = (false, eval (.Name x p2) X.env) :: starEach [] X.env := by rfl) (hpl : (backTo pos (starEach [.Name x p2] X.env)).any (·.1) = false := by rfl) :
    PE X (.Call (.Name "isinstance" p) [e, .Name x p2] [] pos) (tE X.K (eIsI T f)) := by
  have ht : PE X (.Name x p2) (tC (.ty T)) := ⟨fun _ _ _ H _ I h => ld_blt I hg2 hm2 hv ⟨.ty T, H, I, rfl, h⟩ hn2 hdb2⟩
  refine pe_le (pe_callB call_isi hg hm boot_isinstance (pa_cons he (pa_cons ht pa_nil hs2) hs) (by decide) (by decide) hs hpl) fun σ H Q ⟨Z, Hf, env, d, R, hf, k⟩ => ?_
  obtain ⟨x, hx, hf⟩ := Option_bind_some hf
  obtain ⟨b, hb, rfl⟩ := Option.map_eq_some_iff.mp hf
  exact ⟨Z, Hf, env, x, R, hx, fun v H1 Hf1 s1 d1 => ⟨v, .ty T, .type (tyD x), .type T, b, rfl, .ty T, tyX_of (Dp_up s1.i d1), kit_ty hb, k _ H1 Hf1 s1 (.bl b)⟩⟩

def fIn : PyData → PyData → Option PyData
  | d, .list ds => if SeqAt.shaped d = true ∧ SeqAt.shaped (.list ds) = true then some (.bool (ds.any fun z => PyData.eqv z d)) else none
  | _, _ => none
def fNotIn : PyData → PyData → Option PyData
  | d, .list ds => if SeqAt.shaped d = true ∧ SeqAt.shaped (.list ds) = true then some (.bool (!ds.any fun z => PyData.eqv z d)) else none
  | _, _ => none
end
end Fi

namespace Fi
open PySem PySem.Spec PyProof.Rows L2
section
variable {K : PySem.W.Frag} {Z : Hp × Hp} {Hf H : Hp} {env : En} {σ : L2.St} {D : Addr} {o : HO}
def NoOwn (env : En) (σ : L2.St) (D : Addr) : Prop := ∀ (i : Nat) (x : Sl), env[i]? = some (some x) → x.hid = true → σ[i]? ≠ some (some (.ref D))
end
def lcD2 (g : PyData → En → Option En) (fj : FL) (u : PyData → En → Option En) (f : FE) (vs1 : List Nat) (env : En) : List PyData → Option (List PyData)
  | [] => some []
  | d :: ds => (g d env).bind fun e1 => (fj e1).bind fun es => (lcD u pYes f (wipeE e1 vs1) es).bind fun xs => (lcD2 g fj u f vs1 env ds).bind fun ys => some (xs ++ ys)
def lLc2 (fi : FL) (g : PyData → En → Option En) (fj : FL) (u : PyData → En → Option En) (f : FE) (vs vs1 : List Nat) : FL := fun env => (fi env).bind fun ds => (lcD2 g fj u f vs1 (wipeE env vs) ds).bind fun out => if out.length < 100000 then some out else none
section
variable {X : Cx} {elt tg iter tg1 iter1 : Expr} {scope : Scope} {own : List (Str × Nat)} {pos : Pos} {fi fj : FL} {g u : PyData → En → Option En} {f : FE} {sl sm vs vs1 : List Nat}
end

def sortI (l : List Int) : List Int := l.mergeSort (fun a b => decide (a ≤ b))
def lSorted (f : FE) : FL := fun env => (f env).bind fun x => match x with
  | .list l => (getInts l).bind fun ns => some ((sortI ns).map .int)
  | _ => none
section
variable {X : Cx} {a b e : Expr} {f g : FE} {pos : Pos}
def lRep (l : FL) (g : FE) : FL := fun env => (l env).bind fun x => (g env).bind fun y => match y with
  | .int k => if x.length ≤ 100 ∧ k ≤ 1000 ∧ -1000 ≤ k then some (List.replicate k.toNat x).flatten else none
  | _ => none
end
end Fi
namespace Fi
open PySem L2
end Fi

namespace Fi
open PySem PySem.Spec PyProof.Rows L2

def ItzK3 (K : PySem.W.Frag) (k1 k2 k3 : Kd) (a b c : Addr) : It :=
  ⟨fun i H => ∃ (xs ys zs : List V) (x y z : V), SqK K k1 H a xs ∧ SqK K k2 H b ys ∧ SqK K k3 H c zs ∧ xs[i]? = some x ∧ ys[i]? = some y ∧ zs[i]? = some z,
    fun i H v H' => ∃ T x y z, v = .ref T ∧ H T = none ∧ H' = upd H T (.tup [x, y, z]) ∧ (∀ xs, SqK K k1 H a xs → xs[i]? = some x) ∧ (∀ ys, SqK K k2 H b ys → ys[i]? = some y) ∧ ∀ zs, SqK K k3 H c zs → zs[i]? = some z,
    fun i H => ∃ xs ys zs : List V, SqK K k1 H a xs ∧ SqK K k2 H b ys ∧ SqK K k3 H c zs ∧ i ≤ xs.length ∧ i ≤ ys.length ∧ i ≤ zs.length ∧ (i = xs.length ∨ i = ys.length ∨ i = zs.length)⟩
def iZipK3 (K : PySem.W.Frag) (k1 k2 k3 : Kd) (ta : TA) : TI := fun σ H R => ta σ H fun vs H1 => ∃ a b c xs ys zs, vs = [.ref a, .ref b, .ref c] ∧ SqK K k1 H1 a xs ∧ SqK K k2 H1 b ys ∧ SqK K k3 H1 c zs ∧ R (ItzK3 K k1 k2 k3 a b c) H1
def triples : List PyData → List PyData → List PyData → List PyData
  | x :: xs, y :: ys, z :: zs => .tuple [x, y, z] :: triples xs ys zs
  | _, _, _ => []
def iZ3 (k1 k2 k3 : Kd) (r : FL) : FL := fun env => match r env with
  | some [x, y, z] => (itemsK k1 x).bind fun xs => (itemsK k2 y).bind fun ys => (itemsK k3 z).bind fun zs => some (triples xs ys zs)
  | _ => none
def lR1 (f : FE) : FL := fun env => match f env with
  | some (.int n) => if -100000 < n ∧ n < 100000 then some ((List.range n.toNat).map fun (i : Nat) => PyData.int (i : Int)) else none
  | _ => none
section
variable {X : Cx} {e : Expr} {f g : FE} {pos : Pos}
def ownNe (i : Nat) (g : FE) : FE := fun env => match env[i]? with
  | some (some (.own l)) => (g env).bind fun y => if SeqAt.shaped (.list l) = true ∧ SeqAt.shaped y = true then some (.bool (!PyData.eqv (.list l) y)) else none
  | _ => none
def ownIn (i : Nat) (g : FE) : FE := fun env => match env[i]? with
  | some (some (.own l)) => (g env).bind fun y => if SeqAt.shaped y = true ∧ SeqAt.shaped (.list l) = true then some (.bool (l.any fun z => PyData.eqv z y)) else none
  | _ => none
/-- isinstance(x, list) of an own list -/
def ownIsL (i : Nat) : FE := fun env => match env[i]? with
  | some (some (.own _)) => some (.bool true)
  | _ => none
end
end Fi

namespace Ob
open PySem PySem.Spec PyProof.Rows L2 Fi
inductive D where
  | py (p : PyData) | obj (n : Nat) | tup (ds : List D) | lst (ds : List D) | cls (c : Str)
mutual
inductive Dq (K : PySem.W.Frag) (Hf : Hp) (ρ : List Addr) : V → D → Prop
  | py {v : V} {p : PyData} : Dp K Hf v p → Dq K Hf ρ v (.py p)
  | obj {a : Addr} {n : Nat} : ρ[n]? = some a → Dq K Hf ρ (.ref a) (.obj n)
  | tup {a : Addr} {xs : List V} {ds : List D} : SqT K Hf a xs → DqAll K Hf ρ xs ds → Dq K Hf ρ (.ref a) (.tup ds)
  | lst {a : Addr} {xs : List V} {ds : List D} : SqL K Hf a xs → DqAll K Hf ρ xs ds → Dq K Hf ρ (.ref a) (.lst ds)
  | cls {c : Str} : Dq K Hf ρ (.ref (He.ga K c)) (.cls c)
inductive DqAll (K : PySem.W.Frag) (Hf : Hp) (ρ : List Addr) : List V → List D → Prop
  | nil : DqAll K Hf ρ [] []
  | cons {v : V} {vs : List V} {d : D} {ds : List D} : Dq K Hf ρ v d → DqAll K Hf ρ vs ds → DqAll K Hf ρ (v :: vs) (d :: ds)
end
/-- the frozen part and the labels grow -/
structure Up (Hf : Hp) (ρ : List Addr) (Hf' : Hp) (ρ' : List Addr) : Prop where
  f : Same Hf Hf'
  p : ρ <+: ρ'
theorem Up.refl {Hf : Hp} {ρ : List Addr} : Up Hf ρ Hf ρ := ⟨Same.refl _, List.prefix_rfl⟩
theorem Up.trans {A B C : Hp} {a b c : List Addr} (x : Up A a B b) (y : Up B b C c) : Up A a C c := ⟨x.f.trans y.f, x.p.trans y.p⟩
theorem pre_get {α : Type} {l m : List α} {n : Nat} {a : α} (h : l <+: m) (e : l[n]? = some a) : m[n]? = some a := by
  obtain ⟨t, rfl⟩ := h
  rw [List.getElem?_append_left (List.getElem?_eq_some_iff.mp e).1]
  exact e
mutual
theorem Dq.up {K : PySem.W.Frag} {Hf Hf' : Hp} {ρ ρ' : List Addr} (u : Up Hf ρ Hf' ρ') : ∀ {v : V} {d : D}, Dq K Hf ρ v d → Dq K Hf' ρ' v d
  | _, _, .py h => .py (Dp_up u.f h)
  | _, _, .obj e => .obj (pre_get u.p e)
  | _, _, .tup h t => .tup (sqT_up u.f h) (DqAll.up u t)
  | _, _, .lst h t => .lst (u.f.seq h) (DqAll.up u t)
  | _, _, .cls => .cls
theorem DqAll.up {K : PySem.W.Frag} {Hf Hf' : Hp} {ρ ρ' : List Addr} (u : Up Hf ρ Hf' ρ') : ∀ {vs : List V} {ds : List D}, DqAll K Hf ρ vs ds → DqAll K Hf' ρ' vs ds
  | _, _, .nil => .nil
  | _, _, .cons h t => .cons (Dq.up u h) (DqAll.up u t)
end
section
variable {K : PySem.W.Frag} {Hf : Hp} {ρ : List Addr}
theorem DqAll.len : ∀ {vs : List V} {ds : List D}, DqAll K Hf ρ vs ds → vs.length = ds.length
  | _, _, .nil => rfl
  | _, _, .cons _ t => by rw [List.length_cons, List.length_cons, DqAll.len t]
theorem DqAll.get : ∀ {vs : List V} {ds : List D} {i : Nat} {v : V}, DqAll K Hf ρ vs ds → vs[i]? = some v → ∃ d, ds[i]? = some d ∧ Dq K Hf ρ v d
  | _, _, _, _, .nil, e => by simp at e
  | _, _, 0, _, .cons h _, e => by
    simp at e
    subst e
    exact ⟨_, rfl, h⟩
  | _, _, i + 1, v, .cons _ t, e => by
    obtain ⟨d, h1, h2⟩ := DqAll.get (i := i) (v := v) t (by simpa using e)
    exact ⟨d, by simpa using h1, h2⟩
theorem DqAll.at : ∀ {vs : List V} {ds : List D} {i : Nat} {d : D}, DqAll K Hf ρ vs ds → ds[i]? = some d → ∃ v, vs[i]? = some v ∧ Dq K Hf ρ v d
  | _, _, _, _, .nil, e => by simp at e
  | _, _, 0, _, .cons h _, e => by
    simp at e
    subst e
    exact ⟨_, rfl, h⟩
  | _, _, i + 1, v, .cons _ t, e => by
    obtain ⟨d, h1, h2⟩ := DqAll.at (i := i) t (by simpa using e)
    exact ⟨d, by simpa using h1, h2⟩
theorem DqAll.app : ∀ {vs us : List V} {ds es : List D}, DqAll K Hf ρ vs ds → DqAll K Hf ρ us es → DqAll K Hf ρ (vs ++ us) (ds ++ es)
  | _, _, _, _, .nil, h => h
  | _, _, _, _, .cons h t, q => .cons h (DqAll.app t q)
theorem DqAll.tk : ∀ {vs : List V} {ds : List D} (n : Nat), DqAll K Hf ρ vs ds → DqAll K Hf ρ (vs.take n) (ds.take n)
  | _, _, 0, _ => .nil
  | _, _, _ + 1, .nil => .nil
  | _, _, n + 1, .cons h t => .cons h (DqAll.tk n t)
theorem DqAll.dr : ∀ {vs : List V} {ds : List D} (n : Nat), DqAll K Hf ρ vs ds → DqAll K Hf ρ (vs.drop n) (ds.drop n)
  | _, _, 0, h => h
  | _, _, _ + 1, .nil => .nil
  | _, _, n + 1, .cons _ t => DqAll.dr n t
theorem DqAll.set {v : V} {d : D} (h : Dq K Hf ρ v d) : ∀ {vs : List V} {ds : List D} (i : Nat), DqAll K Hf ρ vs ds → DqAll K Hf ρ (vs.set i v) (ds.set i d)
  | _, _, _, .nil => .nil
  | _, _, 0, .cons _ t => .cons h t
  | _, _, i + 1, .cons q t => .cons q (DqAll.set h i t)
end
def D.py? : D → Option PyData
  | .py p => some p
  | _ => none
def pyAll : List D → Option (List PyData)
  | [] => some []
  | .py p :: r => (pyAll r).map (p :: ·)
  | _ :: _ => none
@[simp] theorem pyAll_nil : pyAll [] = some [] := rfl
@[simp] theorem pyAll_cons (p : PyData) (r : List D) : pyAll (.py p :: r) = (pyAll r).map (p :: ·) := rfl
theorem pyAll_map : ∀ ps : List PyData, pyAll (ps.map .py) = some ps
  | [] => rfl
  | p :: ps => by rw [List.map_cons, pyAll_cons, pyAll_map ps]; rfl
theorem pyAll_eq : ∀ {ds : List D} {ps : List PyData}, pyAll ds = some ps → ds = ps.map .py
  | [], ps, h => by cases h; rfl
  | .py p :: r, ps, h => by
    rw [pyAll_cons] at h
    cases e : pyAll r with
    | none => rw [e] at h; cases h
    | some qs =>
      rw [e] at h
      cases h
      rw [pyAll_eq e]
      rfl
  | .obj _ :: _, _, h => by cases h
  | .tup _ :: _, _, h => by cases h
  | .lst _ :: _, _, h => by cases h
  | .cls _ :: _, _, h => by cases h
section
variable {K : PySem.W.Frag} {Hf : Hp} {ρ : List Addr}
theorem Dq.dp {v : V} {p : PyData} (h : Dq K Hf ρ v (.py p)) : Dp K Hf v p := by cases h with | py h => exact h
theorem DqAll.dp : ∀ {ps : List PyData} {vs : List V}, DqAll K Hf ρ vs (ps.map .py) → DpAll K Hf vs ps
  | [], _, h => by cases h; exact .nil
  | p :: ps, _, h => by
    cases h with
    | cons h t => exact .cons h.dp (DqAll.dp t)
theorem dqAll_of : ∀ {ps : List PyData} {vs : List V}, DpAll K Hf vs ps → DqAll K Hf ρ vs (ps.map .py)
  | [], _, h => by cases h; exact .nil
  | p :: ps, _, h => by
    cases h with
    | cons h t => exact .cons (.py h) (dqAll_of t)
theorem DqAll.pure {vs : List V} {ds : List D} {ps : List PyData} (h : DqAll K Hf ρ vs ds) (e : pyAll ds = some ps) : DpAll K Hf vs ps := by
  rw [pyAll_eq e] at h
  exact h.dp
end
/-- a tuple, a list of these -/
def mkT (ds : List D) : D := match pyAll ds with
  | some ps => .py (.tuple ps)
  | none => .tup ds
def mkL (ds : List D) : D := match pyAll ds with
  | some ps => .py (.list ps)
  | none => .lst ds
theorem dq_mkT {K : PySem.W.Frag} {Hf : Hp} {ρ : List Addr} {a : Addr} {xs : List V} {ds : List D} (h : SqT K Hf a xs) (t : DqAll K Hf ρ xs ds) : Dq K Hf ρ (.ref a) (mkT ds) := by
  unfold mkT
  cases e : pyAll ds with
  | none => exact .tup h t
  | some ps => exact .py (.tup h (t.pure e))
theorem dq_mkL {K : PySem.W.Frag} {Hf : Hp} {ρ : List Addr} {a : Addr} {xs : List V} {ds : List D} (h : SqL K Hf a xs) (t : DqAll K Hf ρ xs ds) : Dq K Hf ρ (.ref a) (mkL ds) := by
  unfold mkL
  cases e : pyAll ds with
  | none => exact .lst h t
  | some ps => exact .py (.lst h (t.pure e))
def D.tup? : D → Option (List D)
  | .py (.tuple ps) => some (ps.map .py)
  | .tup ds => some ds
  | _ => none
def D.lst? : D → Option (List D)
  | .py (.list ps) => some (ps.map .py)
  | .lst ds => some ds
  | _ => none
theorem Dq.tup_of {K : PySem.W.Frag} {Hf : Hp} {ρ : List Addr} {v : V} {d : D} {ds : List D} (h : Dq K Hf ρ v d) (e : d.tup? = some ds) : ∃ a xs, v = .ref a ∧ SqT K Hf a xs ∧ DqAll K Hf ρ xs ds := by
  cases h with
  | py h =>
    cases h with
    | tup hs ha => cases e; exact ⟨_, _, rfl, hs, dqAll_of ha⟩
    | _ => cases e
  | tup hs ha => cases e; exact ⟨_, _, rfl, hs, ha⟩
  | _ => cases e
theorem Dq.lst_of {K : PySem.W.Frag} {Hf : Hp} {ρ : List Addr} {v : V} {d : D} {ds : List D} (h : Dq K Hf ρ v d) (e : d.lst? = some ds) : ∃ a xs, v = .ref a ∧ SqL K Hf a xs ∧ DqAll K Hf ρ xs ds := by
  cases h with
  | py h =>
    cases h with
    | lst hs ha => cases e; exact ⟨_, _, rfl, hs, dqAll_of ha⟩
    | _ => cases e
  | lst hs ha => cases e; exact ⟨_, _, rfl, hs, ha⟩
  | _ => cases e
theorem nodup_inj {α : Type} {l : List α} (h : l.Nodup) {i j : Nat} (hi : i < l.length) (hj : j < l.length) (e : l[i] = l[j]) : i = j := by
  rcases Nat.lt_trichotomy i j with q | q | q
  · exact absurd e (List.pairwise_iff_getElem.mp h i j hi hj q)
  · exact q
  · exact absurd e.symm (List.pairwise_iff_getElem.mp h j i hj hi q)
inductive Oj where
  | ins (c : Str) (fs : List (Str × D))
  | lst (ds : List D)
  | tab (x : Str)
  | dct (ks : List (Str × D))
abbrev Stor := List Oj
def FsOk (K : PySem.W.Frag) (Hf : Hp) (ρ : List Addr) : List (Str × V) → List (Str × D) → Prop := Paired fun p q => p.1 = q.1 ∧ Dq K Hf ρ p.2 q.2
def KsOk (K : PySem.W.Frag) (Hf : Hp) (ρ : List Addr) : List (Key × V) → List (Str × D) → Prop := Paired fun p q => p.1 = Sum.inr q.1 ∧ Dq K Hf ρ p.2 q.2
/-- the code object of the def x, and its table -/
def codeA (K : PySem.W.Frag) (x : Str) : Addr := match K.lookup (He.ga K x) with
  | some ⟨_, _, .func fd, _⟩ => (match fd.code with
    | .ref c => c
    | _ => 0)
  | _ => 0
def tabA (K : PySem.W.Frag) (x : Str) : Addr := match K.lookup (codeA K x) with
  | some ⟨_, _, .fields vs, _⟩ => (match (vs[11]? : Option Value) with
    | some (.ref P) => P
    | _ => 0)
  | _ => 0
def OjOk (K : PySem.W.Frag) (ρ : List Addr) (Hf H : Hp) (a : Addr) : Oj → Prop
  | .ins c fs => ∃ dx vs, H a = some (.ins (He.ga K c) dx vs) ∧ FsOk K Hf ρ vs fs
  | .lst ds => ∃ vs, H a = some (.lst vs) ∧ DqAll K Hf ρ vs ds
  | .tab x => a = tabA K x ∧ LamX.TabS H a (x ++ ".<locals>." ++ "<lambda>")
  | .dct ks => ∃ vs, H a = some (.dK vs) ∧ KsOk K Hf ρ vs ks
structure StOk (K : PySem.W.Frag) (ρ : List Addr) (Hf H : Hp) (st : Stor) : Prop where
  i : Same Hf H
  len : ρ.length = st.length
  nd : ρ.Nodup
  hid : ∀ a ∈ ρ, Hf a = none
  ob : ∀ (n : Nat) (a : Addr) (o : Oj), ρ[n]? = some a → st[n]? = some o → OjOk K ρ Hf H a o
/-- the heap steps on: the objects of ρ may change, what else is tracked stays -/
structure OStp (ρ : List Addr) (Hf H : Hp) (ρ' : List Addr) (Hf' H' : Hp) : Prop where
  up : Up Hf ρ Hf' ρ'
  h : ∀ a o, H a = some o → a ∉ ρ → H' a = some o
  n : ∀ a o, H a = some o → Hf a = none → Hf' a = none
  w : ∀ a ∈ ρ', a ∉ ρ → H a = none
  s : ∀ a o, H a = some o → ∃ o', H' a = some o'
theorem OStp.refl {ρ : List Addr} {Hf H : Hp} : OStp ρ Hf H ρ Hf H := ⟨.refl, fun _ _ e _ => e, fun _ _ _ e => e, fun _ h n => absurd h n, fun _ o e => ⟨o, e⟩⟩
theorem OStp.trans {r1 r2 r3 : List Addr} {A B C E F G : Hp} (x : OStp r1 A B r2 C E) (y : OStp r2 C E r3 F G) : OStp r1 A B r3 F G where
  up := x.up.trans y.up
  h := fun a o e n => by
    have e1 := x.h a o e n
    refine y.h a o e1 fun m => ?_
    rw [x.w a m n] at e
    cases e
  n := fun a o e q => by
    obtain ⟨o', e1⟩ := x.s a o e
    exact y.n a o' e1 (x.n a o e q)
  w := fun a m n => by
    by_cases q : a ∈ r2
    · exact x.w a q n
    · have e1 := y.w a m q
      cases e : B a with
      | none => rfl
      | some o =>
        rw [x.h a o e n] at e1
        cases e1
  s := fun a o e => by
    obtain ⟨o', e1⟩ := x.s a o e
    exact y.s a o' e1
theorem OStp.of {ρ : List Addr} {Hf H Hf' H' : Hp} (s : Stp Hf H Hf' H') : OStp ρ Hf H ρ Hf' H' :=
  ⟨⟨s.f, List.prefix_rfl⟩, fun a o e _ => s.h a o e, s.n, fun _ h n => absurd h n, fun a o e => ⟨o, s.h a o e⟩⟩
theorem FsOk.up {K : PySem.W.Frag} {Hf Hf' : Hp} {ρ ρ' : List Addr} {vs : List (Str × V)} {fs : List (Str × D)} (h : FsOk K Hf ρ vs fs) (u : Up Hf ρ Hf' ρ') : FsOk K Hf' ρ' vs fs := Paired.mapP h fun _ _ z => ⟨z.1, z.2.up u⟩
theorem KsOk.up {K : PySem.W.Frag} {Hf Hf' : Hp} {ρ ρ' : List Addr} {vs : List (Key × V)} {fs : List (Str × D)} (h : KsOk K Hf ρ vs fs) (u : Up Hf ρ Hf' ρ') : KsOk K Hf' ρ' vs fs := Paired.mapP h fun _ _ z => ⟨z.1, z.2.up u⟩
theorem OjOk.up {K : PySem.W.Frag} {Hf Hf' H H' : Hp} {ρ ρ' : List Addr} {a : Addr} {o : Oj} (h : OjOk K ρ Hf H a o) (u : Up Hf ρ Hf' ρ') (e : H' a = H a) (k : ∀ c q, H c = some (LamX.CodeO c q) → H' c = some (LamX.CodeO c q)) : OjOk K ρ' Hf' H' a o := by
  cases o with
  | ins c fs =>
    obtain ⟨dx, vs, h1, h2⟩ := h
    exact ⟨dx, vs, by rw [e, h1], h2.up u⟩
  | lst ds =>
    obtain ⟨vs, h1, h2⟩ := h
    exact ⟨vs, by rw [e, h1], h2.up u⟩
  | tab q =>
    obtain ⟨h0, ps, h1, h2, h3⟩ := h
    refine ⟨h0, ps, by rw [e, h1], h2, fun pos cv hc => ?_⟩
    obtain ⟨c, h4, h5⟩ := h3 pos cv hc
    exact ⟨c, h4, k c _ h5⟩
  | dct ks =>
    obtain ⟨vs, h1, h2⟩ := h
    exact ⟨vs, by rw [e, h1], h2.up u⟩
theorem OjOk.nocode {K : PySem.W.Frag} {Hf H : Hp} {ρ : List Addr} {a : Addr} {o : Oj} (h : OjOk K ρ Hf H a o) (q : Str) : H a ≠ some (LamX.CodeO a q) := by
  cases o with
  | ins c fs =>
    obtain ⟨dx, vs, h1, _⟩ := h
    rw [h1]
    exact fun z => by unfold LamX.CodeO at z; cases z
  | lst ds =>
    obtain ⟨vs, h1, _⟩ := h
    rw [h1]
    exact fun z => by unfold LamX.CodeO at z; cases z
  | tab q =>
    obtain ⟨_, ps, h1, _⟩ := h
    rw [h1]
    exact fun z => by unfold LamX.CodeO at z; cases z
  | dct ks =>
    obtain ⟨vs, h1, _⟩ := h
    rw [h1]
    exact fun z => by unfold LamX.CodeO at z; cases z
theorem OjOk.has {K : PySem.W.Frag} {Hf H : Hp} {ρ : List Addr} {a : Addr} {o : Oj} (h : OjOk K ρ Hf H a o) : ∃ u, H a = some u := by
  cases o with
  | ins c fs =>
    obtain ⟨dx, vs, h1, _⟩ := h
    exact ⟨_, h1⟩
  | lst ds =>
    obtain ⟨vs, h1, _⟩ := h
    exact ⟨_, h1⟩
  | tab q =>
    obtain ⟨_, ps, h1, _⟩ := h
    exact ⟨_, h1⟩
  | dct ks =>
    obtain ⟨vs, h1, _⟩ := h
    exact ⟨_, h1⟩
section
variable {K : PySem.W.Frag} {ρ ρ' : List Addr} {Hf H Hf' H' : Hp} {st : Stor}
theorem StOk.has (S : StOk K ρ Hf H st) {a : Addr} (m : a ∈ ρ) : ∃ u, H a = some u := by
  obtain ⟨n, hn, e⟩ := List.mem_iff_getElem.mp m
  have e1 : ρ[n]? = some a := by rw [List.getElem?_eq_getElem hn, e]
  have hl : n < st.length := by rw [← S.len]; exact hn
  exact (S.ob n a st[n] e1 (List.getElem?_eq_getElem hl)).has
/-- nothing of the store is changed -/
theorem StOk.stp (S : StOk K ρ Hf H st) (s : Stp Hf H Hf' H') : StOk K ρ Hf' H' st where
  i := s.i
  len := S.len
  nd := S.nd
  hid := fun a m => by
    obtain ⟨u, e⟩ := S.has m
    exact s.n a u e (S.hid a m)
  ob := fun n a o e1 e2 => by
    obtain ⟨u, e⟩ := S.has (List.mem_of_getElem? e1)
    exact (S.ob n a o e1 e2).up ⟨s.f, List.prefix_rfl⟩ (by rw [e, s.h a u e]) (fun c q z => s.h c _ z)
theorem StOk.new {p : Addr} (S : StOk K ρ Hf H st) (h : H p = none) : p ∉ ρ := fun m => by
  obtain ⟨u, e⟩ := S.has m
  rw [h] at e
  cases e
/-- an object of the store is changed -/
theorem StOk.set {n : Nat} {a : Addr} {o' : Oj} {u : HO} (S : StOk K ρ Hf H st) (e : ρ[n]? = some a) (h : OjOk K ρ Hf (upd H a u) a o') : StOk K ρ Hf (upd H a u) (st.set n o') where
  i := fun b o q => by
    have hb : b ≠ a := fun z => by
      rw [z, S.hid a (List.mem_of_getElem? e)] at q
      cases q
    rw [upd_ne hb]
    exact S.i b o q
  len := by rw [List.length_set]; exact S.len
  nd := S.nd
  hid := S.hid
  ob := fun m b o e1 e2 => by
    by_cases hm : n = m
    · subst hm
      rw [e] at e1
      cases e1
      have hl : n < st.length := by rw [← S.len]; exact (List.getElem?_eq_some_iff.mp e).1
      rw [List.getElem?_set_self hl] at e2
      cases e2
      exact h
    · rw [List.getElem?_set_ne hm] at e2
      have hb : b ≠ a := fun z => by
        subst z
        obtain ⟨i1, j1⟩ := List.getElem?_eq_some_iff.mp e
        obtain ⟨i2, j2⟩ := List.getElem?_eq_some_iff.mp e1
        exact hm (nodup_inj S.nd i1 i2 (j1.trans j2.symm))
      exact (S.ob m b o e1 e2).up .refl (by rw [upd_ne hb]) fun c q z => by
        have hc : c ≠ a := fun w => by
          subst w
          have hl : n < st.length := by rw [← S.len]; exact (List.getElem?_eq_some_iff.mp e).1
          exact (S.ob n c st[n] e (List.getElem?_eq_getElem hl)).nocode q z
        rw [upd_ne hc]
        exact z
theorem StOk.setStp {n : Nat} {a : Addr} {u : HO} (S : StOk K ρ Hf H st) (e : ρ[n]? = some a) : OStp ρ Hf H ρ Hf (upd H a u) where
  up := .refl
  h := fun b o q m => by
    have hb : b ≠ a := fun z => m (by rw [z]; exact List.mem_of_getElem? e)
    rw [upd_ne hb]
    exact q
  n := fun _ _ _ q => q
  w := fun _ m q => absurd m q
  s := fun b o q => by
    by_cases hb : b = a
    · exact ⟨u, by rw [hb, upd_same]⟩
    · exact ⟨o, by rw [upd_ne hb]; exact q⟩
end
end Ob

namespace Ob
open PySem PySem.Spec PyProof.Rows L2 Fi
section
variable {K : PySem.W.Frag} {ρ ρ' : List Addr} {Hf H Hf' H' : Hp} {st : Stor}
/-- a new object -/
theorem StOk.push {a : Addr} {o : Oj} (S : StOk K ρ Hf H st) (ha : H a = none) (i : Same Hf H') (k : ∀ b u, H b = some u → H' b = some u) (h : OjOk K (ρ ++ [a]) Hf H' a o) : StOk K (ρ ++ [a]) Hf H' (st ++ [o]) where
  i := i
  len := by rw [List.length_append, List.length_append, S.len]; rfl
  nd := by
    rw [List.nodup_append]
    refine ⟨S.nd, List.pairwise_singleton _ _, fun x hx y hy e => ?_⟩
    rw [List.mem_singleton] at hy
    subst hy e
    exact S.new ha hx
  hid := fun b m => by
    rw [List.mem_append, List.mem_singleton] at m
    rcases m with m | m
    · exact S.hid b m
    · rw [m]
      exact S.i.free ha
  ob := fun n b u e1 e2 => by
    by_cases q : n < ρ.length
    · rw [List.getElem?_append_left q] at e1
      rw [List.getElem?_append_left (by rw [← S.len]; exact q)] at e2
      obtain ⟨u', e⟩ := S.has (List.mem_of_getElem? e1)
      exact (S.ob n b u e1 e2).up ⟨Same.refl _, List.prefix_append _ _⟩ (by rw [e, k b u' e]) (fun c q z => k c _ z)
    · have hn : n = ρ.length := by
        have := (List.getElem?_eq_some_iff.mp e1).1
        rw [List.length_append, List.length_singleton] at this
        omega
      subst hn
      rw [List.getElem?_append_right (Nat.le_refl _), Nat.sub_self] at e1
      rw [S.len, List.getElem?_append_right (Nat.le_refl _), Nat.sub_self] at e2
      cases e1
      cases e2
      exact h
theorem OStp.push {a : Addr} (i : Same Hf H) (ha : H a = none) (k : ∀ b u, H b = some u → H' b = some u) : OStp ρ Hf H (ρ ++ [a]) Hf H' where
  up := ⟨Same.refl _, List.prefix_append _ _⟩
  h := fun b o e _ => k b o e
  n := fun _ _ _ e => e
  w := fun b m n => by
    rw [List.mem_append, List.mem_singleton] at m
    rcases m with m | m
    · exact absurd m n
    · rw [m]
      exact ha
  s := fun b o e => ⟨o, k b o e⟩
theorem made_keeps {x dx C : Addr} (hx : H x = none) (hd : H dx = none) : ∀ b u, H b = some u → (upd (upd H dx (.own x)) x (.ins C dx [])) b = some u := fun b u e => by
  rw [upd_ne (ne_of_none e hx), upd_ne (ne_of_none e hd)]
  exact e
theorem StOk.make {x dx : Addr} {c : Str} (S : StOk K ρ Hf H st) (hx : H x = none) (hd : H dx = none) : StOk K (ρ ++ [x]) Hf (upd (upd H dx (.own x)) x (.ins (He.ga K c) dx [])) (st ++ [.ins c []]) :=
  S.push hx (fun b u e => made_keeps hx hd b u (S.i b u e)) (made_keeps hx hd) ⟨dx, [], upd_same, .nil⟩
end
inductive Sl where
  | val (d : D)
  | own (ds : List D)
abbrev En := List (Option Sl)
def pvS : Option Sl → Option Fi.Sl
  | some (.val (.py p)) => some (.val p)
  | some (.own ds) => (pyAll ds).map .own
  | _ => none
/-- the plain view of the slots -/
def pv (env : En) : Fi.En := env.map pvS
@[simp] theorem pv_nil : pv [] = [] := rfl
@[simp] theorem pv_cons (x : Option Sl) (r : En) : pv (x :: r) = pvS x :: pv r := rfl
@[simp] theorem pvS_py (p : PyData) : pvS (some (.val (.py p))) = some (.val p) := rfl
@[simp] theorem pvS_none : pvS none = none := rfl
@[simp] theorem pvS_obj (n : Nat) : pvS (some (.val (.obj n))) = none := rfl
@[simp] theorem pvS_cls (n : Str) : pvS (some (.val (.cls n))) = none := rfl
@[simp] theorem pvS_tup (l : List D) : pvS (some (.val (.tup l))) = none := rfl
@[simp] theorem pvS_lst (l : List D) : pvS (some (.val (.lst l))) = none := rfl
@[simp] theorem pvS_own (l : List D) : pvS (some (.own l)) = (pyAll l).map .own := rfl
/-- a def's entry -/
structure Zt where
  ρ : List Addr
  Hf : Hp
  H : Hp
def SlOk (K : PySem.W.Frag) (H0 : Hp) (ρ : List Addr) (Hf H : Hp) (v : V) : Sl → Prop
  | .val d => Dq K Hf ρ v d
  | .own ds => ∃ p vs, v = .ref p ∧ H0 p = none ∧ p ∉ ρ ∧ Hf p = none ∧ H p = some (.lst vs) ∧ DqAll K Hf ρ vs ds
structure Rel (K : PySem.W.Frag) (Z : Zt) (ρ : List Addr) (Hf H : Hp) (env : En) (st : Stor) (σ : L2.St) : Prop where
  z : OStp Z.ρ Z.Hf Z.H ρ Hf H
  ok : StOk K ρ Hf H st
  len : env.length = σ.length
  sl : ∀ (i : Nat) (s : Sl), env[i]? = some (some s) → ∃ v, σ[i]? = some (some v) ∧ SlOk K Z.H ρ Hf H v s
  ds : ∀ (i j : Nat) (x y : List D) (p : Addr), env[i]? = some (some (.own x)) → env[j]? = some (some (.own y)) → σ[i]? = some (some (.ref p)) → σ[j]? = some (some (.ref p)) → i = j
section
variable {K : PySem.W.Frag} {Z : Zt} {ρ ρ' : List Addr} {Hf H Hf' H' : Hp} {env : En} {st st' : Stor} {σ : L2.St}
theorem SlOk.step {H0 : Hp} {v : V} {s : Sl} (x : SlOk K H0 ρ Hf H v s) (t : OStp ρ Hf H ρ' Hf' H') : SlOk K H0 ρ' Hf' H' v s := by
  cases s with
  | val d => exact Dq.up t.up x
  | own l =>
    obtain ⟨p, vs, a, b, c, d, e, f⟩ := x
    refine ⟨p, vs, a, b, fun m => ?_, t.n p _ e d, t.h p _ e c, f.up t.up⟩
    rw [t.w p m c] at e
    cases e
theorem Rel.step (R : Rel K Z ρ Hf H env st σ) (t : OStp ρ Hf H ρ' Hf' H') (S : StOk K ρ' Hf' H' st') : Rel K Z ρ' Hf' H' env st' σ := by
  refine ⟨R.z.trans t, S, R.len, fun i x e => ?_, R.ds⟩
  obtain ⟨v, h1, h2⟩ := R.sl i x e
  exact ⟨v, h1, h2.step t⟩
/-- the plain view -/
theorem Rel.pure (R : Rel K Z ρ Hf H env st σ) : Fi.Rel K (fun _ => none, fun _ => none) Hf H (pv env) σ := by
  refine ⟨⟨(fun _ _ h => nomatch h), R.ok.i, (fun _ _ h => nomatch h), (fun _ _ h => nomatch h)⟩, by unfold pv; rw [List.length_map, R.len], fun i s e => ?_, fun i j x y p e1 e2 => ?_⟩
  · unfold pv at e
    rw [List.getElem?_map] at e
    cases q : env[i]? with
    | none => rw [q] at e; cases e
    | some o =>
      rw [q] at e
      cases o with
      | none => cases e
      | some t =>
        obtain ⟨v, h1, h2⟩ := R.sl i t q
        refine ⟨v, h1, ?_⟩
        cases t with
        | val d =>
          cases d with
          | py p =>
            cases e
            exact Dq.dp h2
          | _ => cases e
        | own ds =>
          cases w : pyAll ds with
          | none => simp [pvS, w] at e
          | some ps =>
            simp [pvS, w] at e
            subst e
            obtain ⟨p, vs, a, b, c, d, g, f⟩ := h2
            exact ⟨p, vs, a, rfl, d, g, f.pure w⟩
  · have own : ∀ (i : Nat) (x : List PyData), (pv env)[i]? = some (some (Fi.Sl.own x)) → ∃ ds, env[i]? = some (some (.own ds)) := fun i x e => by
      unfold pv at e
      rw [List.getElem?_map] at e
      cases q : env[i]? with
      | none => rw [q] at e; cases e
      | some o =>
        rw [q] at e
        cases o with
        | none => cases e
        | some t =>
          cases t with
          | val d => cases d <;> cases e
          | own ds => exact ⟨ds, rfl⟩
    obtain ⟨d1, g1⟩ := own i x e1
    obtain ⟨d2, g2⟩ := own j y e2
    exact R.ds i j d1 d2 p g1 g2
/-- a value is stored -/
theorem Rel.set {v : V} {d : D} (R : Rel K Z ρ Hf H env st σ) (i : Nat) (h : Dq K Hf ρ v d) : Rel K Z ρ Hf H (env.set i (some (.val d))) st (σ.set i (some v)) := by
  refine ⟨R.z, R.ok, by rw [List.length_set, List.length_set, R.len], fun j s e => ?_, fun j k x y p ej ek hj hk => ?_⟩
  · rcases set_cases e with ⟨rfl, q⟩ | ⟨hn, q⟩
    · cases q
      have hl := set_some_lt e
      refine ⟨v, List.getElem?_set_self (by rw [← R.len]; exact hl), h⟩
    · obtain ⟨w, h1, h2⟩ := R.sl j s q
      exact ⟨w, by rw [List.getElem?_set_ne hn]; exact h1, h2⟩
  · rcases set_cases ej with ⟨rfl, q⟩ | ⟨hn, q⟩
    · cases q
    · rcases set_cases ek with ⟨rfl, q2⟩ | ⟨hn2, q2⟩
      · cases q2
      · rw [List.getElem?_set_ne hn] at hj
        rw [List.getElem?_set_ne hn2] at hk
        exact R.ds j k x y p q q2 hj hk
theorem Rel.drop (R : Rel K Z ρ Hf H env st σ) (i : Nat) (o : Option V) : Rel K Z ρ Hf H (env.set i none) st (σ.set i o) := by
  refine ⟨R.z, R.ok, by rw [List.length_set, List.length_set, R.len], fun j s e => ?_, fun j k x y p ej ek hj hk => ?_⟩
  · rcases set_cases e with ⟨rfl, q⟩ | ⟨hn, q⟩
    · cases q
    · obtain ⟨w, h1, h2⟩ := R.sl j s q
      exact ⟨w, by rw [List.getElem?_set_ne hn]; exact h1, h2⟩
  · rcases set_cases ej with ⟨rfl, q⟩ | ⟨hn, q⟩
    · cases q
    · rcases set_cases ek with ⟨rfl, q2⟩ | ⟨hn2, q2⟩
      · cases q2
      · rw [List.getElem?_set_ne hn] at hj
        rw [List.getElem?_set_ne hn2] at hk
        exact R.ds j k x y p q q2 hj hk
/-- a new list is stored, to be changed here alone -/
theorem Rel.setOwn {p : Addr} {vs : List V} {ds : List D} (R : Rel K Z ρ Hf H env st σ) (t : OStp ρ Hf H ρ' Hf' H') (S : StOk K ρ' Hf' H' st') (i : Nat) (h0 : H p = none) (hr : p ∉ ρ') (h1 : Hf' p = none) (h2 : H' p = some (.lst vs)) (h3 : DqAll K Hf' ρ' vs ds) :
    Rel K Z ρ' Hf' H' (env.set i (some (.own ds))) st' (σ.set i (some (.ref p))) := by
  have R' := R.step t S
  have hz : Z.H p = none := by
    cases e : Z.H p with
    | none => rfl
    | some o =>
      obtain ⟨o', e1⟩ := R.z.s p o e
      rw [h0] at e1
      cases e1
  have ne : ∀ (j : Nat) (x : List D) (q : Addr), env[j]? = some (some (Sl.own x)) → σ[j]? = some (some (V.ref q)) → q ≠ p := fun j x q e1 e2 => by
    obtain ⟨v, g1, g2⟩ := R.sl j _ e1
    obtain ⟨r, ws, rfl, _, _, _, g3, _⟩ := g2
    rw [e2] at g1
    cases g1
    exact ne_of_none g3 h0
  refine ⟨R'.z, S, by rw [List.length_set, List.length_set, R.len], fun j t e => ?_, fun j k x y q ej ek hj hk => ?_⟩
  · rcases set_cases e with ⟨rfl, z⟩ | ⟨hn, z⟩
    · cases z
      have hl := set_some_lt e
      exact ⟨.ref p, List.getElem?_set_self (by rw [← R.len]; exact hl), p, vs, rfl, hz, hr, h1, h2, h3⟩
    · obtain ⟨w, g1, g2⟩ := R'.sl j t z
      exact ⟨w, by rw [List.getElem?_set_ne hn]; exact g1, g2⟩
  · rcases set_cases ej with ⟨rfl, z⟩ | ⟨hn, z⟩
    · rcases set_cases ek with ⟨rfl, z2⟩ | ⟨hn2, z2⟩
      · rfl
      · have hl := set_some_lt ej
        rw [List.getElem?_set_self (by rw [← R.len]; exact hl)] at hj
        cases hj
        rw [List.getElem?_set_ne hn2] at hk
        exact absurd rfl (ne k y _ z2 hk)
    · rcases set_cases ek with ⟨rfl, z2⟩ | ⟨hn2, z2⟩
      · have hl := set_some_lt ek
        rw [List.getElem?_set_self (by rw [← R.len]; exact hl)] at hk
        cases hk
        rw [List.getElem?_set_ne hn] at hj
        exact absurd rfl (ne j x _ z hj)
      · rw [List.getElem?_set_ne hn] at hj
        rw [List.getElem?_set_ne hn2] at hk
        exact R.ds j k x y q z z2 hj hk
/-- the list of an own slot is changed -/
theorem Rel.mut {i : Nat} {l l' : List D} {p : Addr} {vs' : List V} (R : Rel K Z ρ Hf H env st σ) (he : env[i]? = some (some (.own l))) (hs : σ[i]? = some (some (.ref p))) (h3 : DqAll K Hf ρ vs' l') :
    Rel K Z ρ Hf (upd H p (.lst vs')) (env.set i (some (.own l'))) st σ := by
  obtain ⟨v, g1, q, vs, rfl, hz, hr, hf, hp, hd⟩ := R.sl i _ he
  rw [hs] at g1
  cases g1
  refine ⟨⟨R.z.up, fun b o e m => ?_, R.z.n, R.z.w, fun b o e => ?_⟩, ⟨fun b o e => ?_, R.ok.len, R.ok.nd, R.ok.hid, fun n b o e1 e2 => ?_⟩, by rw [List.length_set, R.len], fun j t e => ?_, fun j k x y q ej ek hj hk => ?_⟩
  · rw [upd_ne (ne_of_none e hz)]
    exact R.z.h b o e m
  · obtain ⟨o', e1⟩ := R.z.s b o e
    exact ⟨o', by rw [upd_ne (ne_of_none e hz)]; exact e1⟩
  · rw [upd_ne (ne_of_none e hf)]
    exact R.ok.i b o e
  · have hb : b ≠ p := fun z => hr (by rw [← z]; exact List.mem_of_getElem? e1)
    exact (R.ok.ob n b o e1 e2).up .refl (by rw [upd_ne hb]) fun c q z => by
      have hc : c ≠ p := fun w => by
        subst w
        rw [hp] at z
        unfold LamX.CodeO at z
        cases z
      rw [upd_ne hc]
      exact z
  · rcases set_cases e with ⟨rfl, z⟩ | ⟨hn, z⟩
    · cases z
      exact ⟨.ref p, hs, p, vs', rfl, hz, hr, hf, upd_same, h3⟩
    · obtain ⟨w, g1, g2⟩ := R.sl j t z
      refine ⟨w, g1, ?_⟩
      cases t with
      | val d => exact g2
      | own m =>
        obtain ⟨r, ws, rfl, a, b, b2, c, d⟩ := g2
        refine ⟨r, ws, rfl, a, b, b2, ?_, d⟩
        have hr : r ≠ p := fun q => hn (R.ds i j l m p he z hs (by rw [g1, q]))
        rw [upd_ne hr]
        exact c
  · have e1 : ∃ x', env[j]? = some (some (.own x')) := by
      rcases set_cases ej with ⟨rfl, z⟩ | ⟨hn, z⟩
      · exact ⟨l, he⟩
      · exact ⟨x, z⟩
    have e2 : ∃ y', env[k]? = some (some (.own y')) := by
      rcases set_cases ek with ⟨rfl, z⟩ | ⟨hn, z⟩
      · exact ⟨l, he⟩
      · exact ⟨y, z⟩
    obtain ⟨x', e1⟩ := e1
    obtain ⟨y', e2⟩ := e2
    exact R.ds j k x' y' q e1 e2 hj hk
/-- an own slot becomes a value -/
def frz (i : Nat) (env : En) : En := match env[i]? with
  | some (some (.own l)) => env.set i (some (.val (mkL l)))
  | _ => env
theorem Rel.frz (R : Rel K Z ρ Hf H env st σ) (i : Nat) : ∃ Hf', Same Hf Hf' ∧ Rel K Z ρ Hf' H (frz i env) st σ := by
  unfold Ob.frz
  split
  · rename_i l he
    obtain ⟨v, hs, p, vs, rfl, hz, hr, hf, hp, hd⟩ := R.sl i _ he
    have hsm : Same Hf (upd Hf p (.lst vs)) := same_new hf
    have u : Up Hf ρ (upd Hf p (.lst vs)) ρ := ⟨hsm, List.prefix_rfl⟩
    have nh : ∀ b, b ≠ p → Hf b = none → (upd Hf p (.lst vs)) b = none := fun b n e => by rw [upd_ne n]; exact e
    refine ⟨upd Hf p (.lst vs), hsm, ⟨⟨R.z.up.trans u, R.z.h, fun a o e q => ?_, R.z.w, R.z.s⟩, ⟨fun b o e => ?_, R.ok.len, R.ok.nd, fun a m => ?_, fun n b o e1 e2 => (R.ok.ob n b o e1 e2).up u rfl fun _ _ z => z⟩, by rw [List.length_set, R.len], fun j t e => ?_, fun j k x y q ej ek hj hk => ?_⟩⟩
    · exact nh a (ne_of_none e hz) (R.z.n a o e q)
    · by_cases hb : b = p
      · subst hb
        rw [upd_same] at e
        rw [hp, e]
      · rw [upd_ne hb] at e
        exact R.ok.i b o e
    · exact nh a (fun z => hr (by rw [← z]; exact m)) (R.ok.hid a m)
    · rcases set_cases e with ⟨rfl, z⟩ | ⟨hn, z⟩
      · cases z
        exact ⟨.ref p, hs, dq_mkL (SqL.of upd_same) (hd.up u)⟩
      · obtain ⟨w, g1, g2⟩ := R.sl j t z
        refine ⟨w, g1, ?_⟩
        cases t with
        | val d => exact Dq.up u g2
        | own m =>
          obtain ⟨r, ws, rfl, a, b, b2, c, d⟩ := g2
          have hr : r ≠ p := fun q => hn (R.ds i j l m p he z hs (by rw [g1, q]))
          exact ⟨r, ws, rfl, a, b, nh r hr b2, c, d.up u⟩
    · rcases set_cases ej with ⟨rfl, z⟩ | ⟨hn, z⟩
      · cases z
      · rcases set_cases ek with ⟨rfl, z2⟩ | ⟨hn2, z2⟩
        · cases z2
        · exact R.ds j k x y q z z2 hj hk
  · exact ⟨Hf, Same.refl _, R⟩
end
end Ob

namespace Ob
open PySem PySem.Spec PyProof.Rows L2 Fi
inductive Rs (α : Type) where
  | ok (a : α) (st : Stor)
  | err (c : Str) (st : Stor)
abbrev F (α : Type) := En → Stor → Option (Rs α)
def bnd {α β : Type} (f : F α) (k : α → F β) : F β := fun env st => match f env st with
  | some (.ok a s) => k a env s
  | some (.err c s) => some (.err c s)
  | none => none
def lft {α : Type} (o : Option α) : F α := fun _ st => o.map (.ok · st)
/-- without errors -/
def ne {α : Type} (f : F α) : F α := fun env st => match f env st with
  | some (.ok a s) => some (.ok a s)
  | _ => none
/-- what a result is, over the heaps ahead and behind -/
abbrev Rlt (α β : Type) := PySem.W.Frag → List Addr → Hp → Hp → List Addr → Hp → Hp → β → α → Prop
def rE : Rlt D V := fun K _ _ _ ρ' Hf' _ v d => Dq K Hf' ρ' v d
def rL : Rlt (List D) V := fun K _ _ H ρ' Hf' H' v ds => ∃ p vs, v = .ref p ∧ H p = none ∧ p ∉ ρ' ∧ Hf' p = none ∧ H' p = some (.lst vs) ∧ DqAll K Hf' ρ' vs ds
def rB : Rlt Bool Bool := fun _ _ _ _ _ _ _ b c => b = c
def rA : Rlt (List D) (List V) := fun K _ _ _ ρ' Hf' _ vs ds => DqAll K Hf' ρ' vs ds
def rO : Rlt (Option Int) (Option Int) := fun _ _ _ _ _ _ _ b c => b = c
structure Bk {α β : Type} (r : Rlt α β) : Prop where
  of : ∀ {K : PySem.W.Frag} {ρ ρ1 ρ' : List Addr} {Hf H Hf1 H1 Hf' H' : Hp} {v : β} {a : α}, OStp ρ Hf H ρ1 Hf1 H1 → r K ρ1 Hf1 H1 ρ' Hf' H' v a → r K ρ Hf H ρ' Hf' H' v a
theorem bE : Bk rE := ⟨fun _ h => h⟩
theorem bB : Bk rB := ⟨fun _ h => h⟩
theorem bA : Bk rA := ⟨fun _ h => h⟩
theorem bO : Bk rO := ⟨fun _ h => h⟩
theorem OStp.was {ρ ρ' : List Addr} {Hf H Hf' H' : Hp} (t : OStp ρ Hf H ρ' Hf' H') {p : Addr} (h : H' p = none) : H p = none := by
  cases e : H p with
  | none => rfl
  | some o =>
    obtain ⟨o', e1⟩ := t.s p o e
    rw [h] at e1
    cases e1
theorem bL : Bk rL := ⟨fun t ⟨p, vs, a, b, c⟩ => ⟨p, vs, a, t.was b, c⟩⟩
def Fin {α β : Type} (r : Rlt α β) (K : PySem.W.Frag) (W : WX) (σ : L2.St) (ρ : List Addr) (Hf H : Hp) (Q : β → Hp → Prop) : Rs α → Prop
  | .ok a st => ∀ v H' ρ' Hf', OStp ρ Hf H ρ' Hf' H' → StOk K ρ' Hf' H' st → r K ρ Hf H ρ' Hf' H' v a → Q v H'
  | .err c st => ∀ H' ρ' Hf', OStp ρ Hf H ρ' Hf' H' → StOk K ρ' Hf' H' st → W (.ref (He.ga K c)) none σ H'
def tR {α β : Type} (r : Rlt α β) (K : PySem.W.Frag) (W : WX) (f : F α) : L2.St → Hp → (β → Hp → Prop) → Prop := fun σ H Q => ∃ (Z : Zt) (ρ : List Addr) (Hf : Hp) (env : En) (st : Stor) (o : Rs α), Rel K Z ρ Hf H env st σ ∧ f env st = some o ∧ Fin r K W σ ρ Hf H Q o
abbrev tE (K : PySem.W.Frag) (W : WX) (f : F D) : TE := tR rE K W f
abbrev tL (K : PySem.W.Frag) (W : WX) (f : F (List D)) : TE := tR rL K W f
abbrev tT (K : PySem.W.Frag) (W : WX) (f : F Bool) : TT := tR rB K W f
abbrev tA (K : PySem.W.Frag) (W : WX) (f : F (List D)) : TA := tR rA K W f
abbrev tO (K : PySem.W.Frag) (W : WX) (f : F (Option Int)) : TO := tR rO K W f
section
variable {α β α' β' : Type} {r : Rlt α β} {r' : Rlt α' β'} {K : PySem.W.Frag} {W : WX} {σ : L2.St} {Z : Zt} {ρ ρ1 : List Addr} {Hf H Hf1 H1 : Hp} {env : En} {st : Stor}
theorem Fin.step {Q : β → Hp → Prop} (hb : Bk r) (t : OStp ρ Hf H ρ1 Hf1 H1) {o : Rs α} (k : Fin r K W σ ρ Hf H Q o) : Fin r K W σ ρ1 Hf1 H1 Q o := by
  cases o with
  | ok a s => exact fun v H' ρ' Hf' t' S q => k v H' ρ' Hf' (t.trans t') S (hb.of t q)
  | err c s => exact fun H' ρ' Hf' t' S => k H' ρ' Hf' (t.trans t') S
theorem bind_at {f : F α} {g : α → F α'} {o : Rs α'} {Q : β' → Hp → Prop} {P : β → Hp → Prop} (hb : Bk r') (R : Rel K Z ρ Hf H env st σ) (h : bnd f g env st = some o) (k : Fin r' K W σ ρ Hf H Q o)
    (c : ∀ v H1 ρ1 Hf1 st1 a, OStp ρ Hf H ρ1 Hf1 H1 → r K ρ Hf H ρ1 Hf1 H1 v a → Rel K Z ρ1 Hf1 H1 env st1 σ → g a env st1 = some o → Fin r' K W σ ρ1 Hf1 H1 Q o → P v H1) : tR r K W f σ H P := by
  unfold bnd at h
  split at h
  · rename_i a s e
    exact ⟨Z, ρ, Hf, env, st, _, R, e, fun v H1 ρ1 Hf1 t S q => c v H1 ρ1 Hf1 s a t q (R.step t S) h (k.step hb t)⟩
  · rename_i cc s e
    cases h
    exact ⟨Z, ρ, Hf, env, st, _, R, e, fun H1 ρ1 Hf1 t S => k H1 ρ1 Hf1 t S⟩
  · cases h
theorem lft_some {a : Option α} {o : Rs α} (h : lft a env st = some o) : ∃ x, a = some x ∧ o = .ok x st := by
  unfold lft at h
  cases e : a with
  | none => rw [e] at h; cases h
  | some x => rw [e] at h; cases h; exact ⟨x, rfl, rfl⟩
/-- a value at hand, nothing is done -/
theorem Fin.now {Q : β → Hp → Prop} {a : α} {v : β} (R : Rel K Z ρ Hf H env st σ) (k : Fin r K W σ ρ Hf H Q (.ok a st)) (h : r K ρ Hf H ρ Hf H v a) : Q v H := k v H ρ Hf .refl R.ok h
/-- a value behind a plain step -/
theorem Fin.stp {Q : β → Hp → Prop} {a : α} {v : β} {Hf' H' : Hp} (R : Rel K Z ρ Hf H env st σ) (k : Fin r K W σ ρ Hf H Q (.ok a st)) (s : Stp Hf H Hf' H') (h : r K ρ Hf H ρ Hf' H' v a) : Q v H' := k v H' ρ Hf' (.of s) (R.ok.stp s) h
end
section
variable {X : Cx} {W W' : WX} {e : Expr}
def pE (f : FE) : F D := fun env st => (f (pv env)).map fun p => .ok (.py p) st
def pL (f : FL) : F (List D) := fun env st => (f (pv env)).map fun l => .ok (l.map .py) st
def pT (f : FT) : F Bool := fun env st => (f (pv env)).map (.ok · st)
def pO (f : Fi.En → Option (Option Int)) : F (Option Int) := fun env st => (f (pv env)).map (.ok · st)
theorem map_ok {α β : Type} {o : Option α} {g : α → β} {y : β} (h : o.map g = some y) : ∃ x, o = some x ∧ g x = y := by
  cases o with
  | none => cases h
  | some x => exact ⟨x, rfl, Option.some.inj h⟩
theorem x_p {f : FE} (h : PE X e (Fi.tE X.K f)) : PE X e (tE X.K W (pE f)) := pe_le h fun σ H Q ⟨Z, ρ, Hf, env, st, o, R, e, k⟩ => by
  obtain ⟨p, h1, rfl⟩ := map_ok e
  exact ⟨_, Hf, pv env, p, R.pure, h1, fun v H' Hf' s d => k.stp R s (.py d)⟩
theorem l_p {f : FL} (h : PE X e (Fi.tL X.K f)) : PE X e (tL X.K W (pL f)) := pe_le h fun σ H Q ⟨Z, ρ, Hf, env, st, o, R, e, k⟩ => by
  obtain ⟨l, h1, rfl⟩ := map_ok e
  exact ⟨_, Hf, pv env, l, R.pure, h1, fun p vs H' Hf' s n1 n2 n3 d => k.stp R s ⟨p, vs, rfl, n1, R.ok.new n1, n2, n3, dqAll_of d⟩⟩
theorem t_p {f : FT} (h : PT X e (Fi.tT X.K f)) : PT X e (tT X.K W (pT f)) := pt_le h fun σ H Q ⟨Z, ρ, Hf, env, st, o, R, e, k⟩ => by
  obtain ⟨b, h1, rfl⟩ := map_ok e
  exact ⟨_, Hf, pv env, b, R.pure, h1, fun H' Hf' s => k.stp R s rfl⟩
theorem a_p {es : List Expr} {f : FL} (h : PA X es (Fi.tA X.K f)) : PA X es (tA X.K W (pL f)) := pa_le h fun σ H Q ⟨Z, ρ, Hf, env, st, o, R, e, k⟩ => by
  obtain ⟨l, h1, rfl⟩ := map_ok e
  exact ⟨_, Hf, pv env, l, R.pure, h1, fun vs H' Hf' s d => k.stp R s (dqAll_of d)⟩
def eVar (i : Nat) : F D := fun env st => match env[i]? with
  | some (some (.val d)) => some (.ok d st)
  | _ => none
theorem x_var (i : Nat) {x : Str} {pos : Pos} (hN : X.N[i]? = some x := by rfl) (hv : Vis X.env.scope x := by first | exact Or.inl rfl | exact Or.inr (Or.inl rfl) | exact Or.inr (Or.inr rfl)) (hd : (x == ("__debug__" : Str)) = false := by decide)
    (hcd : (x == ("__classdict__" : Str)) = false := by decide) : PE X (.Name x pos) (tE X.K W (eVar i)) := pe_le (pe_var hN hv hd hcd) fun σ H Q ⟨Z, ρ, Hf, env, st, o, R, e, k⟩ => by
  unfold eVar at e
  split at e
  · rename_i d q
    cases e
    obtain ⟨v, h1, h2⟩ := R.sl i _ q
    exact ⟨v, h1, k.now R h2⟩
  · cases e
def op2 (G : PyData → PyData → Option PyData) : D → D → Option D
  | .py a, .py b => (G a b).map .py
  | _, _ => none
def e2 (G : PyData → PyData → Option PyData) (f g : F D) : F D := bnd f fun x => bnd g fun y => lft (op2 G x y)
theorem op2_some {G : PyData → PyData → Option PyData} {x y z : D} (h : op2 G x y = some z) : ∃ a b c, x = .py a ∧ y = .py b ∧ G a b = some c ∧ z = .py c := by
  unfold op2 at h
  split at h
  · rename_i a b
    obtain ⟨c, h1, rfl⟩ := map_ok h
    exact ⟨a, b, c, rfl, rfl, h1, rfl⟩
  · cases h
variable {a b c : Expr} {f g h : F D} {G G' : PyData → PyData → Option PyData} {pos : Pos}
theorem tOp_of {K : PySem.W.Frag} {σ : L2.St} {H : Hp} {Q : VK} (q : tE K W (e2 G f g) σ H Q) : tOp (rD2 K G) (tE K W f) (tE K W g) σ H Q := by
  obtain ⟨Z, ρ, Hf, env, st, o, R, e, k⟩ := q
  refine bind_at bE R e k fun x H1 ρ1 Hf1 s1 dx t1 r1 R1 e1 k1 => ?_
  refine bind_at bE R1 e1 k1 fun y H2 ρ2 Hf2 s2 dy t2 r2 R2 e2 k2 => ?_
  obtain ⟨z, h1, rfl⟩ := lft_some e2
  obtain ⟨u, w, p, rfl, rfl, h2, rfl⟩ := op2_some h1
  exact ⟨Hf2, u, w, p, R2.ok.i, (Dq.up t2.up r1).dp, Dq.dp r2, h2, fun v H' Hf' s d => k2.stp R2 s (.py d)⟩
theorem x_bin {op : Operator} (ho : OpD X (binaryOp op) G) (ha : PE X a (tE X.K W f)) (hb : PE X b (tE X.K W g)) : PE X (.BinOp a op b pos) (tE X.K W (e2 G f g)) := pe_le (pe_op ho ha hb) fun _ _ _ q => tOp_of q
theorem x_cmp {op : CmpOp} (ho : OpD X (compareOp op) G) (ha : PE X a (tE X.K W f)) (hb : PE X b (tE X.K W g)) (hm : behindInMarks op b = false) : PE X (.Compare a [op] [b] pos) (tE X.K W (e2 G f g)) := pe_le (pe_cmpR ho ha hb hm) fun _ _ _ q => tOp_of q
/-- truth -/
def truD : D → Option Bool
  | .py (.bool b) => some b
  | _ => none
def asB (f : F D) : F Bool := bnd f fun d => lft (truD d)
theorem truD_some {d : D} {b : Bool} (h : truD d = some b) : d = .py (.bool b) := by
  unfold truD at h
  split at h
  · cases h; rfl
  · cases h
theorem tTest_of {K : PySem.W.Frag} {σ : L2.St} {H : Hp} {Q : Bool → Hp → Prop} {t : TE} (ht : ∀ Q', tE K W f σ H Q' → t σ H Q') (q : tT K W (asB f) σ H Q) : tTest t σ H Q := by
  obtain ⟨Z, ρ, Hf, env, st, o, R, e, k⟩ := q
  refine ht _ (bind_at bB R e k fun x H1 ρ1 Hf1 s1 dx t1 r1 R1 e1 k1 => ?_)
  obtain ⟨z, h1, rfl⟩ := lft_some e1
  cases truD_some h1
  exact ⟨z, (Dq.dp r1).bl_eq, k1.now R1 rfl⟩
theorem t_cmp {op : CmpOp} (ho : OpD X (compareOp op) G) (ha : PE X a (tE X.K W f)) (hb : PE X b (tE X.K W g)) (hm : behindInMarks op b = false) : PT X (.Compare a [op] [b] pos) (tT X.K W (asB (e2 G f g))) :=
  pt_le (pt_cmpR ho ha hb hm) fun _ _ _ q => tTest_of (fun _ q => tOp_of q) q
theorem t_val (ha : PE X a (tE X.K W f)) (he : ∀ whole, isTrue a X.env whole = (do let v ← whole; standAt a.pos; holding [v] (truthy v)) := by intro _; rfl) : PT X a (tT X.K W (asB f)) :=
  pt_le (pt_val ha he) fun σ H Q ⟨Z, ρ, Hf, env, st, o, R, e, k⟩ => by
    refine bind_at bB R e k fun x H1 ρ1 Hf1 s1 dx t1 r1 R1 e1 k1 => ?_
    obtain ⟨z, h1, rfl⟩ := lft_some e1
    cases truD_some h1
    exact ⟨z, (Dq.dp r1).bl_eq, k1.now R1 rfl⟩
def tNotF (p : F Bool) : F Bool := bnd p fun b => lft (some (!b))
def tAndF (p q : F Bool) : F Bool := bnd p fun b => if b then q else lft (some false)
def tOrF (p q : F Bool) : F Bool := bnd p fun b => if b then lft (some true) else q
variable {p q : F Bool} {rest : List Expr}
theorem t_not (ha : PT X a (tT X.K W p)) : PT X (.UnaryOp .Not a pos) (tT X.K W (tNotF p)) := pt_le (pt_not ha) fun σ H Q ⟨Z, ρ, Hf, env, st, o, R, e, k⟩ => by
  refine bind_at bB R e k fun x H1 ρ1 Hf1 s1 dx t1 r1 R1 e1 k1 => ?_
  obtain ⟨z, h1, rfl⟩ := lft_some e1
  cases h1
  cases (show x = dx from r1)
  exact k1.now R1 rfl
theorem w_and (ha : PT X a (tT X.K W p)) (hb : PW X (.BoolOp .And (b :: rest) pos) (tT X.K W q)) : PW X (.BoolOp .And (a :: b :: rest) pos) (tT X.K W (tAndF p q)) := pw_le (pw_and ha hb) fun σ H Q ⟨Z, ρ, Hf, env, st, o, R, e, k⟩ => by
  refine bind_at bB R e k fun x H1 ρ1 Hf1 s1 dx t1 r1 R1 e1 k1 => ?_
  cases (show x = dx from r1)
  cases x with
  | true => exact iteT ⟨Z, ρ1, Hf1, env, s1, o, R1, e1, k1⟩
  | false =>
    obtain ⟨z, h1, rfl⟩ := lft_some (env := env) e1
    cases h1
    exact iteF (k1.now R1 rfl)
theorem w_or (ha : PT X a (tT X.K W p)) (hb : PW X (.BoolOp .Or (b :: rest) pos) (tT X.K W q)) : PW X (.BoolOp .Or (a :: b :: rest) pos) (tT X.K W (tOrF p q)) := pw_le (pw_or ha hb) fun σ H Q ⟨Z, ρ, Hf, env, st, o, R, e, k⟩ => by
  refine bind_at bB R e k fun x H1 ρ1 Hf1 s1 dx t1 r1 R1 e1 k1 => ?_
  cases (show x = dx from r1)
  cases x with
  | false => exact iteF ⟨Z, ρ1, Hf1, env, s1, o, R1, e1, k1⟩
  | true =>
    obtain ⟨z, h1, rfl⟩ := lft_some (env := env) e1
    cases h1
    exact iteT (k1.now R1 rfl)
/-- the value forms -/
def eAnd (f g : F D) : F D := bnd f fun d => bnd (lft (truD d)) fun b => if b then g else lft (some (.py (.bool false)))
def eOr (f g : F D) : F D := bnd f fun d => bnd (lft (truD d)) fun b => if b then lft (some (.py (.bool true))) else g
def eNot (f : F D) : F D := bnd f fun d => lft ((truD d).map fun b => .py (.bool (!b)))
theorem bnd_lft {α β : Type} {o : Option α} {k : α → F β} {env : En} {st : Stor} {r : Rs β} (h : bnd (lft o) k env st = some r) : ∃ x, o = some x ∧ k x env st = some r := by
  unfold bnd lft at h
  cases e : o with
  | none => rw [e] at h; cases h
  | some x => rw [e] at h; exact ⟨x, rfl, h⟩
theorem x_one {op} (ha : PE X a (tE X.K W f)) : PE X (.BoolOp op [a] pos) (tE X.K W f) := pe_one ha
theorem x_and (ha : PE X a (tE X.K W f)) (hb : PE X (.BoolOp .And (b :: rest) pos) (tE X.K W g)) : PE X (.BoolOp .And (a :: b :: rest) pos) (tE X.K W (eAnd f g)) := pe_le (pe_and ha hb) fun σ H Q ⟨Z, ρ, Hf, env, st, o, R, e, k⟩ => by
  refine bind_at bE R e k fun x H1 ρ1 Hf1 s1 dx t1 r1 R1 e1 k1 => ?_
  obtain ⟨z, h1, h2⟩ := bnd_lft e1
  cases truD_some h1
  refine ⟨z, (Dq.dp r1).bl_eq, ?_⟩
  cases z with
  | true => exact iteT ⟨Z, ρ1, Hf1, env, s1, o, R1, h2, k1⟩
  | false =>
    obtain ⟨z, h1, rfl⟩ := lft_some (env := env) h2
    cases h1
    exact iteF (k1.now R1 (.py (.bl false)))
theorem x_or (ha : PE X a (tE X.K W f)) (hb : PE X (.BoolOp .Or (b :: rest) pos) (tE X.K W g)) : PE X (.BoolOp .Or (a :: b :: rest) pos) (tE X.K W (eOr f g)) := pe_le (pe_or ha hb) fun σ H Q ⟨Z, ρ, Hf, env, st, o, R, e, k⟩ => by
  refine bind_at bE R e k fun x H1 ρ1 Hf1 s1 dx t1 r1 R1 e1 k1 => ?_
  obtain ⟨z, h1, h2⟩ := bnd_lft e1
  cases truD_some h1
  refine ⟨z, (Dq.dp r1).bl_eq, ?_⟩
  cases z with
  | false => exact iteF ⟨Z, ρ1, Hf1, env, s1, o, R1, h2, k1⟩
  | true =>
    obtain ⟨z, h1, rfl⟩ := lft_some (env := env) h2
    cases h1
    exact iteT (k1.now R1 (.py (.bl true)))
theorem x_not (ha : PE X a (tE X.K W f)) : PE X (.UnaryOp .Not a pos) (tE X.K W (eNot f)) := pe_le (pe_not ha) fun σ H Q ⟨Z, ρ, Hf, env, st, o, R, e, k⟩ => by
  refine bind_at bE R e k fun x H1 ρ1 Hf1 s1 dx t1 r1 R1 e1 k1 => ?_
  obtain ⟨z, h1, rfl⟩ := lft_some e1
  obtain ⟨y, h2, rfl⟩ := map_ok h1
  cases truD_some h2
  exact ⟨y, (Dq.dp r1).bl_eq, k1.now R1 (.py (.bl _))⟩
def eIf (p : F Bool) (f g : F D) : F D := bnd p fun b => if b then f else g
theorem x_if {t : Expr} (ht : PT X t (tT X.K W p)) (ha : PE X a (tE X.K W f)) (hb : PE X b (tE X.K W g)) : PE X (.IfExp t a b pos) (tE X.K W (eIf p f g)) := pe_le (pe_ifExp ht ha hb) fun σ H Q ⟨Z, ρ, Hf, env, st, o, R, e, k⟩ => by
  refine bind_at bE R e k fun x H1 ρ1 Hf1 s1 dx t1 r1 R1 e1 k1 => ?_
  cases (show x = dx from r1)
  cases x with
  | true => exact iteT ⟨Z, ρ1, Hf1, env, s1, o, R1, e1, k1⟩
  | false => exact iteF ⟨Z, ρ1, Hf1, env, s1, o, R1, e1, k1⟩
end
end Ob

namespace Ob
open PySem PySem.Spec PyProof.Rows L2 Fi
section
variable {X : Cx} {W : WX} {e : Expr} {es : List Expr} {pos : Pos} {f g : F D} {r : F (List D)}
def aNil : F (List D) := lft (some [])
def aCons (f : F D) (r : F (List D)) : F (List D) := bnd f fun x => bnd r fun xs => lft (some (x :: xs))
theorem a_nil : PA X [] (tA X.K W aNil) := pa_le pa_nil fun σ H Q ⟨Z, ρ, Hf, env, st, o, R, e, k⟩ => by
  obtain ⟨z, h1, rfl⟩ := lft_some e
  cases h1
  exact k.now R .nil
theorem a_cons (ha : PE X e (tE X.K W f)) (hr : PA X es (tA X.K W r)) (hs : starEach (e :: es) X.env = (false, eval e X.env) :: starEach es X.env := by rfl) : PA X (e :: es) (tA X.K W (aCons f r)) :=
  pa_le (pa_cons ha hr hs) fun σ H Q ⟨Z, ρ, Hf, env, st, o, R, e, k⟩ => by
    refine bind_at bA R e k fun x H1 ρ1 Hf1 s1 dx t1 r1 R1 e1 k1 => ?_
    refine bind_at bA R1 e1 k1 fun xs H2 ρ2 Hf2 s2 ds t2 r2 R2 e2 k2 => ?_
    obtain ⟨z, h1, rfl⟩ := lft_some e2
    cases h1
    exact k2.now R2 (.cons (Dq.up t2.up r1) r2)
def eTup (r : F (List D)) : F D := bnd r fun xs => lft (if xs.length ≤ 100000 then some (mkT xs) else none)
def lLst (r : F (List D)) : F (List D) := bnd r fun xs => lft (if xs.length ≤ 100000 then some xs else none)
theorem if_some {p : Prop} [Decidable p] {α : Type} {a b : α} (h : (if p then some a else none) = some b) : p ∧ a = b := by
  split at h
  · exact ⟨‹p›, Option.some.inj h⟩
  · cases h
theorem x_tup {x1} (h : PA X es (tA X.K W r)) : PE X (.Tuple es x1 pos) (tE X.K W (eTup r)) := pe_le (pe_tup h) fun σ H Q ⟨Z, ρ, Hf, env, st, o, R, e, k⟩ => by
  refine bind_at bE R e k fun xs H1 ρ1 Hf1 s1 ds t1 r1 R1 e1 k1 => ?_
  obtain ⟨z, h1, rfl⟩ := lft_some e1
  obtain ⟨hl, rfl⟩ := if_some h1
  refine ⟨by rw [DqAll.len r1]; exact Nat.le_trans hl (by decide), fun p hp => ?_⟩
  have s := Stp.new (o := .tup xs) R1.ok.i hp
  exact k1.stp R1 s (dq_mkT (SqT.of upd_same) (DqAll.up ⟨s.f, List.prefix_rfl⟩ r1))
theorem l_lst (h : PA X es (tA X.K W r)) : PE X (.List es pos) (tL X.K W (lLst r)) := pe_le (pe_lst h) fun σ H Q ⟨Z, ρ, Hf, env, st, o, R, e, k⟩ => by
  refine bind_at bL R e k fun xs H1 ρ1 Hf1 s1 ds t1 r1 R1 e1 k1 => ?_
  obtain ⟨z, h1, rfl⟩ := lft_some e1
  obtain ⟨hl, rfl⟩ := if_some h1
  refine ⟨by rw [DqAll.len r1]; exact Nat.le_trans hl (by decide), fun p hp => ?_⟩
  have s := Stp.hid (o := .lst xs) R1.ok.i hp
  exact k1.stp R1 s ⟨p, xs, rfl, hp, R1.ok.new hp, R1.ok.i.free hp, upd_same, r1⟩
/-- a new list as a value -/
def eL (l : F (List D)) : F D := bnd l fun ds => lft (some (mkL ds))
/-- .. the step that shows a hidden list -/
theorem show_list {K : PySem.W.Frag} {ρ : List Addr} {Hf H : Hp} {st : Stor} {p : Addr} {vs : List V} (S : StOk K ρ Hf H st) (hr : p ∉ ρ) (hf : Hf p = none) (h : H p = some (.lst vs)) : StOk K ρ (upd Hf p (.lst vs)) H st :=
  ⟨fun b o e => by
    by_cases hb : b = p
    · subst hb
      rw [upd_same] at e
      rw [h, e]
    · rw [upd_ne hb] at e
      exact S.i b o e, S.len, S.nd, fun a m => by
    rw [upd_ne (fun z => hr (by rw [← z]; exact m))]
    exact S.hid a m, fun n a o e1 e2 => (S.ob n a o e1 e2).up ⟨same_new hf, List.prefix_rfl⟩ rfl fun _ _ z => z⟩
theorem OStp.show {ρ ρ' : List Addr} {Hf H Hf' H' : Hp} {p : Addr} {o : HO} (t : OStp ρ Hf H ρ' Hf' H') (h : H p = none) (h1 : Hf' p = none) : OStp ρ Hf H ρ' (upd Hf' p o) H' :=
  ⟨t.up.trans ⟨same_new h1, List.prefix_rfl⟩, t.h, fun a x e q => by
    rw [upd_ne (ne_of_none e h)]
    exact t.n a x e q, t.w, t.s⟩
theorem x_L {l : F (List D)} (h : PE X e (tL X.K W l)) : PE X e (tE X.K W (eL l)) := pe_le h fun σ H Q ⟨Z, ρ, Hf, env, st, o, R, e, k⟩ => by
  unfold eL bnd at e
  split at e
  · rename_i a s q
    cases e
    refine ⟨Z, ρ, Hf, env, st, _, R, q, fun v H' ρ' Hf' t S ⟨p, vs, e1, e2, e3, e4, e5, e6⟩ => ?_⟩
    subst e1
    exact k _ H' ρ' (upd Hf' p (.lst vs)) (t.show e2 e4) (show_list S e3 e4 e5) (dq_mkL (SqL.of upd_same) (e6.up ⟨same_new e4, List.prefix_rfl⟩))
  · rename_i c s q
    cases e
    exact ⟨Z, ρ, Hf, env, st, _, R, q, k⟩
  · cases e
def eCall (G : List PyData → Option PyData) (r : F (List D)) : F D := bnd r fun ds => lft ((pyAll ds).bind fun ps => (G ps).map .py)
theorem obind {α β : Type} {o : Option α} {q : α → Option β} {y : β} (h : o.bind q = some y) : ∃ x, o = some x ∧ q x = some y := by
  cases o with
  | none => cases h
  | some x => exact ⟨x, rfl, h⟩
theorem tCB_of {G : List PyData → Option PyData} {K : PySem.W.Frag} {σ : L2.St} {H : Hp} {Q : VK} (w : tE K W (eCall G r) σ H Q) : tCB (rDc K G) (tA K W r) σ H Q := by
  obtain ⟨Z, ρ, Hf, env, st, o, R, e, k⟩ := w
  refine bind_at bE R e k fun xs H1 ρ1 Hf1 s1 ds t1 r1 R1 e1 k1 => ?_
  obtain ⟨z, h1, rfl⟩ := lft_some e1
  obtain ⟨ps, h2, h3⟩ := obind h1
  obtain ⟨d, h4, rfl⟩ := map_ok h3
  exact ⟨Hf1, ps, d, R1.ok.i, DqAll.pure r1 h2, h4, fun v H' Hf' s d => k1.stp R1 s (.py d)⟩
theorem x_callB {G : List PyData → Option PyData} {x : Str} {id : String} {p : Pos} (hc : CallD X (.builtin id) G) (hg : Gl X x) (hm : X.mg x = none) (hv : bootBuiltins x = some (.builtin id)) (ha : PA X (e :: es) (tA X.K W r)) (hn : x ≠ "__name__" := by decide) (hdb : (x == ("__debug__" : Str)) = false := by decide)
    (he : starEach (e :: es) X.env = (false, eval e X.env) :: starEach es X.env := by rfl) (hpl : (backTo pos (starEach es X.env)).any (·.1) = false := by rfl) : PE X (.Call (.Name x p) (e :: es) [] pos) (tE X.K W (eCall G r)) :=
  pe_le (pe_callB hc hg hm hv ha hn hdb he hpl) fun _ _ _ w => tCB_of w
theorem x_callTy {G : List PyData → Option PyData} {x : Str} {T : String} {p : Pos} (hc : CallD X (.type T) G) (hg : Gl X x) (hm : X.mg x = none) (hv : bootBuiltins x = some (.type T)) (ha : PA X (e :: es) (tA X.K W r)) (hn : x ≠ "__name__" := by decide) (hdb : (x == ("__debug__" : Str)) = false := by decide)
    (he : starEach (e :: es) X.env = (false, eval e X.env) :: starEach es X.env := by rfl) (hpl : (backTo pos (starEach es X.env)).any (·.1) = false := by rfl) : PE X (.Call (.Name x p) (e :: es) [] pos) (tE X.K W (eCall G r)) :=
  pe_le (pe_callTy hc hg hm hv ha hn hdb he hpl) fun _ _ _ w => tCB_of w
def ixD (t : D → Option (List D)) : D → D → Option D := fun x y => (t x).bind fun l => match y with
  | .py (.int i) => atI l i
  | _ => none
def eIx (t : D → Option (List D)) (f g : F D) : F D := bnd f fun x => bnd g fun y => lft (ixD t x y)
theorem atI_dq {K : PySem.W.Frag} {Hf : Hp} {ρ : List Addr} {vs : List V} {ds : List D} {i : Int} {d : D} (h : DqAll K Hf ρ vs ds) (e : atI ds i = some d) : ∃ v, atI vs i = some v ∧ Dq K Hf ρ v d := by
  unfold atI at e ⊢
  rw [h.len]
  cases q : ixN ds.length i with
  | none => rw [q] at e; cases e
  | some j =>
    rw [q] at e
    exact h.at e
theorem ixD_some {t : D → Option (List D)} {x y z : D} (h : ixD t x y = some z) : ∃ l i, t x = some l ∧ y = .py (.int i) ∧ atI l i = some z := by
  obtain ⟨l, h1, h2⟩ := obind h
  split at h2
  · exact ⟨l, _, h1, rfl, h2⟩
  · cases h2
variable {a b : Expr}
theorem x_ixL (ha : PE X a (tE X.K W f)) (hb : PE X b (tE X.K W g)) (hs : PlainIx b) : PE X (.Subscript a b pos) (tE X.K W (eIx D.lst? f g)) := pe_le (pe_ix ix_list ha hb hs) fun σ H Q ⟨Z, ρ, Hf, env, st, o, R, e, k⟩ => by
  refine bind_at bE R e k fun x H1 ρ1 Hf1 s1 dx t1 r1 R1 e1 k1 => ?_
  refine bind_at bE R1 e1 k1 fun y H2 ρ2 Hf2 s2 dy t2 r2 R2 e2 k2 => ?_
  obtain ⟨z, h1, rfl⟩ := lft_some e2
  obtain ⟨l, i, h2, rfl, h3⟩ := ixD_some h1
  cases (Dq.dp r2).int_eq
  obtain ⟨a, xs, rfl, hp, hq⟩ := Dq.lst_of (Dq.up t2.up r1) h2
  obtain ⟨v, h4, h5⟩ := atI_dq hq h3
  exact ⟨a, xs, i, v, rfl, rfl, R2.ok.i.seq hp, h4, k2.now R2 h5⟩
end
def tG (K : PySem.W.Frag) (sl : List Nat) (g : D → En → Option En) : TG := fun v σ H Q => ∃ (Z : Zt) (ρ : List Addr) (Hf : Hp) (env : En) (st : Stor) (d : D) (env' : En), Rel K Z ρ Hf H env st σ ∧ Dq K Hf ρ v d ∧ g d env = some env' ∧
  ∀ σ', Rel K Z ρ Hf H env' st σ' → (∀ i : Nat, i ∉ sl → σ'[i]? = σ[i]?) → σ'.length = σ.length → Q σ' H
def tGs (K : PySem.W.Frag) (sl : List Nat) (g : List D → En → Option En) : TGs := fun vs σ H Q => ∃ (Z : Zt) (ρ : List Addr) (Hf : Hp) (env : En) (st : Stor) (ds : List D) (env' : En), Rel K Z ρ Hf H env st σ ∧ DqAll K Hf ρ vs ds ∧ g ds env = some env' ∧
  ∀ σ', Rel K Z ρ Hf H env' st σ' → (∀ i : Nat, i ∉ sl → σ'[i]? = σ[i]?) → σ'.length = σ.length → Q σ' H
def gSet (i : Nat) : D → En → Option En := fun d env => some (env.set i (some (.val d)))
def gsNil : List D → En → Option En := fun ds env => match ds with
  | [] => some env
  | _ => none
def gsCons (g : D → En → Option En) (r : List D → En → Option En) : List D → En → Option En := fun ds env => match ds with
  | d :: ds => (g d env).bind (r ds)
  | [] => none
def gTup (n : Nat) (r : List D → En → Option En) : D → En → Option En := fun d env => d.tup?.bind fun ds => if ds.length = n then r ds env else none
def gLst (n : Nat) (r : List D → En → Option En) : D → En → Option En := fun d env => d.lst?.bind fun ds => if ds.length = n then r ds env else none
section
variable {X : Cx} {pos : Pos}
theorem g_name (i : Nat) {x : Str} (hN : X.N.Nodup) (hi : X.N[i]? = some x := by rfl) (hx : Loc X.env.scope x := by first | exact Or.inl rfl | exact Or.inr rfl) (hf : X.fn x = true ∨ X.env.scope.names.lookup x = some .local := by first | exact .inl rfl | exact .inr rfl | assumption) :
    PG X (.Name x pos) (tG X.K [i] (gSet i)) := by
  refine pg_le (pg_name hN hi hx hf) fun v σ H Q ⟨Z, ρ, Hf, env, st, d, env', R, hd, hg, k⟩ => ?_
  cases hg
  refine k (σ.set i (some v)) (R.set i hd) (fun j hj => ?_) (List.length_set ..)
  rw [List.getElem?_set_ne (fun e => hj (by simp [e]))]
theorem gs_nil : PGs X [] (tGs X.K [] gsNil) := by
  refine ⟨fun pins s σ H vs us Q I r ⟨Z, ρ, Hf, env, st, ds, env', R, hd, hg, k⟩ => ?_⟩
  unfold gsNil at hg
  split at hg
  · cases hg
    cases hd
    exact pgs_nil.run pins s σ H [] us Q I r ⟨rfl, k σ R (fun _ _ => rfl) rfl⟩
  · cases hg
theorem gs_cons {e : Expr} {es : List Expr} {s1 s2 : List Nat} {g : D → En → Option En} {r : List D → En → Option En} (h1 : PG X e (tG X.K s1 g)) (h2 : PGs X es (tGs X.K s2 r))
    (hs : (assignEach (e :: es) X.env).map (·.2) = assign e X.env :: (assignEach es X.env).map (·.2) := by rfl) : PGs X (e :: es) (tGs X.K (s1 ++ s2) (gsCons g r)) := by
  refine ⟨fun pins s σ H vs us Q I q ⟨Z, ρ, Hf, env, st, ds, env', R, hd, hg, k⟩ => ?_⟩
  refine (pgs_cons h1 h2 hs).run pins s σ H vs us Q I q ?_
  unfold gsCons at hg
  split at hg
  · rename_i d ds
    cases hd with
    | cons hd ht =>
      obtain ⟨e1, hg1, hg⟩ := obind hg
      refine ⟨_, _, rfl, Z, ρ, Hf, env, st, d, e1, R, hd, hg1, fun σ' R' p1 l1 => ?_⟩
      refine ⟨Z, ρ, Hf, e1, st, ds, env', R', ht, hg, fun σ2 R2 p2 l2 => ?_⟩
      refine k σ2 R2 (fun i hi => ?_) (l2.trans l1)
      have hi' : i ∉ _ ∧ i ∉ _ := ⟨fun q => hi (List.mem_append_left _ q), fun q => hi (List.mem_append_right _ q)⟩
      rw [p2 i hi'.2, p1 i hi'.1]
  · cases hg
theorem g_tup {es : List Expr} {k n : Nat} {sl : List Nat} {r : List D → En → Option En} (hc : X.calm = true) (h : PGs X es (tGs X.K sl r))
    (hn : (assignEach es X.env).length = n := by rfl) (hst : (assignEach es X.env).findIdx? (·.1) = none := by rfl) : PG X (.Tuple es k pos) (tG X.K sl (gTup n r)) := by
  refine pg_le (pg_tup hc h hn hst) fun v σ H Q ⟨Z, ρ, Hf, env, st, d, env', R, hd, hg, kk⟩ => ?_
  obtain ⟨ds, h1, h2⟩ := obind hg
  split at h2
  · rename_i hl
    obtain ⟨a, xs, rfl, hp, ha⟩ := hd.tup_of h1
    exact ⟨a, xs, rfl, sqT_up R.ok.i hp, by rw [ha.len]; exact hl, Z, ρ, Hf, env, st, ds, env', R, ha, h2, kk⟩
  · cases h2
end
inductive Out where
  | next (e : En) (s : Stor) | brk (e : En) (s : Stor) | cont (e : En) (s : Stor) | ret (d : D) (s : Stor) | retL (ds : List D) (s : Stor) | exc (c : Str) (e : En) (s : Stor)
abbrev FS := En → Stor → Option Out
def FinS (K : PySem.W.Frag) (W : WX) (Z : Zt) (ρ : List Addr) (Hf : Hp) (N : Ends) : Out → Prop
  | .next e s => ∀ σ' H' ρ' Hf', Up Hf ρ Hf' ρ' → Rel K Z ρ' Hf' H' e s σ' → N.nx σ' H'
  | .brk e s => ∀ σ' H' ρ' Hf', Up Hf ρ Hf' ρ' → Rel K Z ρ' Hf' H' e s σ' → N.bk σ' H'
  | .cont e s => ∀ σ' H' ρ' Hf', Up Hf ρ Hf' ρ' → Rel K Z ρ' Hf' H' e s σ' → N.ct σ' H'
  | .ret d s => ∀ v H' ρ' Hf', OStp Z.ρ Z.Hf Z.H ρ' Hf' H' → StOk K ρ' Hf' H' s → Dq K Hf' ρ' v d → N.rt v H'
  | .retL ds s => ∀ v H' ρ' Hf', OStp Z.ρ Z.Hf Z.H ρ' Hf' H' → StOk K ρ' Hf' H' s → rL K Z.ρ Z.Hf Z.H ρ' Hf' H' v ds → N.rt v H'
  | .exc c e s => ∀ σ' H' ρ' Hf', Up Hf ρ Hf' ρ' → Rel K Z ρ' Hf' H' e s σ' → W (.ref (He.ga K c)) none σ' H'
theorem FinS.up {K : PySem.W.Frag} {W : WX} {Z : Zt} {ρ ρ1 : List Addr} {Hf Hf1 : Hp} {N : Ends} (u : Up Hf ρ Hf1 ρ1) : ∀ {o : Out}, FinS K W Z ρ Hf N o → FinS K W Z ρ1 Hf1 N o
  | .next _ _, h => fun σ' H' ρ' Hg s R => h σ' H' ρ' Hg (u.trans s) R
  | .brk _ _, h => fun σ' H' ρ' Hg s R => h σ' H' ρ' Hg (u.trans s) R
  | .cont _ _, h => fun σ' H' ρ' Hg s R => h σ' H' ρ' Hg (u.trans s) R
  | .ret _ _, h => h
  | .retL _ _, h => h
  | .exc _ _ _, h => fun σ' H' ρ' Hg s R => h σ' H' ρ' Hg (u.trans s) R
def tS (K : PySem.W.Frag) (W : WX) (f : FS) : TS := fun N σ H => ∃ (Z : Zt) (ρ : List Addr) (Hf : Hp) (env : En) (st : Stor) (o : Out), Rel K Z ρ Hf H env st σ ∧ f env st = some o ∧ FinS K W Z ρ Hf N o
def sE {α : Type} (f : F α) (k : α → FS) : FS := fun env st => match f env st with
  | some (.ok a s) => k a env s
  | some (.err c s) => some (.exc c env s)
  | none => none
theorem bindS {α β : Type} {r : Rlt α β} {K : PySem.W.Frag} {W : WX} {σ : L2.St} {Z : Zt} {ρ : List Addr} {Hf H : Hp} {env : En} {st : Stor} {f : F α} {g : α → FS} {o : Out} {N : Ends} {P : β → Hp → Prop} (R : Rel K Z ρ Hf H env st σ) (h : sE f g env st = some o) (k : FinS K W Z ρ Hf N o)
    (c : ∀ v H1 ρ1 Hf1 st1 a, OStp ρ Hf H ρ1 Hf1 H1 → r K ρ Hf H ρ1 Hf1 H1 v a → StOk K ρ1 Hf1 H1 st1 → Rel K Z ρ1 Hf1 H1 env st1 σ → g a env st1 = some o → FinS K W Z ρ1 Hf1 N o → P v H1) : tR r K W f σ H P := by
  unfold sE at h
  split at h
  · rename_i a s e
    exact ⟨Z, ρ, Hf, env, st, _, R, e, fun v H1 ρ1 Hf1 t S q => c v H1 ρ1 Hf1 s a t q S (R.step t S) h (k.up t.up)⟩
  · rename_i cc s e
    cases h
    exact ⟨Z, ρ, Hf, env, st, _, R, e, fun H1 ρ1 Hf1 t S => k σ H1 ρ1 Hf1 t.up (R.step t S)⟩
  · cases h
def sNext : FS := fun env st => some (.next env st)
def sSeq (f g : FS) : FS := fun env st => match f env st with
  | some (.next e s) => g e s
  | o => o
def sAsg (f : F D) (g : D → En → Option En) : FS := sE f fun d env st => (g d env).map (.next · st)
def sSet (i : Nat) (f : F D) : FS := sE f fun d env st => some (.next (env.set i (some (.val d))) st)
def sOwn (i : Nat) (l : F (List D)) : FS := sE l fun ds env st => some (.next (env.set i (some (.own ds))) st)
def sIf (p : F Bool) (f g : FS) : FS := sE p fun b => if b then f else g
def sRet (f : F D) : FS := sE f fun d _ st => some (.ret d st)
def sRetL (l : F (List D)) : FS := sE l fun d _ st => some (.retL d st)
def sRetN : FS := fun _ st => some (.ret (.py .none) st)
def sRetO (i : Nat) : FS := fun env st => match env[i]? with
  | some (some (.own l)) => some (.retL l st)
  | _ => none
def sDrop (f : F D) : FS := sE f fun _ env st => some (.next env st)
def sApp (i : Nat) (f : F D) : FS := fun env st => match env[i]? with
  | some (some (.own l)) => sE f (fun d env st => if l.length < 100000 then some (.next (env.set i (some (.own (l ++ [d])))) st) else none) env st
  | _ => none
def sAug (i : Nat) (g : Int → Int → Int) (f : F D) : FS := fun env st => match env[i]? with
  | some (some (.val (.py (.int a)))) => sE f (fun d env st => match d with
    | .py (.int b) => some (.next (env.set i (some (.val (.py (.int (g a b)))))) st)
    | _ => none) env st
  | _ => none
def sPar (i j : Nat) (r : F (List D)) : FS := sE r fun ds env st => match ds with
  | [x, y] => some (.next ((env.set i (some (.val x))).set j (some (.val y))) st)
  | _ => none
def sFrz (i : Nat) (f : FS) : FS := fun env st => f (frz i env) st
section
variable {X : Cx} {W : WX} {s1 : Stmt} {rest : List Stmt} {e : Expr} {pos : Pos} {f g : FS} {h : F D} {l : F (List D)} {p : F Bool}
theorem s_nil : PSs X [] (tS X.K W sNext) := pss_le pss_nil fun N σ H ⟨Z, ρ, Hf, env, st, o, R, hf, k⟩ => by
  cases hf
  exact k σ H ρ Hf .refl R
theorem s_cons (h1 : PS X s1 (tS X.K W f)) (h2 : PSs X rest (tS X.K W g)) : PSs X (s1 :: rest) (tS X.K W (sSeq f g)) := pss_le (pss_cons h1 h2) fun N σ H ⟨Z, ρ, Hf, env, st, o, R, hf, k⟩ => by
  unfold sSeq at hf
  cases q : f env st with
  | none =>
    rw [q] at hf
    cases hf
  | some o1 =>
    rw [q] at hf
    cases o1 with
    | next e1 s1 => exact ⟨Z, ρ, Hf, env, st, .next e1 s1, R, q, fun σ' H' ρ' Hf' u R' => ⟨Z, ρ', Hf', e1, s1, o, R', hf, k.up u⟩⟩
    | brk e1 s1 =>
      cases hf
      exact ⟨Z, ρ, Hf, env, st, _, R, q, k⟩
    | cont e1 s1 =>
      cases hf
      exact ⟨Z, ρ, Hf, env, st, _, R, q, k⟩
    | ret d s1 =>
      cases hf
      exact ⟨Z, ρ, Hf, env, st, _, R, q, k⟩
    | retL d s1 =>
      cases hf
      exact ⟨Z, ρ, Hf, env, st, _, R, q, k⟩
    | exc c e1 s1 =>
      cases hf
      exact ⟨Z, ρ, Hf, env, st, _, R, q, k⟩
theorem s_one (h1 : PS X s1 (tS X.K W f)) : PSs X [s1] (tS X.K W f) := pss_one h1
theorem s_frz (i : Nat) (h1 : PSs X rest (tS X.K W f)) : PSs X rest (tS X.K W (sFrz i f)) := pss_le h1 fun N σ H ⟨Z, ρ, Hf, env, st, o, R, hf, k⟩ => by
  obtain ⟨Hf', s1, R'⟩ := R.frz i
  exact ⟨Z, ρ, Hf', frz i env, st, o, R', hf, k.up ⟨s1, List.prefix_rfl⟩⟩
theorem s_asg {tg : Expr} {sl : List Nat} {gg : D → En → Option En} (he : PE X e (tE X.K W h)) (hg : PG X tg (tG X.K sl gg)) (hs : swapsWithSole [tg] e pos.line X.env = pure false := by rfl) (hw : swappedStores [tg] e X.env = pure none := by rfl)
    (h1 : (assignEach [tg] X.env).map (·.2) = [assign tg X.env] := by rfl) : PS X (.Assign [tg] e pos) (tS X.K W (sAsg h gg)) := ps_le (ps_asg he hg hs hw h1) fun N σ H ⟨Z, ρ, Hf, env, st, o, R, hf, k⟩ => by
  refine bindS R hf k fun v H1 ρ1 Hf1 s1 a t1 r1 S1 R1 e1 k1 => ?_
  obtain ⟨env', hg, rfl⟩ := map_ok e1
  exact ⟨Z, ρ1, Hf1, env, s1, a, env', R1, r1, hg, fun σ' R' _ _ => k1 σ' H1 ρ1 Hf1 .refl R'⟩
theorem s_set (i : Nat) {x : Str} {pos' : Pos} (hN : X.N.Nodup) (he : PE X e (tE X.K W h)) (hi : X.N[i]? = some x := by rfl) (hx : Loc X.env.scope x := by first | exact Or.inl rfl | exact Or.inr rfl) (hs : swapsWith e (some (.Name x pos')) pos.line X.env = pure false := by rfl) (hf : X.fn x = true ∨ X.env.scope.names.lookup x = some .local := by first | exact .inl rfl | exact .inr rfl | assumption) :
    PS X (.Assign [.Name x pos'] e pos) (tS X.K W (sSet i h)) := ps_le (ps_set hN hi hx he hs hf) fun N σ H ⟨Z, ρ, Hf, env, st, o, R, hf, k⟩ => by
  refine bindS R hf k fun v H1 ρ1 Hf1 s1 a t1 r1 S1 R1 e1 k1 => ?_
  cases e1
  exact k1 _ H1 ρ1 Hf1 .refl (R1.set i r1)
theorem s_own (i : Nat) {x : Str} {pos' : Pos} (hN : X.N.Nodup) (he : PE X e (tL X.K W l)) (hi : X.N[i]? = some x := by rfl) (hx : Loc X.env.scope x := by first | exact Or.inl rfl | exact Or.inr rfl) (hs : swapsWith e (some (.Name x pos')) pos.line X.env = pure false := by rfl) (hf : X.fn x = true ∨ X.env.scope.names.lookup x = some .local := by first | exact .inl rfl | exact .inr rfl | assumption) :
    PS X (.Assign [.Name x pos'] e pos) (tS X.K W (sOwn i l)) := ps_le (ps_set hN hi hx he hs hf) fun N σ H ⟨Z, ρ, Hf, env, st, o, R, hf, k⟩ => by
  refine bindS R hf k fun v H1 ρ1 Hf1 s1 a t1 r1 S1 R1 e1 k1 => ?_
  cases e1
  obtain ⟨p, vs, rfl, n0, n1, n2, n3, n4⟩ := r1
  exact k1 _ H1 ρ1 Hf1 .refl (R.setOwn t1 S1 i n0 n1 n2 n3 n4)
theorem s_if {c : Expr} {a b : List Stmt} (hc : PT X c (tT X.K W p)) (ha : PSs X a (tS X.K W f)) (hb : PSs X b (tS X.K W g)) : PS X (.If c a b pos) (tS X.K W (sIf p f g)) := ps_le (ps_if hc ha hb) fun N σ H ⟨Z, ρ, Hf, env, st, o, R, hf, k⟩ => by
  refine bindS R hf k fun v H1 ρ1 Hf1 s1 a t1 r1 S1 R1 e1 k1 => ?_
  cases (show v = a from r1)
  cases v with
  | true => exact iteT ⟨Z, ρ1, Hf1, env, s1, o, R1, e1, k1⟩
  | false => exact iteF ⟨Z, ρ1, Hf1, env, s1, o, R1, e1, k1⟩
theorem s_ret (he : PE X e (tE X.K W h)) : PS X (.Return (some e) pos) (tS X.K W (sRet h)) := ps_le (ps_ret he) fun N σ H ⟨Z, ρ, Hf, env, st, o, R, hf, k⟩ => by
  refine bindS R hf k fun v H1 ρ1 Hf1 s1 a t1 r1 S1 R1 e1 k1 => ?_
  cases e1
  exact k1 v H1 ρ1 Hf1 R1.z S1 r1
theorem s_retL (he : PE X e (tL X.K W l)) : PS X (.Return (some e) pos) (tS X.K W (sRetL l)) := ps_le (ps_ret he) fun N σ H ⟨Z, ρ, Hf, env, st, o, R, hf, k⟩ => by
  refine bindS R hf k fun v H1 ρ1 Hf1 s1 a t1 r1 S1 R1 e1 k1 => ?_
  cases e1
  exact k1 v H1 ρ1 Hf1 R1.z S1 (bL.of R.z r1)
theorem s_retO (i : Nat) {x : Str} {p : Pos} (hN : X.N[i]? = some x := by rfl) (hv : Vis X.env.scope x := by first | exact Or.inl rfl | exact Or.inr (Or.inl rfl) | exact Or.inr (Or.inr rfl)) (hd : (x == ("__debug__" : Str)) = false := by decide)
    (hcd : (x == ("__classdict__" : Str)) = false := by decide) : PS X (.Return (some (.Name x p)) pos) (tS X.K W (sRetO i)) := ps_le (ps_ret (pe_var hN hv hd hcd)) fun N σ H ⟨Z, ρ, Hf, env, st, o, R, hf, k⟩ => by
  unfold sRetO at hf
  split at hf
  · rename_i l hl
    cases hf
    obtain ⟨w, hs, p, vs, rfl, hz, hr, hf, hp, ha⟩ := R.sl i _ hl
    exact ⟨.ref p, hs, k _ H ρ Hf R.z R.ok ⟨p, vs, rfl, hz, hr, hf, hp, ha⟩⟩
  · cases hf
theorem s_drop (he : PE X e (tE X.K W h)) (hs : swapsWith e none pos.line X.env = pure false := by rfl) : PS X (.Expr e pos) (tS X.K W (sDrop h)) := ps_le (ps_expr he hs) fun N σ H ⟨Z, ρ, Hf, env, st, o, R, hf, k⟩ => by
  refine bindS R hf k fun v H1 ρ1 Hf1 s1 a t1 r1 S1 R1 e1 k1 => ?_
  cases e1
  exact k1 σ H1 ρ1 Hf1 .refl R1
theorem s_app (i : Nat) {x : Str} {p apos cpos : Pos} (he : PE X e (tE X.K W h)) (hN : X.N[i]? = some x := by rfl) (hv : Vis X.env.scope x := by first | exact Or.inl rfl | exact Or.inr (Or.inl rfl) | exact Or.inr (Or.inr rfl)) (hd : (x == ("__debug__" : Str)) = false := by decide)
    (hcd : (x == ("__classdict__" : Str)) = false := by decide)
    (hbase : attributeBase (.Name x p) "append" X.env (eval (.Name x p) X.env) = eval (.Name x p) X.env := by rfl)
    (hfew : ((backTo cpos (starEach (e :: []) X.env)).all (fun x => !x.1) && (backToKw cpos (keywordEach [] X.env)).all (fun x => x.1.isSome)
      && decide ((e :: []).length + ([] : List Keyword).length + (if ([] : List Keyword).isEmpty then 0 else 1) < 30)) = true := by rfl)
    (hline : (apos.endLine == cpos.line) = true := by rfl) (hs : starEach (e :: []) X.env = (false, eval e X.env) :: starEach [] X.env := by rfl) (hplain : (backTo cpos (starEach [] X.env)).any (·.1) = false := by rfl)
    (hsw : swapsWith (.Call (.Attribute (.Name x p) "append" apos) [e] [] cpos) none pos.line X.env = pure false := by rfl) :
    PS X (.Expr (.Call (.Attribute (.Name x p) "append" apos) [e] [] cpos) pos) (tS X.K W (sApp i h)) :=
  ps_le (ps_expr (pe_bm PySem.F.plainAttrs_list PySem.F.slot_list_append PySem.F.type_list_append mt_append (pe_var hN hv hd hcd) (pa_cons he pa_nil hs) hbase hfew hline hs hplain) hsw) fun N σ H ⟨Z, ρ, Hf, env, st, o, R, hf, k⟩ => by
    unfold sApp at hf
    split at hf
    · rename_i l hl
      obtain ⟨w, hs, q, vs, rfl, hz0, hr0, hf0, hp, ha⟩ := R.sl i _ hl
      refine ⟨.ref q, hs, .inl ⟨rfl, _, SqL.of hp⟩, ?_⟩
      refine bindS R hf k fun v H1 ρ1 Hf1 s1 a t1 r1 S1 R1 e1 k1 => ?_
      obtain ⟨hz, e1⟩ := if_some e1
      subst e1
      refine ⟨q, vs, v, rfl, rfl, t1.h q _ hp hr0, Nat.lt_of_lt_of_le (by rw [ha.len]; exact hz) (by decide : 100000 ≤ sizeLine), ?_⟩
      exact k1 σ _ ρ1 Hf1 .refl (R1.mut hl hs ((ha.up t1.up).app (.cons r1 .nil)))
    · cases hf
theorem s_par (i j : Nat) {x y : Str} {a b : Expr} {px py pt : Pos} {kt k2 pt2} (hc : X.calm = true) (hN : X.N.Nodup) (ha : PA X [a, b] (tA X.K W l)) (hi : X.N[i]? = some x := by rfl) (hj : X.N[j]? = some y := by rfl) (hij : i ≠ j := by decide)
    (hx : X.env.scope.names.lookup x = some .local := by rfl) (hy : X.env.scope.names.lookup y = some .local := by rfl) (hw : swappedStores [.Tuple [.Name x px, .Name y py] kt pt] (.Tuple [a, b] k2 pt2) X.env = pure (some [x, y]) := by rfl)
    (hs : swapsWithSole [.Tuple [.Name x px, .Name y py] kt pt] (.Tuple [a, b] k2 pt2) pos.line X.env = pure false := by rfl) :
    PS X (.Assign [.Tuple [.Name x px, .Name y py] kt pt] (.Tuple [a, b] k2 pt2) pos) (tS X.K W (sPar i j l)) := ps_le (ps_par hc hN hi hj hij hx hy ha hw hs) fun N σ H ⟨Z, ρ, Hf, env, st, o, R, hf, k⟩ => by
  refine bindS R hf k fun vs H1 ρ1 Hf1 s1 ds t1 r1 S1 R1 e1 k1 => ?_
  split at e1
  · rename_i u v
    cases e1
    cases r1 with
    | cons h1 h2 =>
      cases h2 with
      | cons h2 h3 =>
        cases h3
        exact ⟨_, _, rfl, k1 _ H1 ρ1 Hf1 .refl ((R1.set i h1).set j h2)⟩
  · cases e1
end
end Ob

namespace Ob
open PySem PySem.Spec PyProof.Rows L2 Fi
def YQ (K : PySem.W.Frag) (Hf : Hp) (ρ : List Addr) (ds : List D) : Nat → Hp → V → Hp → Prop := fun i H x H' => ∃ d, ds[i]? = some d ∧
  ((H' = H ∧ Dq K Hf ρ x d) ∨ ∃ T us dus, x = .ref T ∧ H T = none ∧ H' = upd H T (.tup us) ∧ d = mkT dus ∧ DqAll K Hf ρ us dus)
abbrev WalkQ (K : PySem.W.Frag) (J : It) (Hf : Hp) (ρ : List Addr) (ds : List D) : Prop := Walk J ds.length (fun H => Same Hf H) (YQ K Hf ρ ds)
def rW : Rlt (List D) It := fun K _ _ _ ρ' Hf' _ J ds => WalkQ K J Hf' ρ' ds
theorem bW : Bk rW := ⟨fun _ h => h⟩
abbrev tI (K : PySem.W.Frag) (W : WX) (f : F (List D)) : TI := tR rW K W f
section
variable {X : Cx} {W : WX} {tg e : Expr} {pos : Pos} {f : F D}
theorem mkT_py (ps : List PyData) : mkT (ps.map .py) = .py (.tuple ps) := by
  unfold mkT
  rw [pyAll_map]
theorem mkL_py (ps : List PyData) : mkL (ps.map .py) = .py (.list ps) := by
  unfold mkL
  rw [pyAll_map]
theorem walkQ_of {K : PySem.W.Frag} {Hf : Hp} {ρ : List Addr} {ds : List PyData} {J : It} (w : WalkD K J Hf ds) : WalkQ K J Hf ρ (ds.map .py) := by
  show Walk J (ds.map D.py).length _ _
  rw [List.length_map]
  refine w.mono (fun _ h => h) fun i H x H' _ _ y => ?_
  obtain ⟨d, h1, h2⟩ := y
  refine ⟨.py d, by rw [List.getElem?_map, h1]; rfl, ?_⟩
  rcases h2 with ⟨h2, h3⟩ | ⟨T, us, dus, a, b, c, d', q⟩
  · exact .inl ⟨h2, .py h3⟩
  · exact .inr ⟨T, us, dus.map .py, a, b, c, by rw [mkT_py, d'], dqAll_of q⟩
theorem i_p {f : FL} (h : PI X tg e (Fi.tI X.K f)) : PI X tg e (tI X.K W (pL f)) := pi_le h fun σ H R ⟨Z, ρ, Hf, env, st, o, Rl, e, k⟩ => by
  obtain ⟨l, h1, rfl⟩ := map_ok e
  exact ⟨_, Hf, pv env, l, Rl.pure, h1, fun J H' Hf' s w => k.stp Rl s (walkQ_of w)⟩
theorem walkQ_seq {K : PySem.W.Frag} {Hf : Hp} {ρ : List Addr} {xs : List V} {ds : List D} {J : It} {G : Hp → Prop} (ha : DqAll K Hf ρ xs ds) (w : Walk J xs.length G (YAt xs)) (hG : ∀ H, Same Hf H → G H) : WalkQ K J Hf ρ ds := by
  rw [show xs.length = ds.length from ha.len] at w
  refine w.mono hG fun i H x H' _ _ y => ?_
  obtain ⟨d, h1, h2⟩ := ha.get y.2
  exact ⟨d, h1, .inl ⟨y.1, h2⟩⟩
def iL (f : F D) : F (List D) := bnd f fun d => lft d.lst?
def iT (f : F D) : F (List D) := bnd f fun d => lft d.tup?
theorem i_list (he : PE X e (tE X.K W f)) : PI X tg e (tI X.K W (iL f)) := pi_le (pi_list he) fun σ H R ⟨Z, ρ, Hf, env, st, o, Rl, e, k⟩ => by
  refine bind_at bW Rl e k fun x H1 ρ1 Hf1 s1 dx t1 r1 R1 e1 k1 => ?_
  obtain ⟨z, h1, rfl⟩ := lft_some e1
  obtain ⟨a, xs, rfl, hp, ha⟩ := Dq.lst_of r1 h1
  exact ⟨a, rfl, ⟨xs, R1.ok.i.seq hp⟩, k1.now R1 (walkQ_seq ha walk_list fun H h => h.seq hp)⟩
theorem i_tup (he : PE X e (tE X.K W f)) : PI X tg e (tI X.K W (iT f)) := pi_le (pi_tup he) fun σ H R ⟨Z, ρ, Hf, env, st, o, Rl, e, k⟩ => by
  refine bind_at bW Rl e k fun x H1 ρ1 Hf1 s1 dx t1 r1 R1 e1 k1 => ?_
  obtain ⟨z, h1, rfl⟩ := lft_some e1
  obtain ⟨a, xs, rfl, hp, ha⟩ := Dq.tup_of r1 h1
  exact ⟨a, rfl, ⟨xs, sqT_up R1.ok.i hp⟩, k1.now R1 (walkQ_seq ha walk_tup fun H h => sqT_up h hp)⟩
end
/-- the item of a turn -/
theorem yq_item {K : PySem.W.Frag} {Hf0 Hf H H' : Hp} {ρ0 ρ : List Addr} {ds : List D} {i : Nat} {x : V} {d : D} (y : YQ K Hf0 ρ0 ds i H x H') (hd : ds[i]? = some d) (hi : Same Hf H) (u : Up Hf0 ρ0 Hf ρ) :
    ∃ Hf', Stp Hf H Hf' H' ∧ Dq K Hf' ρ x d := by
  obtain ⟨d', h1, h2⟩ := y
  rw [hd] at h1
  cases h1
  rcases h2 with ⟨rfl, hx⟩ | ⟨T, us, dus, rfl, hT, rfl, rfl, hu⟩
  · exact ⟨Hf, .refl hi, hx.up u⟩
  · have st := Stp.new (o := .tup us) hi hT
    exact ⟨_, st, dq_mkT (SqT.of upd_same) (hu.up (u.trans ⟨st.f, List.prefix_rfl⟩))⟩
def forD (g : D → En → Option En) (fb : FS) : List D → FS
  | [], env, st => some (.next env st)
  | d :: ds, env, st => (g d env).bind fun e1 => match fb e1 st with
    | some (.next e s) => forD g fb ds e s
    | some (.cont e s) => forD g fb ds e s
    | some (.brk e s) => some (.next e s)
    | some (.ret d s) => some (.ret d s)
    | some (.retL d s) => some (.retL d s)
    | some (.exc c e s) => some (.exc c e s)
    | none => none
def sFor (fi : F (List D)) (g : D → En → Option En) (fb : FS) : FS := sE fi fun ds => forD g fb ds
section
variable {X : Cx} {W : WX} {tg iter : Expr} {pos : Pos} {fi : F (List D)} {g : D → En → Option En} {fb : FS} {sl : List Nat} {body : List Stmt}
theorem s_for (hp : PassesOwn (model X.prog X.w) X.A X.env X.xe) (hc : X.calm = true) (hi : PI X tg iter (tI X.K W fi)) (hg : PG X tg (tG X.K sl g)) (hb : PSs X body (tS X.K W fb))
    (hs : ∀ x, foldedSetIterable iter X.env x = pure x := by intro _; rfl) : PS X (.For tg iter body [] pos) (tS X.K W (sFor fi g fb)) := ps_le (ps_for hp hc hi hg hb hs) fun N σ H ⟨Z, ρ, Hf, env, st, o, R, hf, k⟩ => by
  refine bindS R hf k fun J H1 ρ1 Hf1 st1 ds t1 w S1 R1 e1 k1 => ?_
  refine for_it w (fun i σ' H' => ∃ (ρ' : List Addr) (Hf' : Hp) (env' : En) (st' : Stor), Up Hf1 ρ1 Hf' ρ' ∧ Rel X.K Z ρ' Hf' H' env' st' σ' ∧ forD g fb (ds.drop i) env' st' = some o) ⟨ρ1, Hf1, env, st1, .refl, R1, e1⟩ (fun i σ' H' _ ⟨ρ', Hf', env', st', a, R', _⟩ => a.f.trans R'.ok.i)
    (fun i x σ' H' H2 hi ⟨ρ', Hf', env', st', a, R', q⟩ y => ?_) fun σ' H' ⟨ρ', Hf', env', st', a, R', q⟩ => ?_
  · obtain ⟨d, hd, hdr⟩ := drop_get hi
    rw [hdr] at q
    obtain ⟨e1, hg1, q⟩ := obind q
    obtain ⟨Hf2, st2, hx⟩ := yq_item y hd R'.ok.i a
    have R2 := R'.step (.of st2) (R'.ok.stp st2)
    refine ⟨Z, ρ', Hf2, env', st', d, e1, R2, hx, hg1, fun σ3 R3 _ _ => ?_⟩
    have up : Up Hf1 ρ1 Hf2 ρ' := a.trans ⟨st2.f, List.prefix_rfl⟩
    cases hb1 : fb e1 st' with
    | none =>
      rw [hb1] at q
      cases q
    | some o1 =>
      rw [hb1] at q
      refine ⟨Z, ρ', Hf2, e1, st', o1, R3, hb1, ?_⟩
      cases o1 with
      | next e2 s2 => exact fun σ4 H4 ρ4 Hf4 s4 R4 => ⟨ρ4, Hf4, e2, s2, up.trans s4, R4, q⟩
      | cont e2 s2 => exact fun σ4 H4 ρ4 Hf4 s4 R4 => ⟨ρ4, Hf4, e2, s2, up.trans s4, R4, q⟩
      | brk e2 s2 =>
        cases q
        exact fun σ4 H4 ρ4 Hf4 s4 R4 => k1 σ4 H4 ρ4 Hf4 (up.trans s4) R4
      | ret d s2 =>
        cases q
        exact k1
      | retL d s2 =>
        cases q
        exact k1
      | exc c e2 s2 =>
        cases q
        exact fun σ4 H4 ρ4 Hf4 s4 R4 => k1 σ4 H4 ρ4 Hf4 (up.trans s4) R4
  · rw [List.drop_of_length_le (Nat.le_refl _)] at q
    cases q
    exact k1 σ' H' ρ' Hf' a R'
end
def wipeE (env : En) : List Nat → En
  | [] => env
  | i :: r => (wipeE env r).set i none
theorem Rel.wipe {K : PySem.W.Frag} {Z : Zt} {ρ : List Addr} {Hf H : Hp} {st : Stor} {env : En} {σ : L2.St} (R : Rel K Z ρ Hf H env st σ) : ∀ vs : List Nat, Rel K Z ρ Hf H (wipeE env vs) st (L2.wipe σ vs)
  | [] => R
  | i :: r => (R.wipe r).drop i none
theorem StOk.other {K : PySem.W.Frag} {ρ : List Addr} {Hf H : Hp} {st : Stor} {p : Addr} {o : HO} (S : StOk K ρ Hf H st) (hr : p ∉ ρ) (hf : Hf p = none) (hc : ∀ q, H p ≠ some (LamX.CodeO p q)) : StOk K ρ Hf (upd H p o) st :=
  ⟨fun b u e => by rw [upd_ne (ne_of_none e hf)]; exact S.i b u e, S.len, S.nd, S.hid, fun n a u e1 e2 => (S.ob n a u e1 e2).up .refl (by rw [upd_ne (fun z => hr (by rw [← z]; exact List.mem_of_getElem? e1))]) fun c q z => by
    have hn : c ≠ p := fun w => by
      subst w
      exact hc q z
    rw [upd_ne hn]
    exact z⟩
/-- a new address, hidden -/
theorem OStp.other {ρ ρ' : List Addr} {Hf H Hf' H' : Hp} {p : Addr} {o : HO} (t : OStp ρ Hf H ρ' Hf' H') (h : H p = none) : OStp ρ Hf H ρ' Hf' (upd H' p o) :=
  ⟨t.up, fun a u e n => by rw [upd_ne (ne_of_none e h)]; exact t.h a u e n, t.n, t.w, fun a u e => by
    obtain ⟨u', e1⟩ := t.s a u e
    exact ⟨u', by rw [upd_ne (ne_of_none e h)]; exact e1⟩⟩
theorem OStp.keeps {ρ ρ' : List Addr} {Hf H Hf' H' : Hp} {p : Addr} {o : HO} (t : OStp ρ Hf H ρ' Hf' H') (hr : p ∉ ρ) (hf : Hf p = none) (h : H p = some o) : p ∉ ρ' ∧ Hf' p = none ∧ H' p = some o :=
  ⟨(fun m => by rw [t.w p m hr] at h; cases h), t.n p o h hf, t.h p o h hr⟩
def lcD (g : D → En → Option En) (p : F Bool) (f : F D) (env : En) : List D → Stor → Option (List D × Stor)
  | [], st => some ([], st)
  | d :: ds, st => (g d env).bind fun e1 => match p e1 st with
    | some (.ok true s1) => match f e1 s1 with
      | some (.ok x s2) => (lcD g p f env ds s2).map fun q => (x :: q.1, q.2)
      | _ => none
    | some (.ok false s1) => lcD g p f env ds s1
    | _ => none
def lLc (fi : F (List D)) (g : D → En → Option En) (p : F Bool) (f : F D) (vs : List Nat) : F (List D) := bnd fi fun ds env st => if ds.length < 100000 then (lcD g p f (wipeE env vs) ds st).map fun q => .ok q.1 q.2 else none
def pYes : F Bool := lft (some true)
abbrev W0 : WX := fun _ _ _ _ => False
section
variable {X : Cx} {W W' : WX}
theorem q_nil : PTs X [] (tT X.K W pYes) := pts_le pts_nil fun σ H Q ⟨Z, ρ, Hf, env, st, o, R, e, k⟩ => by
  obtain ⟨z, h1, rfl⟩ := lft_some e
  cases h1
  exact k.now R rfl
theorem q_one {c : Expr} {p : F Bool} (h : PT X c (tT X.K W p)) : PTs X [c] (tT X.K W p) := pts_one h
theorem tLc_at {K : PySem.W.Frag} {g : D → En → Option En} {p : F Bool} {f : F D} {vs sl : List Nat} (hsl : ∀ i ∈ sl, i ∈ vs) {σ : L2.St} {Z : Zt} {ρ1 : List Addr} {H1 Hf1 : Hp} {env : En} {st1 s' : Stor} {ds out : List D} {J : It} {Qd : Addr → Hp → Prop}
    (R1 : Rel K Z ρ1 Hf1 H1 env st1 σ) (w : WalkQ K J Hf1 ρ1 ds) (hlen : ds.length < 100000) (hf : lcD g p f (wipeE env vs) ds st1 = some (out, s'))
    (k : ∀ P acc H' ρ' Hf', OStp ρ1 Hf1 H1 ρ' Hf' H' → StOk K ρ' Hf' H' s' → H1 P = none → P ∉ ρ' → Hf' P = none → H' P = some (.lst acc) → DqAll K Hf' ρ' acc out → Qd P H') :
    ∀ P, H1 P = none → ∃ U : Nat → Nat → Hp → Prop, (∃ m, U 0 m (upd H1 P (.lst []))) ∧ ∀ i m H, U i m H →
      (J.stop i H ∧ Qd P H) ∨ (J.go i H ∧ ∃ Nx : Hp → Prop, (∀ H', Nx H' → ∃ m', m' < m ∧ U (i + 1) m' H') ∧ ∀ x H', J.yld i H x H' → (tG K sl g) x (L2.wipe σ vs) H' fun σ2 H2 => L2.wipe σ2 vs = L2.wipe σ vs ∧ (tT K W p) σ2 H2 fun b H3 =>
        if b = true then (tE K W' f) σ2 H3 fun y H4 => ∃ acc, H4 P = some (.lst acc) ∧ acc.length < sizeLine ∧ Nx (upd H4 P (.lst (acc ++ [y]))) else Nx H3) := by
  intro P hP
  have hPf : Hf1 P = none := R1.ok.i.free hP
  have hPr : P ∉ ρ1 := R1.ok.new hP
  refine lc_it w (fun i H' => ∃ (ρ' : List Addr) (Hf' : Hp) (st' : Stor) (acc : List V) (da rs : List D), OStp ρ1 Hf1 H1 ρ' Hf' H' ∧ StOk K ρ' Hf' H' st' ∧ P ∉ ρ' ∧ Hf' P = none ∧ H' P = some (.lst acc) ∧ DqAll K Hf' ρ' acc da ∧ da.length ≤ i ∧ lcD g p f (wipeE env vs) (ds.drop i) st' = some (rs, s') ∧ out = da ++ rs)
    ⟨ρ1, Hf1, st1, [], [], out, OStp.refl.other hP, R1.ok.other hPr hPf (fun q z => by rw [hP] at z; cases z), hPr, hPf, upd_same, .nil, Nat.le_refl _, hf, rfl⟩ (fun i H' _ ⟨ρ', Hf', st', _, _, _, a, S, _⟩ => a.up.f.trans S.i) (fun i x H' H2 hi ⟨ρ', Hf', st', acc, da, rs, t, S, n1, n2, h2, h3, hl, h4, h5⟩ y => ?_) fun H' ⟨ρ', Hf', st', acc, da, rs, t, S, n1, n2, h2, h3, hl, h4, h5⟩ => ?_
  · obtain ⟨d, hd, hdr⟩ := drop_get hi
    rw [hdr] at h4
    obtain ⟨e1, hg1, h4⟩ := obind h4
    have R1' : Rel K Z ρ' Hf' H' (wipeE env vs) st' (L2.wipe σ vs) := (R1.wipe vs).step t S
    obtain ⟨Hf2, st2, hx⟩ := yq_item y hd S.i t.up
    have t2 : OStp ρ' Hf' H' ρ' Hf2 H2 := .of st2
    have S2 := S.stp st2
    obtain ⟨m1, m2, m3⟩ := t2.keeps n1 n2 h2
    refine ⟨Z, ρ', Hf2, wipeE env vs, st', d, e1, R1'.step t2 S2, hx, hg1, fun σ3 R3 pt ln => ?_⟩
    have hw : L2.wipe σ3 vs = L2.wipe σ vs := by
      rw [← wipe_wipe σ vs]
      exact wipe_same (ln.trans rfl) fun i hi => pt i fun q => hi (hsl i q)
    refine ⟨hw, ?_⟩
    cases hp : p e1 st' with
    | none =>
      rw [hp] at h4
      cases h4
    | some ob =>
      rw [hp] at h4
      cases ob with
      | err c s => cases h4
      | ok b s1 =>
        refine ⟨Z, ρ', Hf2, e1, st', _, R3, hp, fun v H4 ρ4 Hf4 t4 S4 hv => ?_⟩
        have hv' : v = b := hv
        subst hv'
        obtain ⟨k1, k2, k3⟩ := t4.keeps m1 m2 m3
        have t4' := (t.trans t2).trans t4
        cases v with
        | false => exact iteF ⟨ρ4, Hf4, s1, acc, da, rs, t4', S4, k1, k2, k3, h3.up (t2.up.trans t4.up), by omega, h4, h5⟩
        | true =>
          dsimp only at h4
          cases hfx : f e1 s1 with
          | none =>
            rw [hfx] at h4
            cases h4
          | some ox =>
            rw [hfx] at h4
            cases ox with
            | err c s => cases h4
            | ok x' s2 =>
              obtain ⟨⟨ys, sy⟩, hy, e2⟩ := map_ok h4
              injection e2 with e3 e4
              subst e3 e4
              refine iteT ⟨Z, ρ4, Hf4, e1, s1, _, R3.step t4 S4, hfx, fun v H5 ρ5 Hf5 t5 S5 d5 => ?_⟩
              obtain ⟨g1, g2, g3⟩ := t5.keeps k1 k2 k3
              have t6 := t4'.trans t5
              have ha := h3.up (t2.up.trans (t4.up.trans t5.up))
              have hi' : i < ds.length := hi
              exact ⟨acc, g3, Nat.lt_of_lt_of_le (by rw [ha.len]; omega) (by decide : 100000 ≤ sizeLine), ρ5, Hf5, s2, acc ++ [v], da ++ [x'], ys, t6.other hP, S5.other g1 g2 (fun q z => by rw [g3] at z; unfold LamX.CodeO at z; cases z), g1, g2, upd_same, ha.app (.cons d5 .nil), by rw [List.length_append, List.length_singleton]; omega, hy, by rw [h5, List.append_assoc]; rfl⟩
  · rw [List.drop_of_length_le (Nat.le_refl _)] at h4
    injection h4 with h4
    injection h4 with e3 e4
    subst e3 e4
    rw [List.append_nil] at h5
    subst h5
    exact k P acc H' ρ' Hf' t S hP n1 n2 h2 h3
variable {elt tg iter : Expr} {ifs : List Expr} {scope : Scope} {own : List (Str × Nat)} {pos : Pos} {fi : F (List D)} {g : D → En → Option En} {p : F Bool} {f : F D} {sl vs : List Nat} {Wp We : WX}
theorem l_lc (hc : X.calm = true) (hN : X.N.Nodup) (hi : PI X tg iter (tI X.K W fi)) (ok : BlkOk X.N X.env.scope scope own)
    (hg : ∀ (s : Shared) (H : Hp) (C : Addr) (cl : List (Str × Addr)) (fp : List Addr), PG (X.blk s H scope (compEnvC scope cl C X.env) fp) tg (tG X.K sl g)) (ht : ∀ (s : Shared) (H : Hp) (C : Addr) (cl : List (Str × Addr)) (fp : List Addr), PTs (X.blk s H scope (compEnvC scope cl C X.env) fp) ifs (tT X.K Wp p))
    (he : ∀ (s : Shared) (H : Hp) (C : Addr) (cl : List (Str × Addr)) (fp : List Addr), PE (X.blk s H scope (compEnvC scope cl C X.env) fp) elt (tE X.K We f)) (hvs : own.map (·.2) = vs := by rfl) (hsl : ∀ i ∈ sl, i ∈ vs := by decide) (hs : ∀ x, foldedSetIterable iter X.env x = pure x := by intro _; rfl) :
    PE X (.ListComp elt [⟨tg, iter, ifs, 0⟩] scope pos) (tL X.K W (lLc fi g p f vs)) := by
  subst hvs
  refine pe_le (pe_lc hc hN hi ok hg ht he hs) fun σ H Q ⟨Z, ρ, Hf, env, st, o, R, e, k⟩ => ?_
  refine bind_at bL R e k fun J H1 ρ1 Hf1 s1 ds t1 w R1 e1 k1 => ?_
  split at e1
  · rename_i hlen
    obtain ⟨⟨out, s'⟩, h1, rfl⟩ := map_ok e1
    exact tLc_at hsl R1 w hlen h1 fun P acc H' ρ' Hf' t S hP n1 n2 n3 n4 => k1 _ H' ρ' Hf' t S ⟨P, acc, rfl, hP, n1, n2, n3, n4⟩
  · cases e1
/-- name = [..], on one line -/
theorem s_setLc (i : Nat) {y : Str} {py spos : Pos} (hc : X.calm = true) (hN : X.N.Nodup) (hsw : swapsWith (.ListComp elt [⟨tg, iter, ifs, 0⟩] scope pos) (some (.Name y py)) spos.line X.env = pure true) (hi : PI X tg iter (tI X.K W fi)) (ok : BlkOk X.N X.env.scope scope own)
    (hg : ∀ (s : Shared) (H : Hp) (C : Addr) (cl : List (Str × Addr)) (fp : List Addr), PG (X.blk s H scope (compEnvC scope cl C X.env) fp) tg (tG X.K sl g)) (ht : ∀ (s : Shared) (H : Hp) (C : Addr) (cl : List (Str × Addr)) (fp : List Addr), PTs (X.blk s H scope (compEnvC scope cl C X.env) fp) ifs (tT X.K Wp p))
    (he : ∀ (s : Shared) (H : Hp) (C : Addr) (cl : List (Str × Addr)) (fp : List Addr), PE (X.blk s H scope (compEnvC scope cl C X.env) fp) elt (tE X.K We f)) (hy : X.N[i]? = some y := by rfl) (hyl : X.env.scope.names.lookup y = some .local := by rfl) (hvs : own.map (·.2) = vs := by rfl) (hsl : ∀ i ∈ sl, i ∈ vs := by decide) (hs : ∀ x, foldedSetIterable iter X.env x = pure x := by intro _; rfl) :
    PS X (.Assign [.Name y py] (.ListComp elt [⟨tg, iter, ifs, 0⟩] scope pos) spos) (tS X.K W (sOwn i (lLc fi g p f vs))) := by
  subst hvs
  refine ps_le (ps_setLc hc hN hy hyl hsw hi ok hg ht he hs) fun N σ H ⟨Z, ρ, Hf, env, st, o, R, e, k⟩ => ?_
  have e' : sE fi (fun ds env st => match (if ds.length < 100000 then lcD g p f (wipeE env (own.map (·.2))) ds st else none) with
      | some q => some (.next (env.set i (some (.own q.1))) q.2)
      | none => none) env st = some o := by
    revert e
    unfold sOwn lLc sE bnd
    cases fi env st with
    | none => exact fun h => h
    | some a =>
      cases a with
      | err c s => exact fun h => h
      | ok ds s =>
        dsimp only
        by_cases hl : ds.length < 100000
        · rw [if_pos hl, if_pos hl]
          cases lcD g p f (wipeE env (own.map (·.2))) ds s <;> exact fun h => h
        · rw [if_neg hl, if_neg hl]
          exact fun h => h
  refine bindS R e' k fun J H1 ρ1 Hf1 s1 ds t1 w S1 R1 e1 k1 => ?_
  split at e1
  · rename_i q hq
    split at hq
    · rename_i hlen
      cases e1
      obtain ⟨out, s'⟩ := q
      exact tLc_at hsl R1 w hlen hq fun P acc H' ρ' Hf' t S hP n1 n2 n3 n4 => k1 _ H' ρ' Hf' t.up (R1.setOwn t S i hP n1 n2 n3 n4)
    · cases hq
  · cases e1
end
end Ob

namespace Ob
open PySem PySem.Spec PyProof.Rows L2 Fi
abbrev Fn := List D → Stor → Option (Rs Sl)
def FinR (K : PySem.W.Frag) (ρ : List Addr) (Hf H : Hp) (Q : VK) (E : XK) : Rs Sl → Prop
  | .ok (.val d) st => ∀ v H' ρ' Hf', OStp ρ Hf H ρ' Hf' H' → StOk K ρ' Hf' H' st → Dq K Hf' ρ' v d → Q v H'
  | .ok (.own ds) st => ∀ v H' ρ' Hf', OStp ρ Hf H ρ' Hf' H' → StOk K ρ' Hf' H' st → rL K ρ Hf H ρ' Hf' H' v ds → Q v H'
  | .err c st => ∀ H' ρ' Hf', OStp ρ Hf H ρ' Hf' H' → StOk K ρ' Hf' H' st → E (.ref (He.ga K c)) none H'
def spO (K : PySem.W.Frag) (n : Nat) (G : Fn) : Sp := fun vs H Q E => vs.length = n ∧ ∃ (ρ : List Addr) (Hf : Hp) (ds : List D) (st : Stor) (r : Rs Sl), StOk K ρ Hf H st ∧ DqAll K Hf ρ vs ds ∧ G ds st = some r ∧ FinR K ρ Hf H Q E r
def entry (n : Nat) (ds : List D) : En := ds.map (fun d => some (Sl.val d)) ++ List.replicate (n - ds.length) none
def fnO (n : Nat) (b : FS) : Fn := fun ds st => match b (entry n ds) st with
  | some (.ret d s) => some (.ok (.val d) s)
  | some (.retL d s) => some (.ok (.own d) s)
  | some (.next _ s) => some (.ok (.val (.py .none)) s)
  | some (.exc c _ s) => some (.err c s)
  | _ => none
theorem dqAll_at {K : PySem.W.Frag} {Hf : Hp} {ρ : List Addr} {vs : List V} {ds : List D} (h : DqAll K Hf ρ vs ds) (n : Nat) (i : Nat) (s : Sl) (e : (entry n ds)[i]? = some (some s)) : ∃ v, (vs.map some ++ List.replicate (n - vs.length) none)[i]? = some (some v) ∧ ∃ d, s = .val d ∧ Dq K Hf ρ v d := by
  unfold entry at e
  by_cases hi : i < ds.length
  · rw [List.getElem?_append_left (by simpa using hi), List.getElem?_map] at e
    cases q : ds[i]? with
    | none => rw [q] at e; cases e
    | some d =>
      rw [q] at e
      cases e
      obtain ⟨v, h1, h2⟩ := h.at q
      exact ⟨v, by rw [List.getElem?_append_left (by rw [List.length_map, h.len]; exact hi), List.getElem?_map, h1]; rfl, d, rfl, h2⟩
  · rw [List.getElem?_append_right (by simpa using hi), List.getElem?_replicate] at e
    split at e <;> cases e
theorem rel_start {K : PySem.W.Frag} {Hf H : Hp} {ρ : List Addr} {st : Stor} {vs : List V} {ds : List D} {N : List Str} {n : Nat} (hn : N.length = n) (S : StOk K ρ Hf H st) (h : DqAll K Hf ρ vs ds) : Rel K ⟨ρ, Hf, H⟩ ρ Hf H (entry n ds) st (L2.start N vs) := by
  subst hn
  refine ⟨.refl, S, ?_, fun i s e => ?_, fun i j x y p e1 e2 => ?_⟩
  · unfold entry L2.start
    rw [List.length_append, List.length_append, List.length_map, List.length_map, List.length_replicate, List.length_replicate, h.len]
  · obtain ⟨v, h1, d, rfl, h2⟩ := dqAll_at h _ i s e
    exact ⟨v, h1, h2⟩
  · obtain ⟨v, h1, d, e, h2⟩ := dqAll_at h _ i _ e1
    cases e
theorem body_ok {X : Cx} {b : FS} {sts : List Stmt} {N : List Str} {vs : List V} {H : Hp} {Q : VK} {E : XK} {np n : Nat} (hn : N.length = n) (h : spO X.K np (fnO n b) vs H Q E) : tS X.K (fun c d _ H => E c d H) b { nx := fun _ H' => Q .non H', rt := Q } (L2.start N vs) H := by
  obtain ⟨hl, ρ, Hf, ds, st, r, S, hd, hG, k⟩ := h
  have R := rel_start hn S hd
  unfold fnO at hG
  split at hG
  · rename_i d s hb
    cases hG
    exact ⟨_, ρ, Hf, _, st, _, R, hb, k⟩
  · rename_i d s hb
    cases hG
    exact ⟨_, ρ, Hf, _, st, _, R, hb, k⟩
  · rename_i e s hb
    cases hG
    exact ⟨_, ρ, Hf, _, st, _, R, hb, fun σ' H' ρ' Hf' u R' => k .non H' ρ' Hf' R'.z R'.ok (.py .non)⟩
  · rename_i c e s hb
    cases hG
    exact ⟨_, ρ, Hf, _, st, _, R, hb, fun σ' H' ρ' Hf' u R' => k H' ρ' Hf' R'.z R'.ok⟩
  · cases hG
def Cal (P : Program) (w : World) (K : PySem.W.Frag) (mg : Str → Option Value) (base : Heap) (k : Nat) (f : Addr) (sp : Sp) : Prop :=
  ∀ (A : Around) (outer : List Env) (s : Shared) (H : Hp) (us : List Value) (vs : List V) (Q : VK) (E : XK), Room k A → Env0 P w K mg base A outer s H → Vals vs us → sp vs H Q E → codeAny (model P w) A (.call (.ref f) ⟨us, []⟩) (CR (L2N.CX P w) outer P w H s Q E) s
/-- n positional values, the keywords ks -/
def CalK (P : Program) (w : World) (K : PySem.W.Frag) (mg : Str → Option Value) (base : Heap) (k : Nat) (f : Addr) (n : Nat) (ks : List Str) (sp : Sp) : Prop :=
  ∀ (A : Around) (outer : List Env) (s : Shared) (H : Hp) (us ws : List Value) (vs zs : List V) (Q : VK) (E : XK), Room k A → Env0 P w K mg base A outer s H → Vals vs us → Vals zs ws → vs.length = n → zs.length = ks.length → sp (vs ++ zs) H Q E →
    codeAny (model P w) A (.call (.ref f) ⟨us, ks.zip ws⟩) (CR (L2N.CX P w) outer P w H s Q E) s
section
variable {P : Program} {w : World} {K : PySem.W.Frag} {mg : Str → Option Value} {base : Heap} {j k : Nat} {f : Addr} {fd : FuncData} {ps : List Str} {sp : Sp}
theorem Cal.mono (c : Cal P w K mg base j f sp) (h : j ≤ k) : Cal P w K mg base k f sp := fun A o s H us vs Q E hr => c A o s H us vs Q E (hr.mono h)
theorem CalK.mono {n : Nat} {ks : List Str} (c : CalK P w K mg base j f n ks sp) (h : j ≤ k) : CalK P w K mg base k f n ks sp := fun A o s H us ws vs zs Q E hr => c A o s H us ws vs zs Q E (hr.mono h)
theorem cal_of (F : FnOk P w K mg base (L2N.CX P w) k f fd ps sp) (hb : Binds K fd ps []) : Cal P w K mg base k f sp := fun A outer s H us vs Q E hr e0 r h => by
  have hl : us.length = ps.length := by rw [← r.length]; exact F.len _ _ _ _ h
  have b := hb s us (e0.mod.kin.keeps fun b o e => (e0.bs b o e).1) (by rw [List.append_nil]; exact hl)
  rw [List.append_nil] at b
  exact F.run A outer s H ⟨us, []⟩ us vs Q E hr e0 b r h
theorem Cal.imp {sp' : Sp} (c : Cal P w K mg base k f sp) (h : ∀ vs H Q E, sp' vs H Q E → sp vs H Q E) : Cal P w K mg base k f sp' := fun A o s H us vs Q E hr e0 r q => c A o s H us vs Q E hr e0 r (h _ _ _ _ q)
end
section
variable {X : Cx} {W : WX} {k : Nat} {f : Addr} {sp : Sp} {pins : List (Addr × Obj)} {σ : L2.St} {H : Hp} {s : Shared} {Q : VK} {us ws : List Value} {vs zs : List V} {E : XK}
theorem run_cal (F : Cal X.prog X.w X.K X.mg X.base k f sp) (hr : Room k X.A) (hx : PassesAt (L2N.CX X.prog X.w) X σ E) (I : Inv X pins σ H s) (r : Vals vs us) (h : sp vs H Q E) : wpAny (model X.prog X.w) X.A (call (.ref f) us) (EP X pins σ Q) X.xe s := by
  refine wpAny_call (codeAny_mono (F X.A X.stack s H us vs Q E hr I.env0 r h) fun r s' hq => ?_)
  cases r with
  | error e => exact hx pins H s e s' I hq
  | ok fl =>
    cases fl with
    | ret u => exact I.after hq
    | next => exact False.elim hq
    | brk => exact False.elim hq
    | cont => exact False.elim hq
theorem run_mk {C : Addr} (M : Mk X.K C f) (F : Cal X.prog X.w X.K X.mg X.base k f sp) (hr : Room (k + 1) X.A) (hx : PassesAt (L2N.CX X.prog X.w) X σ E) (I : Inv X pins σ H s) (r : Vals vs us)
    (h : ∀ x dx, H x = none → H dx = none → dx ≠ x → sp (.ref x :: vs) (upd (upd H dx (.own x)) x (.ins C dx [])) (fun v H2 => v = .non ∧ Q (.ref x) H2) E) :
    wpAny (model X.prog X.w) X.A (call (.ref C) us) (EP X pins σ Q) X.xe s := by
  have hq := h (s.heap.objs.size + 1) s.heap.objs.size (I.hok.fresh (Nat.le_succ _)) (I.hok.fresh (Nat.le_refl _)) (Nat.ne_of_lt (Nat.lt_succ_self _))
  have I2 := Inv.made (C := C) I
  have r2 : Vals (V.ref (s.heap.objs.size + 1) :: vs) (Value.ref (s.heap.objs.size + 1) :: us) := .cons rfl r
  refine wpAny_call (make_map (f := f) I.kIn M.makes M.init (beq_iff_eq.mp M.fn) (codeAny_mono (F _ X.stack _ _ (Value.ref (s.heap.objs.size + 1) :: us) _ _ E (hr.make C us []) (I2.env0.make C us []) r2 hq) fun r s' hq' => ?_))
  cases r with
  | error e => exact hx pins _ _ e s' I2 hq'
  | ok fl =>
    cases fl with
    | ret u =>
      obtain ⟨v, H', I3, rv, ev, q3⟩ := I2.after hq'
      subst ev
      exact ⟨rv, ⟨V.ref (s.heap.objs.size + 1), H', I3, rfl, q3⟩⟩
    | next => exact False.elim hq'
    | brk => exact False.elim hq'
    | cont => exact False.elim hq'
end
def goE (G : Fn) (ds : List D) (st : Stor) : Option (Rs D) := match G ds st with
  | some (.ok (.val d) s) => some (.ok d s)
  | some (.ok (.own l) s) => some (.ok (mkL l) s)
  | some (.err c s) => some (.err c s)
  | none => none
def goL (G : Fn) (ds : List D) (st : Stor) : Option (Rs (List D)) := match G ds st with
  | some (.ok (.own l) s) => some (.ok l s)
  | some (.err c s) => some (.err c s)
  | _ => none
theorem spO_E {K : PySem.W.Frag} {W : WX} {σ : L2.St} {ρ : List Addr} {Hf H : Hp} {st : Stor} {G : Fn} {n : Nat} {vs : List V} {ds : List D} {o : Rs D} {Q : VK} (S : StOk K ρ Hf H st) (h : DqAll K Hf ρ vs ds) (hn : ds.length = n) (e : goE G ds st = some o) (k : Fin rE K W σ ρ Hf H Q o) : spO K n G vs H Q (WE W σ) := by
  unfold goE at e
  split at e
  · rename_i d s q
    cases e
    exact ⟨h.len.trans hn, ρ, Hf, ds, st, _, S, h, q, k⟩
  · rename_i l s q
    cases e
    refine ⟨h.len.trans hn, ρ, Hf, ds, st, _, S, h, q, fun v H' ρ' Hf' t S' ⟨p, vs, e1, e2, e3, e4, e5, e6⟩ => ?_⟩
    subst e1
    exact k _ H' ρ' (upd Hf' p (.lst vs)) (t.show e2 e4) (show_list S' e3 e4 e5) (dq_mkL (SqL.of upd_same) (e6.up ⟨same_new e4, List.prefix_rfl⟩))
  · rename_i c s q
    cases e
    exact ⟨h.len.trans hn, ρ, Hf, ds, st, _, S, h, q, k⟩
  · cases e
theorem spO_L {K : PySem.W.Frag} {W : WX} {σ : L2.St} {ρ : List Addr} {Hf H : Hp} {st : Stor} {G : Fn} {n : Nat} {vs : List V} {ds : List D} {o : Rs (List D)} {Q : VK} (S : StOk K ρ Hf H st) (h : DqAll K Hf ρ vs ds) (hn : ds.length = n) (e : goL G ds st = some o) (k : Fin rL K W σ ρ Hf H Q o) : spO K n G vs H Q (WE W σ) := by
  unfold goL at e
  split at e
  · rename_i d s q
    cases e
    exact ⟨h.len.trans hn, ρ, Hf, ds, st, _, S, h, q, k⟩
  · rename_i c s q
    cases e
    exact ⟨h.len.trans hn, ρ, Hf, ds, st, _, S, h, q, k⟩
  · cases e
def eG (G : Fn) (n : Nat) (r : F (List D)) : F D := bnd r fun ds _ st => if ds.length = n then goE G ds st else none
def lG (G : Fn) (n : Nat) (r : F (List D)) : F (List D) := bnd r fun ds _ st => if ds.length = n then goL G ds st else none
theorem ite_some {p : Prop} [Decidable p] {α : Type} {a : Option α} {b : α} (h : (if p then a else none) = some b) : p ∧ a = some b := by
  split at h
  · exact ⟨‹p›, h⟩
  · cases h
/-- a def of the module -/
structure Kn (P : Program) (w : World) (K : PySem.W.Frag) (mg : Str → Option Value) (base : Heap) (k : Nat) (x : Str) (n : Nat) (G : Fn) : Prop where
  ex : ∃ f : Addr, Cal P w K mg base k f (spO K n G) ∧ mg x = some (.ref f) ∧ PySem.W.keepIn K (.ref f) = true
section
variable {X : Cx} {W : WX} {j k n : Nat} {G : Fn} {x m : Str} {p pos apos : Pos} {e o : Expr} {es : List Expr} {r : F (List D)} {f g : F D}
theorem call_name {t : TA} {sp : Sp} {a : Addr} (F : Cal X.prog X.w X.K X.mg X.base k a sp) (hr : Room k X.A) (tk : L2N.Takes X W) (hg : Gl X x) (hm : X.mg x = some (.ref a)) (hk : PySem.W.keepIn X.K (.ref a) = true)
    (ha : PA X (e :: es) t) (hdb : (x == ("__debug__" : Str)) = false := by decide) (he : starEach (e :: es) X.env = (false, eval e X.env) :: starEach es X.env := by rfl) (hpl : (backTo pos (starEach es X.env)).any (·.1) = false := by rfl) :
    PE X (.Call (.Name x p) (e :: es) [] pos) (fun σ H Q => t σ H fun vs H1 => sp vs H1 Q (WE W σ)) := by
  refine ⟨fun pins s σ H Q I h => ?_⟩
  refine wpAny_Call_Name_kw (ld_glob I hg hm ?_ hdb)
  refine PySem.W.callWith_K (h₀ := X.base) I.ok.mod.kin hk (thn (ha.run pos pins s σ H _ I h) fun us s1 ⟨vs, H1, I1, r, q⟩ => ⟨I1.kIn, ?_⟩) he hpl
  exact run_cal F hr (L2N.passAt tk σ) I1 r q
theorem x_fn (c : Kn X.prog X.w X.K X.mg X.base j x n G) (hr : Room k X.A) (tk : L2N.Takes X W) (ha : PA X (e :: es) (tA X.K W r)) (hg : Gl X x := by rfl) (hjk : j ≤ k := by decide) (hdb : (x == ("__debug__" : Str)) = false := by decide)
    (he : starEach (e :: es) X.env = (false, eval e X.env) :: starEach es X.env := by rfl) (hpl : (backTo pos (starEach es X.env)).any (·.1) = false := by rfl) : PE X (.Call (.Name x p) (e :: es) [] pos) (tE X.K W (eG G n r)) := by
  obtain ⟨a, h1, h2, h3⟩ := c.ex
  refine pe_le (call_name h1 (hr.mono hjk) tk hg h2 h3 ha hdb he hpl) fun σ H Q ⟨Z, ρ, Hf, env, st, o, R, e, k⟩ => ?_
  refine bind_at bE R e k fun vs H1 ρ1 Hf1 s1 ds t1 r1 R1 e1 k1 => ?_
  obtain ⟨hn, e1⟩ := ite_some e1
  exact spO_E R1.ok r1 hn e1 k1
theorem l_fn (c : Kn X.prog X.w X.K X.mg X.base j x n G) (hr : Room k X.A) (tk : L2N.Takes X W) (ha : PA X (e :: es) (tA X.K W r)) (hg : Gl X x := by rfl) (hjk : j ≤ k := by decide) (hdb : (x == ("__debug__" : Str)) = false := by decide)
    (he : starEach (e :: es) X.env = (false, eval e X.env) :: starEach es X.env := by rfl) (hpl : (backTo pos (starEach es X.env)).any (·.1) = false := by rfl) : PE X (.Call (.Name x p) (e :: es) [] pos) (tL X.K W (lG G n r)) := by
  obtain ⟨a, h1, h2, h3⟩ := c.ex
  refine pe_le (call_name h1 (hr.mono hjk) tk hg h2 h3 ha hdb he hpl) fun σ H Q ⟨Z, ρ, Hf, env, st, o, R, e, k⟩ => ?_
  refine bind_at bL R e k fun vs H1 ρ1 Hf1 s1 ds t1 r1 R1 e1 k1 => ?_
  obtain ⟨hn, e1⟩ := ite_some e1
  exact spO_L R1.ok r1 hn e1 k1
/-- a plain def, its arguments not plain by their text -/
def eP (G : List PyData → Option Fi.Sl) (n : Nat) (r : F (List D)) : F D := bnd r fun ds => lft (if ds.length = n then (pyAll ds).bind fun ps => match G ps with
  | some (.val d) => some (.py d)
  | some (.own l) => some (.py (.list l))
  | _ => none else none)
theorem x_pfn {G : List PyData → Option Fi.Sl} (c : Known X.prog X.w X.K X.mg X.base j x n G) (hr : Room k X.A) (ha : PA X (e :: es) (tA X.K W r)) (hg : Gl X x := by rfl) (hjk : j ≤ k := by decide) (hdb : (x == ("__debug__" : Str)) = false := by decide)
    (he : starEach (e :: es) X.env = (false, eval e X.env) :: starEach es X.env := by rfl) (hpl : (backTo pos (starEach es X.env)).any (·.1) = false := by rfl) : PE X (.Call (.Name x p) (e :: es) [] pos) (tE X.K W (eP G n r)) := by
  obtain ⟨f, fd, ps, h1, h2, h3, h4⟩ := c.ex
  refine pe_le (pe_call h1 (hr.mono hjk) hg h2 h3 h4 .nil (E := fun _ _ _ => False) (fun _ _ _ _ _ _ _ z => False.elim z) ha hdb he hpl) fun σ H Q ⟨Z, ρ, Hf, env, st, o, R, e, k⟩ => ?_
  refine bind_at bE R e k fun vs H1 ρ1 Hf1 s1 ds t1 r1 R1 e1 k1 => ?_
  obtain ⟨z, e2, rfl⟩ := lft_some e1
  obtain ⟨hn, e3⟩ := ite_some e2
  obtain ⟨qs, e4, e5⟩ := obind e3
  have d1 : DpAll X.K Hf1 vs qs := DqAll.pure r1 e4
  rw [List.append_nil]
  split at e5
  · rename_i d q
    cases e5
    exact ⟨(DqAll.len r1).trans hn, Hf1, qs, _, R1.ok.i, d1, q, fun v H' Hf' s d => k1.stp R1 s (.py d)⟩
  · rename_i l q
    cases e5
    refine ⟨(DqAll.len r1).trans hn, Hf1, qs, _, R1.ok.i, d1, q, fun p vs H' Hf' s n1 n2 n3 d => ?_⟩
    have s2 : Stp Hf1 H1 (upd Hf' p (.lst vs)) H' := s.show n1 n2 n3
    exact k1.stp R1 s2 (.py (.lst (SqL.of upd_same) (DpAll_up (same_new n2) d)))
  · cases e5
def fld (cs : List Str) (m : Str) : D → Stor → Option D := fun d st => match d with
  | .obj n => match st[n]? with
    | some (.ins c fs) => if c ∈ cs then fs.lookup m else none
    | _ => none
  | _ => none
def eFld (cs : List Str) (m : Str) (f : F D) : F D := bnd f fun d _ st => (fld cs m d st).map (.ok · st)
/-- the classes cs have no attribute m of their own -/
def NoA (K : PySem.W.Frag) (cs : List Str) (m : Str) : Prop := ∀ c ∈ cs, Cls K (He.ga K c) ∧ NoAttr K (He.ga K c) m
theorem fs_lookup {K : PySem.W.Frag} {Hf : Hp} {ρ : List Addr} {m : Str} {d : D} : ∀ {vs : List (Str × V)} {fs : List (Str × D)}, FsOk K Hf ρ vs fs → fs.lookup m = some d → ∃ v, vs.lookup m = some v ∧ Dq K Hf ρ v d
  | [], _, h, e => by cases h; cases e
  | (n, v) :: vs, _, h, e => by
    cases h with
    | cons h t =>
      rename_i q fs
      obtain ⟨n', d'⟩ := q
      obtain ⟨h1, h2⟩ := h
      cases (show n = n' from h1)
      rw [List.lookup_cons] at e ⊢
      cases z : (m == n) with
      | true =>
        rw [z] at e
        cases e
        exact ⟨v, rfl, h2⟩
      | false =>
        rw [z] at e
        exact fs_lookup t e
theorem fs_none {K : PySem.W.Frag} {Hf : Hp} {ρ : List Addr} {m : Str} : ∀ {vs : List (Str × V)} {fs : List (Str × D)}, FsOk K Hf ρ vs fs → fs.lookup m = none → vs.lookup m = none
  | [], _, h, e => rfl
  | (n, v) :: vs, _, h, e => by
    cases h with
    | cons h t =>
      rename_i q fs
      obtain ⟨n', d'⟩ := q
      obtain ⟨h1, h2⟩ := h
      cases (show n = n' from h1)
      rw [List.lookup_cons] at e ⊢
      cases z : (m == n) with
      | true =>
        rw [z] at e
        cases e
      | false =>
        rw [z] at e
        exact fs_none t e
def clsOf (d : D) (st : Stor) : Option Str := match d with
  | .obj n => match st[n]? with
    | some (.ins c _) => some c
    | _ => none
  | _ => none
theorem fld_some {K : PySem.W.Frag} {ρ : List Addr} {Hf H : Hp} {st : Stor} {cs : List Str} {m : Str} {v : V} {d z : D} (S : StOk K ρ Hf H st) (h : Dq K Hf ρ v d) (e : fld cs m d st = some z) :
    ∃ a c dx vs w, v = .ref a ∧ c ∈ cs ∧ H a = some (.ins (He.ga K c) dx vs) ∧ vs.lookup m = some w ∧ Dq K Hf ρ w z ∧ clsOf d st = some c := by
  unfold fld at e
  split at e
  · rename_i n
    split at e
    · rename_i c fs q
      obtain ⟨hc, e⟩ := ite_some e
      cases h with
      | obj ha =>
        obtain ⟨dx, vs, h1, h2⟩ := S.ob n _ _ ha q
        obtain ⟨w, h3, h4⟩ := fs_lookup h2 e
        exact ⟨_, c, dx, vs, w, rfl, hc, h1, h3, h4, by simp [clsOf, q]⟩
    · cases e
  · cases e
theorem x_fld (cs : List Str) (hC : NoA X.K cs m) (he : PE X e (tE X.K W f)) (hb : attributeBase e m X.env (eval e X.env) = eval e X.env := by rfl) : PE X (.Attribute e m pos) (tE X.K W (eFld cs m f)) := pe_le (pe_fld he hb) fun σ H Q ⟨Z, ρ, Hf, env, st, o, R, e, k⟩ => by
  refine bind_at bE R e k fun v H1 ρ1 Hf1 s1 d t1 r1 R1 e1 k1 => ?_
  obtain ⟨z, e2, rfl⟩ := map_ok e1
  obtain ⟨a, c, dx, vs, w, rfl, hc, h1, h2, h3, _⟩ := fld_some R1.ok r1 e2
  exact ⟨a, _, dx, vs, w, rfl, h1, (hC c hc).1, (hC c hc).2, h2, k1.now R1 h3⟩
abbrev Tab := List (Str × Fn)
structure Met (P : Program) (w : World) (K : PySem.W.Frag) (mg : Str → Option Value) (base : Heap) (k : Nat) (m : Str) (n : Nat) (c : Str) (G : Fn) : Prop where
  cls : Cls K (He.ga K c)
  ex : ∃ f : Addr, Meth K (He.ga K c) m f ∧ Cal P w K mg base k f (spO K (n + 1) G)
def Mets (P : Program) (w : World) (K : PySem.W.Frag) (mg : Str → Option Value) (base : Heap) (k : Nat) (m : Str) (n : Nat) (T : Tab) : Prop := ∀ p ∈ T, Met P w K mg base k m n p.1 p.2
/-- what is done for an object -/
def pick (T : Tab) (m : Str) : D → Stor → Option Fn := fun d st => match d with
  | .obj n => match st[n]? with
    | some (.ins c fs) => if (fs.lookup m).isNone then T.lookup c else none
    | _ => none
  | _ => none
def eMeth (T : Tab) (m : Str) (n : Nat) (f : F D) (r : F (List D)) : F D := bnd f fun d env st => match pick T m d st with
  | some G => bnd r (fun ds _ st => if ds.length = n then goE G (d :: ds) st else none) env st
  | none => none
theorem lookup_mem {β : Type} {x : Str} {y : β} : ∀ {l : List (Str × β)}, l.lookup x = some y → (x, y) ∈ l
  | [], h => by cases h
  | (a, b) :: r, h => by
    rw [List.lookup_cons] at h
    cases z : (x == a) with
    | true =>
      rw [z] at h
      cases h
      rw [beq_iff_eq.mp z]
      exact List.mem_cons_self ..
    | false =>
      rw [z] at h
      exact List.mem_cons_of_mem _ (lookup_mem h)
theorem pick_some {K : PySem.W.Frag} {ρ : List Addr} {Hf H : Hp} {st : Stor} {T : Tab} {m : Str} {v : V} {d : D} {G : Fn} (S : StOk K ρ Hf H st) (h : Dq K Hf ρ v d) (e : pick T m d st = some G) :
    ∃ a c dx vs, v = .ref a ∧ (c, G) ∈ T ∧ H a = some (.ins (He.ga K c) dx vs) ∧ vs.lookup m = none := by
  unfold pick at e
  split at e
  · rename_i n
    split at e
    · rename_i c fs q
      obtain ⟨hc, e⟩ := ite_some e
      cases h with
      | obj ha =>
        obtain ⟨dx, vs, h1, h2⟩ := S.ob n _ _ ha q
        exact ⟨_, c, dx, vs, rfl, lookup_mem e, h1, fs_none h2 (Option.isNone_iff_eq_none.mp hc)⟩
    · cases e
  · cases e
theorem x_meth {T : Tab} {pl : Sem Bool} (M : Mets X.prog X.w X.K X.mg X.base j m n T) (hr : Room k X.A) (tk : L2N.Takes X W) (he : PE X o (tE X.K W f)) (ha : PA X (e :: es) (tA X.K W r)) (hjk : j ≤ k := by decide)
    (hst : starEach (e :: es) X.env = (false, eval e X.env) :: starEach es X.env := by rfl) (hpl : (backTo pos (starEach es X.env)).any (·.1) = false := by rfl)
    (ht : eval (.Call (.Attribute o m apos) (e :: es) [] pos) X.env = (do
      let ov ← eval o X.env
      standAt apos.atName
      let (f, first) ← holding [ov] (getMethod ov m pl)
      callWith pos f first (backTo pos (starEach (e :: es) X.env)) (backToKw pos (keywordEach [] X.env))) := by rfl) :
    PE X (.Call (.Attribute o m apos) (e :: es) [] pos) (tE X.K W (eMeth T m n f r)) := by
  refine ⟨fun pins s σ H Q I ⟨Z, ρ, Hf, env, st, o, R, e, k⟩ => ?_⟩
  refine PySem.W.methodCall_KW (pl := pl) (thn (he.run pins s σ H _ I (bind_at bE R e k (P := fun v H1 => ∃ ρ1 Hf1 s1 d, Dq X.K Hf1 ρ1 v d ∧ Rel X.K Z ρ1 Hf1 H1 env s1 σ ∧ (match pick T m d s1 with
    | some G => bnd r (fun ds _ st => if ds.length = n then goE G (d :: ds) st else none) env s1
    | none => none) = some o ∧ Fin rE X.K W σ ρ1 Hf1 H1 Q o) fun v H1 ρ1 Hf1 s1 d t1 r1 R1 e1 k1 => ⟨ρ1, Hf1, s1, d, r1, R1, e1, k1⟩)) fun u s1 ⟨x, H1, I1, rx, ρ1, Hf1, st1, d, r1, R1, e1, k1⟩ => ?_) ht
  cases hp : pick T m d st1 with
  | none => rw [hp] at e1; cases e1
  | some G =>
    rw [hp] at e1
    obtain ⟨a, c, dx, vs, rfl, hm, ea, hl⟩ := pick_some R1.ok r1 hp
    obtain rfl : u = Value.ref a := rx
    obtain ⟨fa, hme, hcal⟩ := (M _ hm).ex
    refine getmeth_ok I1 ea (M _ hm).cls hme hl ?_
    refine PySem.W.callWith_K (first := [.ref a]) (h₀ := X.base) I.ok.mod.kin hme.kp (thn (ha.run pos pins s1 σ H1 _ I1 (bind_at bE R1 e1 k1 (P := fun vs H2 => spO X.K (n + 1) G (.ref a :: vs) H2 Q (WE W σ)) fun vs H2 ρ2 Hf2 s2 ds t2 r2 R2 e2 k2 => ?_)) fun us s2 ⟨vs, H2, I2, rv, q2⟩ => ⟨I2.kIn, ?_⟩) hst hpl
    · obtain ⟨hn, e2⟩ := ite_some e2
      exact spO_E R2.ok (.cons (Dq.up t2.up r1) r2) (congrArg Nat.succ hn) e2 k2
    · exact run_cal (us := .ref a :: us) (vs := .ref a :: vs) hcal (hr.mono hjk) (L2N.passAt tk σ) I2 (.cons rfl rv) q2
def eMeth0 (T : Tab) (m : Str) (f : F D) : F D := bnd f fun d _ st => match pick T m d st with
  | some G => goE G [d] st
  | none => none
theorem x_meth0 {T : Tab} {pl : Sem Bool} (M : Mets X.prog X.w X.K X.mg X.base j m 0 T) (hr : Room k X.A) (tk : L2N.Takes X W) (he : PE X o (tE X.K W f)) (hjk : j ≤ k := by decide)
    (ht : eval (.Call (.Attribute o m apos) [] [] pos) X.env = (do
      let ov ← eval o X.env
      standAt apos.atName
      let (f, first) ← holding [ov] (getMethod ov m pl)
      callWith pos f first (backTo pos (starEach [] X.env)) (backToKw pos (keywordEach [] X.env))) := by rfl) :
    PE X (.Call (.Attribute o m apos) [] [] pos) (tE X.K W (eMeth0 T m f)) := by
  refine ⟨fun pins s σ H Q I ⟨Z, ρ, Hf, env, st, o, R, e, k⟩ => ?_⟩
  refine PySem.W.methodCall_KW (pl := pl) (thn (he.run pins s σ H _ I (bind_at bE R e k (P := fun v H1 => ∃ ρ1 Hf1 s1 d, Dq X.K Hf1 ρ1 v d ∧ Rel X.K Z ρ1 Hf1 H1 env s1 σ ∧ (match pick T m d s1 with
    | some G => goE G [d] s1
    | none => none) = some o ∧ Fin rE X.K W σ ρ1 Hf1 H1 Q o) fun v H1 ρ1 Hf1 s1 d t1 r1 R1 e1 k1 => ⟨ρ1, Hf1, s1, d, r1, R1, e1, k1⟩)) fun u s1 ⟨x, H1, I1, rx, ρ1, Hf1, st1, d, r1, R1, e1, k1⟩ => ?_) ht
  cases hp : pick T m d st1 with
  | none => rw [hp] at e1; cases e1
  | some G =>
    rw [hp] at e1
    obtain ⟨a, c, dx, vs, rfl, hm, ea, hl⟩ := pick_some R1.ok r1 hp
    obtain rfl : u = Value.ref a := rx
    obtain ⟨fa, hme, hcal⟩ := (M _ hm).ex
    refine getmeth_ok I1 ea (M _ hm).cls hme hl ?_
    exact PySem.W.callWith_K0 (first := [.ref a]) I1.kIn hme.kp (run_cal (us := [.ref a]) (vs := [.ref a]) hcal (hr.mono hjk) (L2N.passAt tk σ) I1 (.cons rfl .nil) (spO_E R1.ok (.cons r1 .nil) rfl e1 k1))
end
end Ob

namespace Ob
open PySem PySem.Spec PyProof.Rows L2 Fi
structure Prp (P : Program) (w : World) (K : PySem.W.Frag) (mg : Str → Option Value) (base : Heap) (k : Nat) (m : Str) (c : Str) (G : Fn) : Prop where
  cls : Cls K (He.ga K c)
  ex : ∃ p g : Addr, PropOf K (He.ga K c) m p g ∧ Cal P w K mg base k g (spO K 1 G)
def Prps (P : Program) (w : World) (K : PySem.W.Frag) (mg : Str → Option Value) (base : Heap) (k : Nat) (m : Str) (T : Tab) : Prop := ∀ p ∈ T, Prp P w K mg base k m p.1 p.2
def pickP (T : Tab) : D → Stor → Option Fn := fun d st => match d with
  | .obj n => match st[n]? with
    | some (.ins c _) => T.lookup c
    | _ => none
  | _ => none
def goN (G : Fn) (ds : List D) (st : Stor) : Option (Rs D) := match goE G ds st with
  | some (.ok d s) => some (.ok d s)
  | _ => none
def eProp (T : Tab) (f : F D) : F D := bnd f fun d _ st => match pickP T d st with
  | some G => goN G [d] st
  | none => none
theorem pickP_some {K : PySem.W.Frag} {ρ : List Addr} {Hf H : Hp} {st : Stor} {T : Tab} {v : V} {d : D} {G : Fn} (S : StOk K ρ Hf H st) (h : Dq K Hf ρ v d) (e : pickP T d st = some G) :
    ∃ a c dx vs, v = .ref a ∧ (c, G) ∈ T ∧ H a = some (.ins (He.ga K c) dx vs) := by
  unfold pickP at e
  split at e
  · rename_i n
    split at e
    · rename_i c fs q
      cases h with
      | obj ha =>
        obtain ⟨dx, vs, h1, h2⟩ := S.ob n _ _ ha q
        exact ⟨_, c, dx, vs, rfl, lookup_mem e, h1⟩
    · cases e
  · cases e
theorem goN_some {G : Fn} {ds : List D} {st : Stor} {o : Rs D} (h : goN G ds st = some o) : ∃ d s, o = .ok d s ∧ goE G ds st = some (.ok d s) := by
  unfold goN at h
  split at h
  · rename_i d s q
    cases h
    exact ⟨d, s, rfl, q⟩
  · cases h
section
variable {X : Cx} {W : WX} {j k n : Nat} {G : Fn} {x m : Str} {p pos apos pos' tpos : Pos} {e o value : Expr} {es : List Expr} {r : F (List D)} {f g : F D}
theorem getprop {pins : List (Addr × Obj)} {σ : L2.St} {H : Hp} {s : Shared} {Q : VK} {b : Bool} {E' : Value → Shared → Prop} {a C dx p g : Addr} {fs : List (Str × V)} {sp : Sp} (I : Inv X pins σ H s) (ea : H a = some (.ins C dx fs)) (c : Cls X.K C) (hp : PropOf X.K C m p g)
    (F : Cal X.prog X.w X.K X.mg X.base k g sp) (hr : Room (k + 1) X.A) (h : sp [.ref a] H Q (fun _ _ _ => False)) : wpAny (model X.prog X.w) X.A (getAttr (.ref a) m b) (EP X pins σ Q) E' s := by
  obtain ⟨mA, O, _, _, _, _⟩ := ins_get I.hok ea
  obtain ⟨od, J, _⟩ := O.look
  obtain ⟨rest, hrec⟩ := hp.rec_
  have I1 := I.tok (s.toks + 1)
  have hc : (PySem.W.clsIn X.K C).isSome = true := by
    obtain ⟨cd, hc, _⟩ := PySem.W.any_some c.hd
    rw [hc]
    rfl
  refine PySem.W.get_bind I.kIn J (PySem.W.plainGet_of (c.get m)).1 (PySem.W.findObj_data hc hp.at_ hp.get hp.tak) (PySem.W.plainGet_of (c.get m)).2 (wpAny_call (PySem.W.prop_get (s := { s with toks := s.toks + 1 }) I.kIn hrec ?_))
  refine codeAny_mono (F X.A.in1 X.stack { s with toks := s.toks + 1 } H [.ref a] [.ref a] Q _ hr.in1 I1.env0.in1 (.cons rfl .nil) h) fun r s' hq => ?_
  cases r with
  | error er =>
    obtain ⟨_, _, _, _, _, _, _, _, _, _, _, _, z⟩ := hq
    exact z.elim
  | ok fl =>
    cases fl with
    | ret u =>
      obtain ⟨v, H', I3, rv, q3⟩ := I1.after hq
      show wpAny _ _ (handedOut u) _ _ _
      rw [PySem.W.handedOut_of (handed_of rv)]
      exact wpAny_pure ⟨v, H', I3, rv, q3⟩
    | next => exact False.elim hq
    | brk => exact False.elim hq
    | cont => exact False.elim hq
theorem x_prop {T : Tab} (M : Prps X.prog X.w X.K X.mg X.base j m T) (hr : Room k X.A) (he : PE X e (tE X.K W f)) (hjk : j + 1 ≤ k := by decide) (hab : attributeBase e m X.env (eval e X.env) = eval e X.env := by rfl) : PE X (.Attribute e m pos) (tE X.K W (eProp T f)) := by
  refine ⟨fun pins s σ H Q I ⟨Z, ρ, Hf, env, st, o, R, e, k⟩ => ?_⟩
  refine attr_of hab (thn (he.run pins s σ H _ I (bind_at bE R e k (P := fun v H1 => ∃ ρ1 Hf1 s1 d, Dq X.K Hf1 ρ1 v d ∧ Rel X.K Z ρ1 Hf1 H1 env s1 σ ∧ (match pickP T d s1 with
    | some G => goN G [d] s1
    | none => none) = some o ∧ Fin rE X.K W σ ρ1 Hf1 H1 Q o) fun v H1 ρ1 Hf1 s1 d t1 r1 R1 e1 k1 => ⟨ρ1, Hf1, s1, d, r1, R1, e1, k1⟩)) fun u s1 ⟨x, H1, I1, rx, ρ1, Hf1, st1, d, r1, R1, e1, k1⟩ => ?_)
  cases hp : pickP T d st1 with
  | none => rw [hp] at e1; cases e1
  | some G =>
    rw [hp] at e1
    obtain ⟨a, c, dx, vs, rfl, hm, ea⟩ := pickP_some R1.ok r1 hp
    obtain rfl : u = Value.ref a := rx
    obtain ⟨p, ga, hpr, hcal⟩ := (M _ hm).ex
    obtain ⟨z, sz, rfl, e2⟩ := goN_some e1
    exact getprop I1 ea (M _ hm).cls hpr hcal (hr.mono hjk) (spO_E (W := W0) (σ := σ) R1.ok (.cons r1 .nil) rfl e2 k1)
def made (G : Fn) (c : Str) (ds : List D) (st : Stor) : Option (Rs D) := match G (.obj st.length :: ds) (st ++ [.ins c []]) with
  | some (.ok (.val (.py .none)) s) => some (.ok (.obj st.length) s)
  | some (.err e s) => some (.err e s)
  | _ => none
theorem spO_M {K : PySem.W.Frag} {W : WX} {σ : L2.St} {ρ : List Addr} {Hf H : Hp} {st : Stor} {G : Fn} {n : Nat} {c : Str} {vs : List V} {ds : List D} {o : Rs D} {Q : VK} (S : StOk K ρ Hf H st) (h : DqAll K Hf ρ vs ds) (hn : ds.length = n) (e : made G c ds st = some o) (k : Fin rE K W σ ρ Hf H Q o) :
    ∀ x dx, H x = none → H dx = none → dx ≠ x → spO K (n + 1) G (.ref x :: vs) (upd (upd H dx (.own x)) x (.ins (He.ga K c) dx [])) (fun v H2 => v = .non ∧ Q (.ref x) H2) (WE W σ) := fun x dx hx hd ne => by
  have t : OStp ρ Hf H (ρ ++ [x]) Hf (upd (upd H dx (.own x)) x (.ins (He.ga K c) dx [])) := .push S.i hx (made_keeps hx hd)
  have S1 := S.make (c := c) hx hd
  have hself : Dq K Hf (ρ ++ [x]) (.ref x) (.obj st.length) := .obj (by rw [← S.len, List.getElem?_append_right (Nat.le_refl _), Nat.sub_self]; rfl)
  have ha : DqAll K Hf (ρ ++ [x]) (.ref x :: vs) (.obj st.length :: ds) := .cons hself (h.up t.up)
  unfold made at e
  split at e
  · rename_i s q
    cases e
    refine ⟨congrArg Nat.succ (h.len.trans hn), _, Hf, _, _, _, S1, ha, q, fun v H' ρ' Hf' t' S' d => ⟨?_, ?_⟩⟩
    · exact d.dp.non_eq
    · exact k _ H' ρ' Hf' (t.trans t') S' (hself.up t'.up)
  · rename_i c s q
    cases e
    exact ⟨congrArg Nat.succ (h.len.trans hn), _, Hf, _, _, _, S1, ha, q, fun H' ρ' Hf' t' S' => k H' ρ' Hf' (t.trans t') S'⟩
  · cases e
/-- a class of the module that is called with n values -/
structure Mkr (P : Program) (w : World) (K : PySem.W.Frag) (mg : Str → Option Value) (base : Heap) (k : Nat) (c : Str) (n : Nat) (G : Fn) : Prop where
  g : mg c = some (.ref (He.ga K c))
  ex : ∃ f, Mk K (He.ga K c) f ∧ Cal P w K mg base k f (spO K (n + 1) G)
structure MkrK (P : Program) (w : World) (K : PySem.W.Frag) (mg : Str → Option Value) (base : Heap) (k : Nat) (c : Str) (n : Nat) (ks : List Str) (G : Fn) : Prop where
  g : mg c = some (.ref (He.ga K c))
  ex : ∃ f, Mk K (He.ga K c) f ∧ CalK P w K mg base k f (n + 1) ks (spO K (n + ks.length + 1) G)
def eMake (G : Fn) (c : Str) (n : Nat) (r : F (List D)) : F D := bnd r fun ds _ st => if ds.length = n then made G c ds st else none
theorem x_make {c : Str} (M : Mkr X.prog X.w X.K X.mg X.base j c n G) (hr : Room k X.A) (tk : L2N.Takes X W) (ha : PA X (e :: es) (tA X.K W r)) (hg : Gl X c := by rfl) (hjk : j + 1 ≤ k := by decide) (hdb : (c == ("__debug__" : Str)) = false := by decide)
    (he : starEach (e :: es) X.env = (false, eval e X.env) :: starEach es X.env := by rfl) (hpl : (backTo pos (starEach es X.env)).any (·.1) = false := by rfl) : PE X (.Call (.Name c p) (e :: es) [] pos) (tE X.K W (eMake G c n r)) := by
  obtain ⟨f, hM, hF⟩ := M.ex
  refine ⟨fun pins s σ H Q I ⟨Z, ρ, Hf, env, st, o, R, e, k⟩ => ?_⟩
  refine wpAny_Call_Name_kw (ld_glob I hg M.g ?_ hdb)
  refine PySem.W.callWith_K (h₀ := X.base) I.ok.mod.kin hM.kp (thn (ha.run pos pins s σ H _ I (bind_at bE R e k (P := fun vs H1 => ∀ x dx, H1 x = none → H1 dx = none → dx ≠ x → spO X.K (n + 1) G (.ref x :: vs) (upd (upd H1 dx (.own x)) x (.ins (He.ga X.K c) dx [])) (fun v H2 => v = .non ∧ Q (.ref x) H2) (WE W σ)) fun vs H1 ρ1 Hf1 s1 ds t1 r1 R1 e1 k1 => ?_)) fun us s1 ⟨vs, H1, I1, rv, q⟩ => ⟨I1.kIn, ?_⟩) he hpl
  · obtain ⟨hn, e1⟩ := ite_some e1
    exact spO_M R1.ok r1 hn e1 k1
  · exact run_mk hM hF (hr.mono hjk) (L2N.passAt tk σ) I1 rv q
def eMakeK (G : Fn) (c : Str) (n m : Nat) (r q : F (List D)) : F D := bnd r fun ds => bnd q fun ws _ st => if ds.length = n ∧ ws.length = m then made G c (ds ++ ws) st else none
def putD (m : Str) (d : D) : List (Str × D) → List (Str × D)
  | [] => [(m, d)]
  | (x, y) :: r => if x = m then (x, d) :: r else (x, y) :: putD m d r
theorem fs_put {K : PySem.W.Frag} {Hf : Hp} {ρ : List Addr} {m : Str} {v : V} {d : D} (h : Dq K Hf ρ v d) : ∀ {vs : List (Str × V)} {fs : List (Str × D)}, FsOk K Hf ρ vs fs → FsOk K Hf ρ (putF m v vs) (putD m d fs)
  | [], _, q => by cases q; exact .cons ⟨rfl, h⟩ .nil
  | (n, w) :: vs, _, q => by
    cases q with
    | cons q t =>
      rename_i z fs
      obtain ⟨n', d'⟩ := z
      obtain ⟨h1, h2⟩ := q
      cases (show n = n' from h1)
      unfold putF putD
      by_cases e : n = m
      · rw [if_pos e, if_pos e]
        exact .cons ⟨rfl, h⟩ t
      · rw [if_neg e, if_neg e]
        exact .cons ⟨rfl, h2⟩ (fs_put h t)
def setFld (cs : List Str) (m : Str) (d y : D) (st : Stor) : Option Stor := match d with
  | .obj n => match st[n]? with
    | some (.ins c fs) => if c ∈ cs ∧ fs.length < 1000 then some (st.set n (.ins c (putD m y fs))) else none
    | _ => none
  | _ => none
theorem setFld_some {K : PySem.W.Frag} {Z : Zt} {ρ : List Addr} {Hf H : Hp} {env : En} {st st' : Stor} {σ : L2.St} {cs : List Str} {m : Str} {v w : V} {d y : D} (R : Rel K Z ρ Hf H env st σ) (h : Dq K Hf ρ v d) (hy : Dq K Hf ρ w y) (e : setFld cs m d y st = some st') :
    ∃ a c dx vs n fs, v = .ref a ∧ d = .obj n ∧ st[n]? = some (.ins c fs) ∧ c ∈ cs ∧ H a = some (.ins (He.ga K c) dx vs) ∧ vs.length < 1000 ∧ Rel K Z ρ Hf (upd H a (.ins (He.ga K c) dx (putF m w vs))) env st' σ := by
  unfold setFld at e
  split at e
  · rename_i n
    split at e
    · rename_i c fs q
      obtain ⟨⟨hc, hl⟩, e⟩ := if_some e
      subst e
      cases h with
      | obj ha =>
        obtain ⟨dx, vs, h1, h2⟩ := R.ok.ob n _ _ ha q
        refine ⟨_, c, dx, vs, n, fs, rfl, rfl, q, hc, h1, by rw [Paired.length h2]; exact hl, ?_⟩
        exact R.step (R.ok.setStp ha) (R.ok.set ha ⟨dx, _, upd_same, fs_put hy h2⟩)
    · cases e
  · cases e
def sFld (cs : List Str) (m : Str) (v o : F D) : FS := sE v fun y => sE o fun d env st => (setFld cs m d y st).map (.next env ·)
theorem s_fld (cs : List Str) (hC : NoA X.K cs m) (hv : PE X value (tE X.K W g)) (ho : PE X o (tE X.K W f)) (hs : swapsWith value (some (.Attribute o m pos')) pos.line X.env = pure false := by rfl) :
    PS X (.Assign [.Attribute o m pos'] value pos) (tS X.K W (sFld cs m g f)) := ps_le (ps_fld ho hv hs) fun N σ H ⟨Z, ρ, Hf, env, st, o, R, hf, k⟩ => by
  refine bindS R hf k fun w H1 ρ1 Hf1 s1 y t1 r1 S1 R1 e1 k1 => ?_
  refine bindS R1 e1 k1 fun v H2 ρ2 Hf2 s2 d t2 r2 S2 R2 e2 k2 => ?_
  obtain ⟨st', e3, rfl⟩ := map_ok e2
  obtain ⟨a, c, dx, vs, n, fs, rfl, rfl, _, hc, h1, h2, R3⟩ := setFld_some R2 r2 (Dq.up t2.up r1) e3
  exact ⟨a, _, dx, vs, rfl, h1, (hC c hc).1, (hC c hc).2, h2, k2 σ _ ρ2 Hf2 .refl R3⟩
def sFldAug (cs : List Str) (m : Str) (g : Int → Int → Int) (o v : F D) : FS := sE o fun d env st => match fld cs m d st with
  | some (.py (.int a)) => sE v (fun y env s2 => match y with
    | .py (.int b) => if clsOf d st = clsOf d s2 then (setFld cs m d (.py (.int (g a b))) s2).map (.next env ·) else none
    | _ => none) env st
  | _ => none
theorem s_fldAug (cs : List Str) {op : Operator} {gi : Int → Int → Int} {rd : V → V → Hp → VK → Prop} (hC : NoA X.K cs m) (ho : PE X o (tE X.K W f)) (hv : PE X value (tE X.K W g)) (hop : InOp X op rd) (hrd : rd = fun x y H Q => ∃ i j, x = .int i ∧ y = .int j ∧ Q (.int (gi i j)) H := by rfl) :
    PS X (.AugAssign (.Attribute o m tpos) op value pos) (tS X.K W (sFldAug cs m gi f g)) := ps_le (ps_fldaug ho hv hop) fun N σ H ⟨Z, ρ, Hf, env, st, o, R, hf, k⟩ => by
  subst hrd
  refine bindS R hf k fun v H1 ρ1 Hf1 s1 d t1 r1 S1 R1 e1 k1 => ?_
  split at e1
  · rename_i ia hia
    obtain ⟨a, c, dx, vs, w, rfl, hc, h1, h2, h3, h4⟩ := fld_some R1.ok r1 hia
    cases h3.dp.int_eq
    refine ⟨a, _, dx, vs, _, rfl, h1, (hC c hc).1, (hC c hc).2, h2, ?_⟩
    refine bindS R1 e1 k1 fun y H2 ρ2 Hf2 s2 dy t2 r2 S2 R2 e2 k2 => ?_
    split at e2
    · rename_i ib
      obtain ⟨hcl, e2⟩ := ite_some e2
      cases (Dq.dp r2).int_eq
      refine ⟨ia, ib, rfl, rfl, ?_⟩
      obtain ⟨st', e3, rfl⟩ := map_ok e2
      obtain ⟨a', c', dx', vs', n, fs, ea, rfl, hst, hc', g1, g2, R3⟩ := setFld_some (w := .int (gi ia ib)) R2 (Dq.up t2.up r1) (.py (.int _)) e3
      cases ea
      have hcc : c' = c := by
        rw [h4, show clsOf (.obj n) s2 = some c' by simp [clsOf, hst]] at hcl
        exact (Option.some.inj hcl).symm
      subst hcc
      exact ⟨dx', vs', g1, g2, k2 σ _ ρ2 Hf2 .refl R3⟩
    · cases e2
  · cases e1
def sRaise (c : Str) : FS := fun env st => some (.exc c env st)
structure Err (K : PySem.W.Frag) (mg : Str → Option Value) (c : Str) : Prop where
  g : mg c = some (.ref (He.ga K c))
  x : PySem.W.excIn K (He.ga K c) He.veBase "ValueError.__new__" = true ∧ PySem.W.keepIn K (.ref (He.ga K c)) = true ∧ PySem.W.subIn K (.ref (He.ga K c)) (.type "BaseException") = some true ∧ PySem.W.typeIn K (.ref (He.ga K c)) = some (.type "type")
theorem s_raise {c mm : Str} {jj : Nat} {p2 cpos : Pos} (E : Err X.K X.mg c) (hc : X.calm = true) (tk : L2N.Takes X W) (hg : Gl X c := by rfl) (hdb : (c == ("__debug__" : Str)) = false := by decide) :
    PS X (.Raise (some (.Call (.Name c p) [.Constant (.str mm) jj p2] [] cpos)) none pos) (tS X.K W (sRaise c)) :=
  ps_le (L2N.ps_raise hc tk (L2N.pmk_own PySem.F.excBase_ValueError E.x.1 E.g E.x.2.1 (raises_own E.x.2.2.1 E.x.2.2.2) hg hdb)) fun N σ H ⟨Z, ρ, Hf, env, st, o, R, hf, k⟩ => by
    cases hf
    exact k σ H ρ Hf .refl R
/-- what is not reached -/
def sNo : FS := fun _ _ => none
end
end Ob

namespace Ob
open PySem PySem.Spec PyProof.Rows L2 Fi
def tys : List String := ["NoneType", "bool", "int", "str", "list", "tuple"]
structure IsC (K : PySem.W.Frag) (mg : Str → Option Value) (C : Str) (T : List (Str × Bool)) : Prop where
  g : mg C = some (.ref (He.ga K C))
  own : ∀ p ∈ T, Cls K (He.ga K p.1) ∧ PySem.W.findIn K (.ref (He.ga K p.1)) "__class__" = some (some (.builtin "object.__class__")) ∧ PySem.W.mroIn K (He.ga K p.1) (.type "object") = some true ∧ PySem.W.kitOne K (.ref (He.ga K p.1)) (.ref (He.ga K C)) = some p.2
  cg : PySem.W.specialIn K (.builtin "object.__class__") "__get__" = some (some (.builtin "getset_descriptor.__get__"))
  tk : PySem.W.takesIn K (.builtin "object.__class__") = some true
  ty : ∀ t ∈ tys, PySem.W.kitOne K (.type t) (.ref (He.ga K C)) = some false
def isC (T : List (Str × Bool)) : D → Stor → Option Bool := fun d st => match d with
  | .py p => if tyD p ∈ tys then some false else none
  | .tup _ => some false
  | .lst _ => some false
  | .obj n => match st[n]? with
    | some (.ins c _) => T.lookup c
    | some (.lst _) => some false
    | _ => none
  | .cls _ => none
def eIsC (T : List (Str × Bool)) (f : F D) : F D := bnd f fun d _ st => (isC T d st).map fun b => .ok (.py (.bool b)) st
theorem tyX_L {K : PySem.W.Frag} {H : Hp} {a : Addr} {xs : List V} (hs : SqL K H a xs) : TyX K H (.ref a) (.type "list") := by
  rcases hs with h | ⟨o, its, n, hk, hc, _⟩
  · rcases h with h | ⟨o, h⟩
    · exact .base (.lst h)
    · exact .base (.frz h)
  · exact .kList hk hc
theorem tyX_T {K : PySem.W.Frag} {H : Hp} {a : Addr} {xs : List V} (hs : SqT K H a xs) : TyX K H (.ref a) (.type "tuple") := by
  rcases hs with h | ⟨o, its, n, hk, hc, _⟩
  · rcases h with h | ⟨o, h⟩
    · exact .base (.tup h)
    · exact .fTuple h
  · exact .kTuple hk hc
theorem isC_ok {K : PySem.W.Frag} {mg : Str → Option Value} {C : Str} {T : List (Str × Bool)} {ρ : List Addr} {Hf H : Hp} {st : Stor} {v : V} {d : D} {b : Bool} (c : IsC K mg C T) (S : StOk K ρ Hf H st) (h : Dq K Hf ρ v d) (e : isC T d st = some b) :
    ∃ t, TyX K H v t ∧ PySem.W.kitOne K t (.ref (He.ga K C)) = some b := by
  cases h with
  | py h =>
    obtain ⟨h1, h2⟩ := if_some (show (if tyD _ ∈ tys then some false else none) = some b from e)
    subst h2
    exact ⟨_, tyX_of (Dp_up S.i h), c.ty _ h1⟩
  | tup h t =>
    cases e
    exact ⟨_, tyX_T (sqT_up S.i h), c.ty _ (by decide)⟩
  | lst h t =>
    cases e
    exact ⟨_, tyX_L (S.i.seq h), c.ty _ (by decide)⟩
  | @obj a n ha =>
    have e' : (match st[n]? with
      | some (.ins c _) => T.lookup c
      | some (.lst _) => some false
      | _ => none) = some b := e
    cases q : st[n]? with
    | none => rw [q] at e'; cases e'
    | some o =>
      rw [q] at e'
      cases o with
      | tab q => cases e'
      | dct q => cases e'
      | lst l =>
        cases e'
        obtain ⟨vs, h1, _⟩ := S.ob n _ _ ha q
        exact ⟨_, .base (.lst h1), c.ty _ (by decide)⟩
      | ins cc fs =>
        obtain ⟨dx, vs, h1, _⟩ := S.ob n _ _ ha q
        obtain ⟨a1, a2, a3, a4⟩ := c.own _ (lookup_mem e')
        exact ⟨_, .base (.ins h1 a1 a2 c.cg c.tk a3), a4⟩
  | cls => cases e
section
variable {X : Cx} {W : WX} {j k n : Nat} {x m : Str} {p p2 pos apos : Pos} {e o : Expr} {es : List Expr} {f : F D}
theorem x_isC {C : Str} {T : List (Str × Bool)} (c : IsC X.K X.mg C T) (hg : Gl X "isinstance") (hm : X.mg "isinstance" = none) (he : PE X e (tE X.K W f)) (hg2 : Gl X C := by rfl) (hdb2 : (C == ("__debug__" : Str)) = false := by decide)
    (hs : starEach [e, .Name C p2] X.env = (false, eval e X.env) :: starEach [.Name C p2] X.env := by rfl) (hs2 : starEach [.Name C p2] X.env = (false, eval (.Name C p2) X.env) :: starEach [] X.env := by rfl) (hpl : (backTo pos (starEach [.Name C p2] X.env)).any (·.1) = false := by rfl) :
    PE X (.Call (.Name "isinstance" p) [e, .Name C p2] [] pos) (tE X.K W (eIsC T f)) := by
  have ht : PE X (.Name C p2) (tC (.ref (He.ga X.K C))) := ⟨fun _ _ _ H _ I h => ld_glob I hg2 c.g ⟨.ref _, H, I, rfl, h⟩ hdb2⟩
  refine pe_le (pe_callB call_isi hg hm boot_isinstance (pa_cons he (pa_cons ht pa_nil hs2) hs) (by decide) (by decide) hs hpl) fun σ H Q ⟨Z, ρ, Hf, env, st, o, R, e, k⟩ => ?_
  refine bind_at bE R e k fun v H1 ρ1 Hf1 s1 d t1 r1 R1 e1 k1 => ?_
  obtain ⟨b, e2, rfl⟩ := map_ok e1
  obtain ⟨t, h1, h2⟩ := isC_ok c R1.ok r1 e2
  exact ⟨v, _, t, _, b, rfl, .own _, h1, h2, k1.now R1 (.py (.bl b))⟩
structure ClsC (K : PySem.W.Frag) (mg : Str → Option Value) (C m : Str) (i : Int) : Prop where
  g : mg C = some (.ref (He.ga K C))
  ex : ∃ mc u, ClX.CRead K (He.ga K C) mc ∧ ClX.CVal K (He.ga K C) mc m (.int i) u
theorem x_cval {C : Str} {i : Int} (c : ClsC X.K X.mg C m i) (hg : Gl X C := by rfl) (hdb : (C == ("__debug__" : Str)) = false := by decide) (hb : attributeBase (.Name C p) m X.env (eval (.Name C p) X.env) = eval (.Name C p) X.env := by rfl) :
    PE X (.Attribute (.Name C p) m pos) (Fi.tE X.K (Fi.eC (.int i))) := by
  obtain ⟨mc, u, h1, h2⟩ := c.ex
  have ht : PE X (.Name C p) (tC (.ref (He.ga X.K C))) := ⟨fun _ _ _ H _ I h => ld_glob I hg c.g ⟨.ref _, H, I, rfl, h⟩ hdb⟩
  refine pe_le (ClX.pe_cval ht hb) fun σ H Q ⟨Z, Hf, env, d, R, hf, k⟩ => ?_
  cases hf
  exact ⟨_, mc, .int i, u, rfl, h1, h2, k _ H Hf (.refl R.st.i) (.int i)⟩
/-- C.m is a static method whose def is a function on data -/
structure Stat (P : Program) (w : World) (K : PySem.W.Frag) (mg : Str → Option Value) (base : Heap) (k : Nat) (C m : Str) (n : Nat) (G : List PyData → Option Fi.Sl) : Prop where
  g : mg C = some (.ref (He.ga K C))
  ex : ∃ (mc : Value) (p f : Addr) (rest : List Value) (fd : FuncData) (ps : List Str), ClX.CRead K (He.ga K C) mc ∧ PySem.W.findCls K (.ref (He.ga K C)) mc m = some (.get (.builtin "staticmethod.__get__") (.ref p) .none (.ref (He.ga K C))) ∧ PySem.W.recIn K p "staticmethod" = some (.ref f :: rest) ∧
    FnOk P w K mg base CX0 k f fd ps (spD K n G) ∧ PySem.W.keepIn K (.ref f) = true ∧ Binds K fd ps []
theorem stat_get {mc : Value} {C p f : Addr} {rest : List Value} {pins : List (Addr × Obj)} {σ : L2.St} {H : Hp} {s : Shared} {pl : Sem Bool} {A : Around} {E : Value → Shared → Prop} {Q : Value × List Value → Shared → Prop} (I : Inv X pins σ H s) (r : ClX.CRead X.K C mc)
    (e : PySem.W.findCls X.K (.ref C) mc m = some (.get (.builtin "staticmethod.__get__") (.ref p) .none (.ref C))) (hp : PySem.W.recIn X.K p "staticmethod" = some (.ref f :: rest)) (h : ∀ s', Inv X pins σ H s' → Q (.ref f, []) s') : wpAny (model X.prog X.w) A (getMethod (.ref C) m pl) Q E s :=
  PySem.W.method_cls I.kIn r.ga (PySem.W.cls_bind I.kIn r.rd e (wpAny_call (PySem.W.sm_get (s := { s with toks := s.toks + 1 }) I.kIn hp (PySem.W.handed_on rfl (h _ (I.tok _))))))
theorem x_stat {C : Str} {G : List PyData → Option Fi.Sl} {r : FL} {pl : Sem Bool} (c : Stat X.prog X.w X.K X.mg X.base j C m (es.length + 1) G) (hr : Room k X.A) (ha : PA X (e :: es) (Fi.tA X.K r)) (hln : ∀ env ds, r env = some ds → ds.length = es.length + 1) (hg : Gl X C := by rfl) (hjk : j ≤ k := by decide) (hdb : (C == ("__debug__" : Str)) = false := by decide)
    (hst : starEach (e :: es) X.env = (false, eval e X.env) :: starEach es X.env := by rfl) (hpl : (backTo pos (starEach es X.env)).any (·.1) = false := by rfl)
    (ht : eval (.Call (.Attribute (.Name C p) m apos) (e :: es) [] pos) X.env = (do
      let ov ← eval (.Name C p) X.env
      standAt apos.atName
      let (f, first) ← holding [ov] (getMethod ov m pl)
      callWith pos f first (backTo pos (starEach (e :: es) X.env)) (backToKw pos (keywordEach [] X.env))) := by rfl) :
    PE X (.Call (.Attribute (.Name C p) m apos) (e :: es) [] pos) (Fi.tE X.K (eCallF G r)) := by
  obtain ⟨mc, pp, f, rest, fd, ps, h1, h2, h3, h4, h5, h6⟩ := c.ex
  refine ⟨fun pins s σ H Q I ⟨Z, Hf, env, d, R, hf, k⟩ => ?_⟩
  have hn : PE X (.Name C p) (tC (.ref (He.ga X.K C))) := ⟨fun _ _ _ H _ I h => ld_glob I hg c.g ⟨.ref _, H, I, rfl, h⟩ hdb⟩
  refine PySem.W.methodCall_KW (pl := pl) (thn (hn.run pins s σ H (fun x H1 => x = .ref (He.ga X.K C) ∧ H1 = H) I ⟨rfl, rfl⟩) fun u s1 ⟨x, H1, I1, rx, ex, eH⟩ => ?_) ht
  subst ex eH
  obtain rfl : u = Value.ref (He.ga X.K C) := rx
  refine stat_get I1 h1 h2 h3 fun s2 I2 => ?_
  obtain ⟨ds, hr1, hf⟩ := Option_bind_some hf
  have hq : Fi.tA X.K r σ H1 (fun vs H2 => spD X.K (es.length + 1) G (vs ++ []) H2 Q (fun _ _ _ => False)) := by
    refine ⟨Z, Hf, env, ds, R, hr1, fun vs H2 Hf2 s2 d2 => ?_⟩
    show spD X.K (es.length + 1) G (vs ++ []) H2 Q (fun _ _ _ => False)
    rw [List.append_nil]
    split at hf
    · rename_i dd q
      cases hf
      exact ⟨d2.len.trans (hln env ds hr1), Hf2, ds, _, s2.i, d2, q, fun v H' Hf' s3 d3 => k v H' Hf' (s2.trans s3) d3⟩
    · rename_i l q
      cases hf
      refine ⟨d2.len.trans (hln env ds hr1), Hf2, ds, _, s2.i, d2, q, fun p vs H' Hf' s3 n1 n2 n3 d3 => ?_⟩
      exact k _ H' (upd Hf' p (.lst vs)) (s2.trans (s3.show n1 n2 n3)) (.lst (SqL.of upd_same) (DpAll_up (same_new n2) d3))
    · cases hf
  refine PySem.W.callWith_K (first := []) (h₀ := X.base) I.ok.mod.kin h5 (thn (ha.run pos pins s2 σ H1 _ I2 hq) fun us s3 ⟨vs, H2, I3, rv, q2⟩ => ⟨I3.kIn, ?_⟩) hst hpl
  exact run_fn h4 (hr.mono hjk) h6 .nil (fun _ _ _ _ _ _ _ z => False.elim z) I3 rv q2
end
end Ob

namespace Ob
open PySem PySem.Spec PyProof.Rows L2 Fi
abbrev wpC {α : Type} (X : Cx) (c : Code) (t : Sem α) (Q : α → Shared → Prop) (s : Shared) : Prop := _root_.PySem.wpAt (model X.prog X.w) X.A c t Q X.xe s
structure PEA (X : Cx) (c : Code) (e : Expr) (t : TE) : Prop where
  run : ∀ (pins : List (Addr × Obj)) (s : Shared) (σ : L2.St) (H : Hp) (Q : VK), Inv X pins σ H s → t σ H Q → wpC X c (eval e X.env) (EP X pins σ Q) s
structure PAA (X : Cx) (c : Code) (es : List Expr) (t : TA) : Prop where
  run : ∀ (pos : Pos) (pins : List (Addr × Obj)) (s : Shared) (σ : L2.St) (H : Hp) (Q : List V → Hp → Prop), Inv X pins σ H s → t σ H Q → wpC X c (spliced (backTo pos (starEach es X.env))) (AP X pins σ Q) s
structure PSA (X : Cx) (c : Code) (st : Stmt) (t : TS) : Prop where
  run : ∀ (pins : List (Addr × Obj)) (s : Shared) (σ : L2.St) (H : Hp) (D : Ends), Inv X pins σ H s → t D σ H → wpC X c (exec st X.env) (SP X pins D) s
structure PSsA (X : Cx) (c : Code) (st : List Stmt) (t : TS) : Prop where
  run : ∀ (pins : List (Addr × Obj)) (s : Shared) (σ : L2.St) (H : Hp) (D : Ends), Inv X pins σ H s → t D σ H → wpC X c (execs st X.env) (SP X pins D) s
section
variable {X : Cx} {c : Code} {W : WX} {e a b : Expr} {es : List Expr} {pos apos : Pos} {st : Stmt} {rest : List Stmt} {t u : TS} {te ta tb : TE} {tq : TA}
end
end Ob

namespace Ob
open PySem PySem.Spec PyProof.Rows L2 Fi
section
variable {X : Cx} {c : Code} {W : WX} {e a b : Expr} {es : List Expr} {pos apos : Pos} {te : TE} {tq : TA}
end
/-- the def that runs closes over the class at D; its first parameter is slot 0 -/
structure SupX (X : Cx) (Dc : Addr) : Prop where
  ks : X.env.kindOf "super" = some .globalImplicit
  kc : X.env.kindOf "__class__" = some .free
  fn : ∃ (f : Addr) (oc : Value) (od : Option Addr) (fd : FuncData) (osl : Array (Option Value)) (ar : Arg), X.env.func = some f ∧ X.K.lookup f = some ⟨oc, od, .func fd, osl⟩ ∧ (fd.params.posonlyargs ++ fd.params.args).head? = some ar ∧ X.N[0]? = some ar.arg ∧ X.env.scope.names.lookup ar.arg = some .local
  cd : ∃ (cda : Addr) (ccl : Value) (cdd : Option Addr) (vs : Array Value) (ccs : Array (Option Value)) (file : Str) (tf : Tok), X.env.code = .ref cda ∧ X.K.lookup cda = some ⟨ccl, cdd, .fields vs, ccs⟩ ∧ vs[2]? = some (.str file tf) ∧ ((X.prog.main.file : Str) == file) = true
  top : (X.prog.main.scope.names.lookup ("super" : Str)).isSome = false
  cell : ∃ (cc : Addr) (cl : Value) (cld : Option Addr) (csl : Array (Option Value)), X.env.cells.lookup ("__class__" : Str) = some cc ∧ X.K.lookup cc = some ⟨cl, cld, .cell (some (.ref Dc)), csl⟩
  cls : ∃ cdD, PySem.W.clsIn X.K Dc = some cdD
  sup : X.mg "super" = none
  opq : PySem.W.nsIn X.K cStatics "thirdparty.any" = some none
section
variable {X : Cx} {body : List Stmt} {pins : List (Addr × Obj)} {σ : L2.St} {H : Hp} {s : Shared} {Dc C dx x : Addr} {vs : List (Str × V)} {m : Str} {p0 p1 : Pos} {whole : Sem Value}
end
/-- what super().m is for an object of the class c -/
structure SupM (P : Program) (w : World) (K : PySem.W.Frag) (mg : Str → Option Value) (base : Heap) (k : Nat) (Dc : Addr) (m : Str) (n : Nat) (c : Str) (G : Fn) : Prop where
  sub : PySem.W.mroIn K (He.ga K c) (.ref Dc) = some true
  ex : ∃ f2, PySem.W.ks_superIn K (He.ga K c) Dc m = some (some (.ref f2)) ∧ PySem.W.typeIn K (.ref f2) = some (.type "function") ∧ PySem.W.fnIn K f2 = true ∧ Cal P w K mg base k f2 (spO K (n + 1) G)
def SupMs (P : Program) (w : World) (K : PySem.W.Frag) (mg : Str → Option Value) (base : Heap) (k : Nat) (Dc : Addr) (m : Str) (n : Nat) (T : Tab) : Prop := ∀ p ∈ T, SupM P w K mg base k Dc m n p.1 p.2
def eSup (T : Tab) (n : Nat) (r : F (List D)) : F D := fun (env : En) (st : Stor) => match env[0]? with
  | some (some (Sl.val d)) => match pickP T d st with
    | some G => bnd r (fun ds _ st => if ds.length = n then goE G (d :: ds) st else none) env st
    | none => none
  | _ => none
def eSup0 (T : Tab) : F D := fun (env : En) (st : Stor) => match env[0]? with
  | some (some (Sl.val d)) => match pickP T d st with
    | some G => goE G [d] st
    | none => none
  | _ => none
section
variable {X : Cx} {W : WX} {body : List Stmt} {Dc : Addr} {T : Tab} {m : Str} {n j k : Nat} {p0 p1 apos pos : Pos} {e : Expr} {es : List Expr} {r : F (List D)}
end
end Ob

namespace Ob
open PySem PySem.Spec PyProof.Rows L2 Fi
section
variable {X : Cx} {c : Code} {W : WX} {e a b : Expr} {es : List Expr} {pos : Pos} {f g h : F D} {r : F (List D)} {p : F Bool} {s1 : Stmt} {rest : List Stmt} {u v : FS}
end
theorem fin_takes {P : Program} {w : World} {K : PySem.W.Frag} {mg : Str → Option Value} {base : Heap} {N : List Str} {qual : Str} {scope : Scope} {f : Addr} {cdv : Value} {A : Around} {outer : List Env} {s : Shared} {H : Hp} {E : XK} :
    L2N.Takes (cxOf (L2N.CX P w) P w K mg base N qual scope f cdv A outer s H E) (fun cls d _ H => E cls d H) := L2N.takes_of rfl rfl rfl rfl
theorem fin_passes {P : Program} {w : World} {K : PySem.W.Frag} {mg : Str → Option Value} {base : Heap} {N : List Str} {qual : Str} {scope : Scope} {f : Addr} {cdv : Value} {A : Around} {outer : List Env} {s : Shared} {H : Hp} {E : XK} :
    PassesOwn (model P w) (cxOf (L2N.CX P w) P w K mg base N qual scope f cdv A outer s H E).A (cxOf (L2N.CX P w) P w K mg base N qual scope f cdv A outer s H E).env (cxOf (L2N.CX P w) P w K mg base N qual scope f cdv A outer s H E).xe := passes_of (X := cxOf (L2N.CX P w) P w K mg base N qual scope f cdv A outer s H E) rfl
/-- a def by its body -/
theorem def_ok {P : Program} {w : World} {K : PySem.W.Frag} {mg : Str → Option Value} {base : Heap} {x qual : Str} {params : Arguments} {body : List Stmt} {scope : Scope} {dvs : List V} {kws : List (Str × V)} {f : Addr} {fd : FuncData} {N ps : List Str} {b : FS} {n np k : Nat}
    (hF : FunD K x qual params body scope dvs kws f fd) (S : FnScope N ps scope) (hn : N.length = n) (hp : ps.length = np)
    (hb : ∀ (cdv : Value) (A : Around) (outer : List Env) (s : Shared) (H : Hp) (E : XK), Room k (A.deeper (envOfC qual scope s.heap.objs.size f cdv)) → L2N.Takes (cxOf (L2N.CX P w) P w K mg base N qual scope f cdv A outer s H E) (fun cls d _ H => E cls d H) →
      PSs (cxOf (L2N.CX P w) P w K mg base N qual scope f cdv A outer s H E) body (tS K (fun cls d _ H => E cls d H) b)) :
    FnOk P w K mg base (L2N.CX P w) (k + 1) f fd ps (spO K np (fnO n b)) := by
  refine hF.ok S (fun vs H Q E h => ?_) (fun cdv A outer s H vs Q E hr h => ?_)
  · rw [h.1, hp]
  · exact ⟨_, hb cdv A outer s H E hr fin_takes, body_ok (X := cxOf (L2N.CX P w) P w K mg base N qual scope f cdv A outer s H E) (sts := body) hn h⟩
structure ScS (N ps : List Str) (sc : Scope) : Prop where
  kind : sc.kind = .function
  co : sc.isCoroutine = false
  gen : sc.isGenerator = false
  nd : N.Nodup
  pre : N.take ps.length = ps
  par : ∀ x ∈ ps, sc.names.lookup x = some .local
  nocell : ∀ x ∈ sc.names, x.2 ≠ .cell
  free : ∀ x ∈ sc.names, x.2 = .free → x.1 = "__class__"
def cxS (P : Program) (w : World) (K : PySem.W.Frag) (mg : Str → Option Value) (base : Heap) (N : List Str) (qual : Str) (scope : Scope) (f : Addr) (cd : Value) (cc : Addr) (A : Around) (outer : List Env) (s : Shared) (H : Hp) (E : XK) : Cx where
  prog := P
  w := w
  K := K
  mg := mg
  base := base
  A := A.deeper (PySem.W.ksEnv qual scope s.heap.objs.size f cd cc)
  N := N
  s_0 := s
  H_0 := H
  env := PySem.W.ksEnv qual scope s.heap.objs.size f cd cc
  outer := outer
  stack := PySem.W.ksEnv qual scope s.heap.objs.size f cd cc :: outer
  ex := []
  calm := true
  fn := fun _ => false
  pn := []
  xe := fun e s' => wpAny (model P w) (A.deeper (PySem.W.ksEnv qual scope s.heap.objs.size f cd cc)) (leaving (PySem.W.ksEnv qual scope s.heap.objs.size f cd cc) e) (fun _ s'' => L2N.CX P w outer H s E e s'') (fun e' s'' => L2N.CX P w outer H s E e' s'') s'
end Ob

namespace Ob
open PySem PySem.Spec PyProof.Rows L2 Fi
theorem cxUpN {P : Program} {w : World} : StX.CXUp (L2N.CX P w) := by
  rintro outer s H s2 H2 E e s' un kp ho ⟨a, B, H', cls, d, ea, fl, hok, ub, na, os, ag, he⟩
  refine ⟨a, B, H', cls, d, ea, fl, hok, ⟨fun b o q n hb => ub.keep b o (kp b o q) (un.free b o q n (by simp)) hb, fun b o q hb => ub.slot b o (kp b o q) hb, fun b o q n => ub.free b o (kp b o q) (un.free b o q n (by simp)),
    fun b o q hb => ub.there b o (kp b o q) hb, fun b xs q => ub.tups b xs (un.tups b xs q), fun b o xs q => ub.frzs b o xs (un.frzs b o xs q), fun b ps q => ?_⟩, na, os.trans ho, ag, he⟩
  obtain ⟨m1, e1⟩ := un.tbls b ps q
  obtain ⟨m2, e2⟩ := ub.tbls b _ e1
  exact ⟨m1 ++ m2, by rw [e2, Array.append_assoc]⟩
def fileIn (K : PySem.W.Frag) (cdv : Value) (file : Str) : Bool := match cdv with
  | .ref c => match K.lookup c with
    | some ⟨_, _, .fields vs, _⟩ => (match (vs[2]? : Option Value) with
      | some (Value.str f _) => decide (f = file)
      | _ => false)
    | _ => false
  | _ => false
/-- a def as it stands behind the top, that closes over the class at Dc -/
structure FunS (K : PySem.W.Frag) (file x qual : Str) (params : Arguments) (body : List Stmt) (scope : Scope) (dvs : List V) (kws : List (Str × V)) (Dc f : Addr) (fd : FuncData) : Prop where
  ex : ∃ (oc : Value) (od : Option Addr) (dV kV doc pm : Value) (an : Option Addr) (cdv ct : Value) (osl : Array (Option Value)) (cc : Addr) (cl : Value) (cld : Option Addr) (csl : Array (Option Value)),
    fd = PySem.W.ksFn x qual params body scope dV kV doc pm an cdv ct cc ∧ K.lookup f = some ⟨oc, od, .func fd, osl⟩ ∧ PySem.W.codeIn K cdv qual = true ∧ fileIn K cdv file = true ∧ DflV K dV dvs ∧ KwdV K kV kws ∧ K.lookup cc = some ⟨cl, cld, .cell (some (.ref Dc)), csl⟩
  kp : PySem.W.keepIn K (.ref f) = true
/-- what super() leans on beside -/
structure SupF (P : Program) (K : PySem.W.Frag) (mg : Str → Option Value) (file : Str) (Dc : Addr) : Prop where
  file : (P.main.file : Str) = file
  top : (P.main.scope.names.lookup ("super" : Str)).isSome = false
  cls : ∃ cdD, PySem.W.clsIn K Dc = some cdD
  sup : mg "super" = none
  opq : PySem.W.nsIn K cStatics "thirdparty.any" = some none
section
variable {P : Program} {w : World} {K : PySem.W.Frag} {mg : Str → Option Value} {base : Heap} {file x qual : Str} {params : Arguments} {body : List Stmt} {scope : Scope} {dvs : List V} {kws : List (Str × V)} {Dc f : Addr} {fd : FuncData} {N ps : List Str} {b : FS} {n np k : Nat} {ar : Arg}
/-- what the body's derivation is given -/
abbrev BodyS (P : Program) (w : World) (K : PySem.W.Frag) (mg : Str → Option Value) (base : Heap) (N : List Str) (qual : Str) (scope : Scope) (f Dc : Addr) (body : List Stmt) (k : Nat) (b : FS) : Prop :=
  ∀ (cdv : Value) (cc : Addr) (A : Around) (outer : List Env) (s : Shared) (H : Hp) (E : XK), Room k (A.deeper (PySem.W.ksEnv qual scope s.heap.objs.size f cdv cc)) → L2N.Takes (cxS P w K mg base N qual scope f cdv cc A outer s H E) (fun cls d _ H => E cls d H) → SupX (cxS P w K mg base N qual scope f cdv cc A outer s H E) Dc →
    PSsA (cxS P w K mg base N qual scope f cdv cc A outer s H E) (.func body (cxS P w K mg base N qual scope f cdv cc A outer s H E).env) body (tS K (fun cls d _ H => E cls d H) b)
theorem FunS.bindsN (F : FunS K file x qual params body scope [] kws Dc f fd)
    (h : ∀ (kV doc pm : Value) (an : Option Addr) (cdv ct : Value) (us : List Value), us.length = ps.length → bindArgs (PySem.W.fnOf x qual params body scope .none kV doc pm an cdv ct) ⟨us, []⟩ = pure (ps.zip us)) : Binds K fd ps [] := by
  obtain ⟨oc, od, dV, kV, doc, pm, an, cdv, ct, osl, cc, cl, cld, csl, rfl, lk, hcd, hfl, hD, hK, hc⟩ := F.ex
  rcases hD with ⟨_, rfl⟩ | ⟨e, _⟩
  · exact .all (h kV doc pm an cdv ct)
  · exact absurd rfl e
end
end Ob

namespace Ob
open PySem PySem.Spec PyProof.Rows L2 Fi
abbrev dctO (es : Array DictEntry) (n : Nat) : Obj := { cls := .type "dict", data := .dict es n }
section
variable {M : Model} {A : Around} {E : Value → Shared → Prop} {h : Heap} {g : Array GenState} {d : Drawn} {t : Nat} {os : OsState}
section
variable {x : Sem Value} {m : Addr}
/-- what x is: a look at m -/
abbrev LooksAt (M : Model) (A : Around) (h : Heap) (g : Array GenState) (d : Drawn) (os : OsState) (x : Sem Value) (m : Addr) : Prop :=
  ∀ (h' : Heap) (t' : Nat), (∀ b o, h.get? b = some o → h'.get? b = some o) → ∀ (Q : Value → Shared → Prop) (E : Value → Shared → Prop), (∀ t'', Q (.ref m) ⟨h', g, d, t'', os⟩) → wpAny M A x Q E ⟨h', g, d, t', os⟩
end
end
end Ob

namespace Ob
open PySem PySem.Spec PyProof.Rows L2 Fi
def atomV : PyData → Option V
  | .none => some .non
  | .bool b => some (.bl b)
  | .int i => some (.int i)
  | .str x => some (.str x)
  | _ => none
/-- what more holds: nothing, or the floor -/
inductive Mr where
  | no
  | fl (p : PyData)
def Mr.list : Mr → List D
  | .no => []
  | .fl p => [.py p]
def Mr.vs (m : Mr) (vs : List V) : Prop := match m with
  | .no => vs = []
  | .fl p => ∃ z, atomV p = some z ∧ vs = [z]
def Mr.ks : Mr → List Str
  | .no => []
  | .fl _ => ["floor"]
/-- the dict of more -/
def MrO (m : Mr) (ws : List Value) (o : Obj) : Prop := match m with
  | .no => ws = [] ∧ ∃ n, o = dctO #[] n
  | .fl _ => ∃ v hs tk n, ws = [v] ∧ o = dctO #[⟨hs, .str "floor" tk, v⟩] n
def eSupK (T : Tab) (n : Nat) (mr : Mr) (r : F (List D)) : F D := fun (env : En) (st : Stor) => match env[0]? with
  | some (some (Sl.val d)) => match pickP T d st with
    | some G => bnd r (fun ds _ st => if ds.length = n then goE G (d :: (ds ++ mr.list)) st else none) env st
    | none => none
  | _ => none
structure SupMK (P : Program) (w : World) (K : PySem.W.Frag) (mg : Str → Option Value) (base : Heap) (k : Nat) (Dc : Addr) (m : Str) (n : Nat) (mr : Mr) (c : Str) (G : Fn) : Prop where
  sub : PySem.W.mroIn K (He.ga K c) (.ref Dc) = some true
  ex : ∃ f2, PySem.W.ks_superIn K (He.ga K c) Dc m = some (some (.ref f2)) ∧ PySem.W.typeIn K (.ref f2) = some (.type "function") ∧ PySem.W.fnIn K f2 = true ∧ CalK P w K mg base k f2 (n + 1) mr.ks (spO K (n + mr.list.length + 1) G)
def SupMKs (P : Program) (w : World) (K : PySem.W.Frag) (mg : Str → Option Value) (base : Heap) (k : Nat) (Dc : Addr) (m : Str) (n : Nat) (mr : Mr) (T : Tab) : Prop := ∀ p ∈ T, SupMK P w K mg base k Dc m n mr p.1 p.2
section
variable {X : Cx} {W : WX} {body : List Stmt} {Dc md : Addr} {mo : Obj} {T : Tab} {m : Str} {n j k i : Nat} {p0 p1 apos pos mp kp : Pos} {e : Expr} {es : List Expr} {r : F (List D)} {mr : Mr} {ws : List Value} {zs : List V}
end
end Ob

namespace Ob
open PySem PySem.Spec PyProof.Rows L2 Fi
structure ParM (p : Arguments) : Prop where
  po : p.posonlyargs = []
  ar : p.args.map (·.arg) = (["self", "name", "cap", "level"] : List Str)
  ko : p.kwonlyargs = []
  va : p.vararg = none
  ka : ∃ a, p.kwarg = some a ∧ a.arg = "more"
section
variable {M : Model} {A : Around} {E : Value → Shared → Prop} {h : Heap} {g : Array GenState} {d : Drawn} {t : Nat} {os : OsState}
end
section
variable {X : Cx} {c : Code} {W : WX} {e : Expr} {pos : Pos} {h : F D} {s1 : Stmt} {rest : List Stmt} {u v : FS} {C : L2.St → Prop}
end
abbrev psM : List Str := ["self", "name", "cap", "level", "more"]
/-- what the body's derivation is given -/
abbrev BodyM (P : Program) (w : World) (K : PySem.W.Frag) (mg : Str → Option Value) (base : Heap) (qual : Str) (scope : Scope) (f Dc : Addr) (body : List Stmt) (k : Nat) (mr : Mr) (b : FS) : Prop :=
  ∀ (cdv : Value) (cc : Addr) (A : Around) (outer : List Env) (s : Shared) (H : Hp) (E : XK) (md : Addr) (mo : Obj) (xe : Value → Shared → Prop) (ws : List Value) (zs : List V), Room k (A.deeper (PySem.W.ksEnv qual scope s.heap.objs.size f cdv cc)) →
    L2N.Takes ((cxS P w K mg base psM qual scope f cdv cc A outer s H E).tr [(md, mo)] xe) (fun cls d _ H => E cls d H) → SupX ((cxS P w K mg base psM qual scope f cdv cc A outer s H E).tr [(md, mo)] xe) Dc → MrO mr ws mo → mr.vs zs → Vals zs ws → (md == sysModules) = false →
    PSsA ((cxS P w K mg base psM qual scope f cdv cc A outer s H E).tr [(md, mo)] xe) (.func body (cxS P w K mg base psM qual scope f cdv cc A outer s H E).env) body (fun N σ H => σ[4]? = some (some (.ref md)) ∧ tS K (fun cls d _ H => E cls d H) b N σ H)
section
variable {P : Program} {w : World} {K : PySem.W.Frag} {mg : Str → Option Value} {base : Heap} {file x qual : Str} {params : Arguments} {body : List Stmt} {scope : Scope} {kws : List (Str × V)} {Dc f : Addr} {fd : FuncData} {b : FS} {k : Nat} {mr : Mr}
def fnK (b : Mr → FS) : Fn := fun ds st => match ds with
  | [a, b', c, d, .py p] => if (atomV p).isSome then fnO 5 (b (.fl p)) [a, b', c, d] st else none
  | _ => none
end
end Ob

namespace Ob
open PySem PySem.Spec PyProof.Rows L2 Fi
inductive Lo where
  | g (x : Str) | m (c x : Str) | p (c x : Str) | ps (c x : Str) | s (c x : Str) | k (c x : Str)
def refOf : Option Value → Addr
  | some (.ref a) => a
  | _ => 0
def recAt (K : PySem.W.Frag) (p : Addr) (T : String) (i : Nat) : Addr := match PySem.W.recIn K p T with
  | some l => refOf (l[i]?)
  | none => 0
def Lo.ad (K : PySem.W.Frag) : Lo → Addr
  | .g x => He.ga K x
  | .m c x => He.ma K (He.ga K c) x
  | .p c x => recAt K (He.ma K (He.ga K c) x) "property" 0
  | .ps c x => recAt K (He.ma K (He.ga K c) x) "property" 1
  | .s c x => recAt K (He.ma K (He.ga K c) x) "staticmethod" 0
  | .k c x => recAt K (He.ma K (He.ga K c) x) "classmethod" 0
inductive Ck where
  | fa (f : He.Fa)
  | prop (c m : Str)
  | isc (c C : Str) (b : Bool)
  | ist (C : Str)
  | obc
  | cst
  | cval (C m : Str) (i : Int)
  | stat (C m : Str)
  | sup (c D m : Str)
  | exm (x y : Str) (b : Bool)
  | bo (f : PySem.W.Frag → Bool)
def mcOf (K : PySem.W.Frag) (C : Addr) : Value := (PySem.W.typeIn K (.ref C)).getD .none
def isRef : Option (Option Value) → Bool
  | some (some (.ref _)) => true
  | _ => false
def isRefs : Option (List Value) → Bool
  | some (.ref _ :: _) => true
  | _ => false
def cvB (K : PySem.W.Frag) (C : Addr) (mc : Value) (m : Str) (i : Int) : Bool := match PySem.W.findCls K (.ref C) mc m with
  | some (.val (.int j _)) => decide (j = i)
  | _ => false
def smB (K : PySem.W.Frag) (C : Addr) (mc : Value) (m : Str) : Bool := match PySem.W.findCls K (.ref C) mc m with
  | some (.get (.builtin g) (.ref p) .none (.ref C')) => decide (g = "staticmethod.__get__") && (decide (p = He.ma K C m) && decide (C' = C))
  | _ => false
def readB (K : PySem.W.Frag) (C : Addr) (mc : Value) : Bool := PySem.W.readsIn K C mc && decide (PySem.W.specialIn K (.ref C) "__getattribute__" = some (some (.builtin "type.__getattribute__")))
def Ck.ok (K : PySem.W.Frag) : Ck → Bool
  | .fa f => f.ok K
  | .prop c m => isRef (PySem.W.findIn K (.ref (He.ga K c)) m) && (decide (PySem.W.specialIn K (.ref (He.ma K (He.ga K c) m)) "__get__" = some (some (.builtin "property.__get__"))) && (decide (PySem.W.takesIn K (.ref (He.ma K (He.ga K c) m)) = some true) && isRefs (PySem.W.recIn K (He.ma K (He.ga K c) m) "property")))
  | .isc c C b => decide (PySem.W.findIn K (.ref (He.ga K c)) "__class__" = some (some (.builtin "object.__class__"))) && (decide (PySem.W.mroIn K (He.ga K c) (.type "object") = some true) && decide (PySem.W.kitOne K (.ref (He.ga K c)) (.ref (He.ga K C)) = some b))
  | .ist C => tys.all fun t => decide (PySem.W.kitOne K (.type t) (.ref (He.ga K C)) = some false)
  | .obc => decide (PySem.W.specialIn K (.builtin "object.__class__") "__get__" = some (some (.builtin "getset_descriptor.__get__"))) && decide (PySem.W.takesIn K (.builtin "object.__class__") = some true)
  | .cst => decide (PySem.W.nsIn K cStatics "thirdparty.any" = some none)
  | .cval C m i => readB K (He.ga K C) (mcOf K (He.ga K C)) && cvB K (He.ga K C) (mcOf K (He.ga K C)) m i
  | .stat C m => readB K (He.ga K C) (mcOf K (He.ga K C)) && (smB K (He.ga K C) (mcOf K (He.ga K C)) m && isRefs (PySem.W.recIn K (He.ma K (He.ga K C) m) "staticmethod"))
  | .sup c D m => decide (PySem.W.mroIn K (He.ga K c) (.ref (He.ga K D)) = some true) && (isRef (PySem.W.ks_superIn K (He.ga K c) (He.ga K D) m) && (decide (PySem.W.typeIn K (.ref (refOf ((PySem.W.ks_superIn K (He.ga K c) (He.ga K D) m).getD none))) = some (.type "function")) && (PySem.W.fnIn K (refOf ((PySem.W.ks_superIn K (He.ga K c) (He.ga K D) m).getD none)) && (PySem.W.clsIn K (He.ga K D)).isSome)))
  | .exm x y b => decide (PySem.W.exmOne K (.ref (He.ga K x)) (.ref (He.ga K y)) = some b)
  | .bo f => f K
section
variable {K : PySem.W.Frag}
theorem ma_of {C : Addr} {m : Str} (h : isRef (PySem.W.findIn K (.ref C) m) = true) : PySem.W.findIn K (.ref C) m = some (some (.ref (He.ma K C m))) := by
  unfold isRef at h
  unfold He.ma
  split at h
  · rename_i a q
    rw [q]
  · cases h
theorem isRefs_ok {p : Addr} {T : String} (h : isRefs (PySem.W.recIn K p T) = true) : ∃ rest, PySem.W.recIn K p T = some (.ref (recAt K p T 0) :: rest) := by
  unfold isRefs at h
  unfold recAt
  split at h
  · rename_i a r q
    rw [q]
    exact ⟨r, rfl⟩
  · cases h
theorem prop_of {c m : Str} (h : (Ck.prop c m).ok K = true) : PropOf K (He.ga K c) m (He.ma K (He.ga K c) m) (Lo.ad K (.p c m)) := by
  obtain ⟨h1, h⟩ := He.ba h
  obtain ⟨h2, h⟩ := He.ba h
  obtain ⟨h3, h4⟩ := He.ba h
  exact ⟨ma_of h1, of_decide_eq_true h2, of_decide_eq_true h3, isRefs_ok h4⟩
theorem read_of {C : Addr} {mc : Value} (h : readB K C mc = true) : ClX.CRead K C mc := by
  obtain ⟨h1, h2⟩ := He.ba h
  exact ⟨h1, of_decide_eq_true h2⟩
theorem cval_of {C m : Str} {i : Int} {mg : Str → Option Value} (h : (Ck.cval C m i).ok K = true) (g : mg C = some (.ref (He.ga K C))) : ClsC K mg C m i := by
  obtain ⟨h1, h2⟩ := He.ba h
  refine ⟨g, mcOf K (He.ga K C), ?_⟩
  unfold cvB at h2
  split at h2
  · rename_i j t q
    exact ⟨.int j t, read_of h1, q, t, by rw [of_decide_eq_true h2]⟩
  · cases h2
theorem stat_of {P : Program} {w : World} {base : Heap} {C m : Str} {mg : Str → Option Value} {k n : Nat} {G : List PyData → Option Fi.Sl} {fd : FuncData} {ps : List Str} (h : (Ck.stat C m).ok K = true) (g : mg C = some (.ref (He.ga K C))) (F : FnOk P w K mg base CX0 k (Lo.ad K (.s C m)) fd ps (spD K n G)) (kp : PySem.W.keepIn K (.ref (Lo.ad K (.s C m))) = true)
    (hb : Binds K fd ps []) : Stat P w K mg base k C m n G := by
  obtain ⟨h1, h⟩ := He.ba h
  obtain ⟨h2, h3⟩ := He.ba h
  obtain ⟨rest, h4⟩ := isRefs_ok h3
  refine ⟨g, mcOf K (He.ga K C), He.ma K (He.ga K C) m, _, rest, fd, ps, read_of h1, ?_, h4, F, kp, hb⟩
  unfold smB at h2
  split at h2
  · rename_i g p C' q
    obtain ⟨a1, a2⟩ := He.ba h2
    obtain ⟨a3, a4⟩ := He.ba a2
    rw [q, of_decide_eq_true a1, of_decide_eq_true a3, of_decide_eq_true a4]
  · cases h2
def supAd (K : PySem.W.Frag) (c D m : Str) : Addr := refOf ((PySem.W.ks_superIn K (He.ga K c) (He.ga K D) m).getD none)
theorem isC_of {mg : Str → Option Value} {C : Str} {T : List (Str × Bool)} (g : mg C = some (.ref (He.ga K C))) (h1 : (Ck.ist C).ok K = true) (h2 : Ck.obc.ok K = true) (h3 : ∀ p ∈ T, (Ck.fa (.cls p.1)).ok K = true ∧ (Ck.isc p.1 C p.2).ok K = true) : IsC K mg C T := by
  unfold Ck.ok at h2
  obtain ⟨a1, a2⟩ := He.ba h2
  refine ⟨g, fun p hp => ?_, of_decide_eq_true a1, of_decide_eq_true a2, fun t ht => of_decide_eq_true (List.all_eq_true.mp h1 t ht)⟩
  obtain ⟨c1, c2⟩ := h3 p hp
  obtain ⟨b1, b2⟩ := He.ba c2
  obtain ⟨b3, b4⟩ := He.ba b2
  exact ⟨He.cls_ok c1, of_decide_eq_true b1, of_decide_eq_true b3, of_decide_eq_true b4⟩
end
abbrev FnC : Type := Option (Str × Str × Arguments × FuncBody × Scope × Addr × List Str × Addr)
def fnC (K : PySem.W.Frag) (p : Lo) : FnC := match K.lookup (p.ad K) with
  | some ⟨_, _, .func fd, _⟩ => some (fd.name, fd.qualname, fd.params, fd.body, fd.scope, fd.globals, fd.closure.map (·.1), fd.builtins)
  | _ => none
/-- one def: where it stands, its names, parameters, body, scope, defaults, the class that it closes over -/
structure Df where
  at_ : Lo
  name : Str
  qual : Str
  st : Stmt
  dfl : List He.Dv := []
  kwd : List (Str × He.Dv) := []
  clo : Option Str := none
def Df.val (d : Df) : FnC := some (d.name, d.qual, defArgs d.st, .stmts (defBody d.st), defScope d.st, mainGlobals, (match d.clo with | some _ => ["__class__"] | none => []), builtinsNs)
def Df.dvs (K : PySem.W.Frag) (d : Df) : List V := d.dfl.map (He.Dv.v K)
def Df.kws (K : PySem.W.Frag) (d : Df) : List (Str × V) := d.kwd.map fun q => (q.1, q.2.v K)
def cloB (K : PySem.W.Frag) (file : Str) (cl : Option Str) (fd : FuncData) : Bool := match cl with
  | none => true
  | some D => fileIn K fd.code file && (match fd.closure with
    | [(_, cc)] => (match K.lookup cc with
      | some ⟨_, _, .cell (some (.ref D')), _⟩ => decide (D' = He.ga K D)
      | _ => false)
    | _ => false)
def Df.ok (K : PySem.W.Frag) (file : Str) (d : Df) : Bool := PySem.W.keepIn K (.ref (d.at_.ad K)) && (match K.lookup (d.at_.ad K) with
  | some ⟨_, _, .func fd, _⟩ => PySem.W.codeIn K fd.code d.qual && (He.dflB K fd.defaults (d.dvs K) && (He.kwdB K fd.kwdefaults (d.kws K) && cloB K file d.clo fd))
  | _ => false)
theorem Df.funD {K : PySem.W.Frag} {file : Str} {d : Df} (hc : d.clo = none) (e : fnC K d.at_ = d.val) (c : d.ok K file = true) : ∃ fd, FunD K d.name d.qual (defArgs d.st) (defBody d.st) (defScope d.st) (d.dvs K) (d.kws K) (d.at_.ad K) fd := by
  obtain ⟨kp, c2⟩ := He.ba c
  unfold fnC at e
  cases q : K.lookup (d.at_.ad K) with
  | none =>
    rw [q] at c2
    cases c2
  | some o =>
    obtain ⟨oc, od, dt, osl⟩ := o
    rw [q] at c2 e
    cases dt with
    | func fd =>
      obtain ⟨n1, n2, n3, n4, n5, n6, n7, n8, n9, n10, n11, n12, n13, n14, n15⟩ := fd
      have e2 : (some (n1, n2, n3, n4, n5, n6, n7.map (·.1), n15) : FnC) = some (d.name, d.qual, defArgs d.st, .stmts (defBody d.st), defScope d.st, mainGlobals, [], builtinsNs) := by
        have e3 := e
        unfold Df.val at e3
        rw [hc] at e3
        exact e3
      simp only [Option.some.injEq, Prod.mk.injEq] at e2
      obtain ⟨h1, h2, h3, h4, h5, h6, h7, h8⟩ := e2
      have h7' : n7 = [] := List.map_eq_nil_iff.mp h7
      subst h1 h2 h3 h4 h5 h6 h7' h8
      have c3 : (PySem.W.codeIn K n13 d.qual && (He.dflB K n8 (d.dvs K) && (He.kwdB K n9 (d.kws K) && _))) = true := c2
      obtain ⟨k1, k2⟩ := He.ba c3
      obtain ⟨k3, k4⟩ := He.ba k2
      obtain ⟨k5, k6⟩ := He.ba k4
      exact ⟨_, ⟨oc, od, n8, n9, n10, n11, n12, n13, n14, osl, rfl, q, k1, He.dflB_ok k3, He.kwdB_ok k5⟩, kp⟩
    | _ => cases c2
def asO (g : Addr → Option Obj) : Nat → List Addr
  | 0 => [mainGlobals, cStatics]
  | n + 1 => He.growD g (asO g n)
abbrev AlO : Type := Bool × List FnC
def obsO (file : Str) (ck : List Ck) (df : List Df) (K : PySem.W.Frag) : AlO := ((ck.all fun f => f.ok K) && df.all fun d => d.ok K file, df.map fun d => fnC K d.at_)
def valO (df : List Df) : AlO := (true, df.map Df.val)
def SaysO (file : Str) (ck : List Ck) (df : List Df) (K : PySem.W.Frag) : Prop := obsO file ck df K = valO df
def obsOG (n : Nat) (file : Str) (ck : List Ck) (df : List Df) (g : Addr → Option Obj) : AlO := obsO file ck df (He.frG g (asO g n))
def hookO (n : Nat) (file : Str) (ck : List Ck) (df : List Df) : PySem.W.Hook where
  α := AlO
  obs := fun s => obsOG n file ck df s.heap.get?
  val := fun _ => valO df
  says := fun _ h => ∃ K : PySem.W.Frag, K.In h ∧ SaysO file ck df K
  of := fun _ _ e => ⟨_, He.frG_in, e⟩
  keeps := fun _ _ _ ⟨K, hK, c⟩ k => ⟨K, PySem.W.Frag.In.keeps hK k, c⟩
section
variable {file : Str} {ck : List Ck} {df : List Df} {K : PySem.W.Frag}
theorem SaysO.fact (c : SaysO file ck df K) (i : Nat) {f : Ck} (h : ck[i]? = some f := by rfl) : f.ok K = true := by
  have c1 := (He.ba (show ((ck.all fun f => f.ok K) && df.all fun d => d.ok K file) = true from congrArg (fun z : AlO => z.1) c)).1
  exact List.all_eq_true.mp c1 f (List.mem_of_getElem? h)
theorem SaysO.def_ (c : SaysO file ck df K) (i : Nat) {d : Df} (h : df[i]? = some d := by rfl) (hc : d.clo = none := by rfl) : ∃ fd, FunD K d.name d.qual (defArgs d.st) (defBody d.st) (defScope d.st) (d.dvs K) (d.kws K) (d.at_.ad K) fd := by
  have c2 := (He.ba (show ((ck.all fun f => f.ok K) && df.all fun d => d.ok K file) = true from congrArg (fun z : AlO => z.1) c)).2
  have e : df.map (fun d => fnC K d.at_) = df.map Df.val := congrArg (fun z : AlO => z.2) c
  have e2 : (df.map fun d => fnC K d.at_)[i]? = (df.map Df.val)[i]? := by rw [e]
  rw [List.getElem?_map, List.getElem?_map, h] at e2
  exact Df.funD hc (Option.some.inj e2) (List.all_eq_true.mp c2 d (List.mem_of_getElem? h))
end
theorem noCX {P : Program} {w : World} (H : Hp) (s : Shared) (e : Value) (s' : Shared) (h : L2N.CX P w [] H s (fun _ _ _ => False) e s') : False := by
  obtain ⟨_, _, _, _, _, _, _, _, _, _, _, _, z⟩ := h
  exact z
end Ob

namespace Ob
open PySem PySem.Spec PyProof.Rows L2 Fi
def dist (ns : List Int) : Nat := (PyProof.Rows.firstMet (fun i => ns.getD i 0) ns.length).length
def lenSet : D → Option D
  | .py (.list ps) => (getInts ps).bind fun ns => if ns.length ≤ 4000 then some (.py (.int (dist ns))) else none
  | _ => none
def eLenSet (f : F D) : F D := bnd f fun d => lft (lenSet d)
theorem g_lst {X : Cx} {pos : Pos} {es : List Expr} {k n : Nat} {sl : List Nat} {r : List D → En → Option En} (hc : X.calm = true) (h : PGs X es (tGs X.K sl r))
    (hn : (assignEach es X.env).length = n := by rfl) (hst : (assignEach es X.env).findIdx? (·.1) = none := by rfl) : PG X (.Tuple es k pos) (tG X.K sl (gLst n r)) := by
  refine pg_le (pg_lst hc h hn hst) fun v σ H Q ⟨Z, ρ, Hf, env, st, d, env', R, hd, hg, kk⟩ => ?_
  obtain ⟨ds, h1, h2⟩ := obind hg
  split at h2
  · rename_i hl
    obtain ⟨a, xs, rfl, hp, ha⟩ := hd.lst_of h1
    exact ⟨a, xs, rfl, R.ok.i.seq hp, by rw [ha.len]; exact hl, Z, ρ, Hf, env, st, ds, env', R, ha, h2, kk⟩
  · cases h2
def eChain (G G' : PyData → PyData → Option PyData) (f g h : F D) : F D := bnd f fun x => bnd g fun y => bnd (lft (op2 G x y)) fun r => bnd (lft (truD r)) fun b => if b then bnd h fun z => lft (op2 G' y z) else lft (some (.py (.bool false)))
section
variable {X : Cx} {W : WX} {a b c : Expr} {f g h : F D} {G G' : PyData → PyData → Option PyData} {pos : Pos}
theorem tChain_of {K : PySem.W.Frag} {σ : L2.St} {H : Hp} {Q : VK} (q : tE K W (eChain G G' f g h) σ H Q) : tChain (rD2 K G) (rD2 K G') (tE K W f) (tE K W g) (tE K W h) σ H Q := by
  obtain ⟨Z, ρ, Hf, env, st, o, R, e, k⟩ := q
  refine bind_at bE R e k fun x H1 ρ1 Hf1 s1 dx t1 r1 R1 e1 k1 => ?_
  refine bind_at bE R1 e1 k1 fun y H2 ρ2 Hf2 s2 dy t2 r2 R2 e2 k2 => ?_
  obtain ⟨r, h1, h2⟩ := bnd_lft e2
  obtain ⟨bb, h3, h4⟩ := bnd_lft h2
  obtain ⟨u, w, pp, rfl, rfl, h5, rfl⟩ := op2_some h1
  cases truD_some h3
  refine ⟨Hf2, u, w, _, R2.ok.i, (Dq.up t2.up r1).dp, Dq.dp r2, h5, fun v H3 Hf3 s3 d3 => ⟨bb, d3.bl_eq, ?_⟩⟩
  have R3 := R2.step (.of s3) (R2.ok.stp s3)
  have k3 := k2.step bE (.of s3)
  cases bb with
  | false =>
    obtain ⟨z, h6, rfl⟩ := lft_some (env := env) h4
    cases h6
    exact iteF (k3.now R3 (.py (.bl false)))
  | true =>
    refine iteT (bind_at bE R3 h4 k3 fun z H4 ρ4 Hf4 s4 dz t4 r4 R4 e4 k4 => ?_)
    obtain ⟨zz, h6, rfl⟩ := lft_some e4
    obtain ⟨u2, w2, p2, e7, rfl, h8, rfl⟩ := op2_some h6
    cases e7
    exact ⟨Hf4, w, w2, p2, R4.ok.i, Dp_up t4.up.f (Dp_up s3.f (Dq.dp r2)), Dq.dp r4, h8, fun v H' Hf' s d => k4.stp R4 s (.py d)⟩
theorem x_chain {op op' : CmpOp} (ho : OpD X (compareOp op) G) (ho' : OpD X (compareOp op') G') (ha : PE X a (tE X.K W f)) (hb : PE X b (tE X.K W g)) (hc : PE X c (tE X.K W h)) (hm : lastMarks [op, op'] [b, c] = false := by with_unfolding_all rfl) : PE X (.Compare a [op, op'] [b, c] pos) (tE X.K W (eChain G G' f g h)) := pe_le (pe_chain ho ho' ha hb hc hm) fun _ _ _ q => tChain_of q
theorem t_chain {op op' : CmpOp} (ho : OpD X (compareOp op) G) (ho' : OpD X (compareOp op') G') (ha : PE X a (tE X.K W f)) (hb : PE X b (tE X.K W g)) (hc : PE X c (tE X.K W h)) (hm : lastMarks [op, op'] [b, c] = false := by with_unfolding_all rfl) : PT X (.Compare a [op, op'] [b, c] pos) (tT X.K W (asB (eChain G G' f g h))) :=
  pt_le (pt_chain ho ho' ha hb hc hm) fun _ _ _ q => tTest_of (fun _ q => tChain_of q) q
end
end Ob

namespace Fi
open PySem PySem.Spec PyProof.Rows L2
section
variable {X : Cx} {tg e : Expr} {pos : Pos} {f : FE}
theorem x_glS {x z : Str} (hm : ∃ t, X.mg x = some (.str z t)) (hg : Gl X x := by rfl) (hdb : (x == ("__debug__" : Str)) = false := by decide) : PE X (.Name x pos) (tE X.K (eC (.str z))) := by
  obtain ⟨t, hm⟩ := hm
  refine ⟨fun pins s σ H Q I ⟨Z, Hf, env, d, R, hf, k⟩ => ?_⟩
  cases hf
  exact ld_glob I hg hm ⟨.str z, H, I, ⟨t, rfl⟩, k _ H Hf (.refl R.st.i) (.str z)⟩ hdb
def signs (z : Str) : List PyData := z.cps.toList.map fun c => .str ⟨#[c]⟩
def iS (f : FE) : FL := fun env => match f env with
  | some (.str z) => some (signs z)
  | _ => none
theorem i_str (he : PE X e (tE X.K f)) : PI X tg e (tI X.K (iS f)) := pi_le (pi_str he) fun σ H R ⟨Z, Hf, env, ds, Rl, hf, k⟩ => by
  unfold iS at hf
  split at hf
  · rename_i z hl
    cases hf
    refine ⟨Z, Hf, env, _, Rl, hl, fun v H1 Hf1 s1 d1 => ⟨z, d1.str_eq, k _ H1 Hf1 s1 ?_⟩⟩
    show Walk (Its z) (signs z).length _ _
    have e : (signs z).length = z.cps.size := by unfold signs; rw [List.length_map, Array.length_toList]
    rw [e]
    refine walk_str.mono (fun _ _ => trivial) fun i H x H' _ _ y => ?_
    obtain ⟨h1, c, h2, rfl⟩ := y
    refine ⟨.str ⟨#[c]⟩, ?_, .inl ⟨h1, .str _⟩⟩
    unfold signs
    rw [List.getElem?_map, Array.getElem?_toList, h2]
    rfl
  · cases hf
def fInS : PyData → PyData → Option PyData
  | .str s, .str z => match s.cps.toList with
    | [c] => some (.bool (decide (c ∈ z.cps.toList)))
    | _ => none
  | _, _ => none
theorem od_inS : OpD X (compareOp .In) fInS := by
  intro pins s σ H x y v u Q I rx ry ⟨Hf, dx, dy, dz, hi, hx, hy, hF, k⟩
  unfold fInS at hF
  split at hF
  · rename_i a z
    split at hF
    · rename_i c hc
      cases hF
      cases hx.str_eq
      cases hy.str_eq
      have ea : a = ⟨#[c]⟩ := by
        obtain ⟨cps⟩ := a
        have : cps = #[c] := by
          apply Array.toList_inj.mp
          exact hc
        rw [this]
      subst ea
      exact op_in_sign pins s σ H _ _ v u Q I rx ry ⟨c, z, rfl, rfl, k _ H Hf (.refl hi) (.bl _)⟩
    · cases hF
  · cases hF
def fLenS : List PyData → Option PyData
  | [.str z] => if z.length ≤ 100000 then some (.int z.length) else none
  | _ => none
theorem cd_lenS : CallD X (.builtin "len") fLenS := by
  intro pins s σ H xs us Q I r ⟨Hf, ds, dz, hi, hd, hf, k⟩
  unfold fLenS at hf
  split at hf
  · rename_i z
    split at hf
    · rename_i hl
      cases hf
      obtain ⟨v, rfl, hv⟩ := hd.one
      cases hv.str_eq
      exact call_len_str pins s σ H _ us Q I r ⟨z, rfl, Nat.le_trans hl (by decide), k _ _ _ (.refl hi) (.int _)⟩
    · cases hf
  · cases hf
end
end Fi

namespace Ob
open PySem PySem.Spec PyProof.Rows L2 Fi
/-- the i-th statement of a class's body -/
def member (c : Stmt) (j : Nat) : Stmt := match c with
  | .ClassDef _ _ _ body _ _ _ _ _ _ _ => body.getD j (.Pass ⟨0, 0, 0, 0⟩)
  | _ => .Pass ⟨0, 0, 0, 0⟩
/-- the same attribute, found at two classes -/
def samB (K : PySem.W.Frag) (c m C : Str) : Bool := decide (He.ma K (He.ga K c) m = He.ma K (He.ga K C) m)
def spsB (K : PySem.W.Frag) (c D m C : Str) : Bool := decide (supAd K c D m = He.ma K (He.ga K C) m)
section
variable {P : Program} {w : World} {K : PySem.W.Frag} {mg : Str → Option Value} {base : Heap} {j k n : Nat} {c C Dn m : Str} {G : Fn} {T : Tab}
theorem met_of (h1 : (Ck.fa (.cls c)).ok K = true) (h2 : (Ck.fa (.meth c m)).ok K = true) (h3 : samB K c m C = true) (F : Cal P w K mg base j (Lo.ad K (.m C m)) (spO K (n + 1) G)) (hk : j ≤ k := by decide) : Met P w K mg base k m n c G :=
  ⟨He.cls_ok h1, _, He.meth_ok h2, by rw [of_decide_eq_true h3]; exact F.mono hk⟩
theorem mets_nil : Mets P w K mg base k m n [] := fun _ h => by cases h
theorem mets_cons (h : Met P w K mg base k m n c G) (t : Mets P w K mg base k m n T) : Mets P w K mg base k m n ((c, G) :: T) := fun p hp => by
  rcases List.mem_cons.mp hp with e | hp
  · rw [e]; exact h
  · exact t p hp
theorem prp_of (h1 : (Ck.fa (.cls c)).ok K = true) (h2 : (Ck.prop c m).ok K = true) (h3 : samB K c m C = true) (F : Cal P w K mg base j (Lo.ad K (.p C m)) (spO K 1 G)) (hk : j ≤ k := by decide) : Prp P w K mg base k m c G := by
  have e : He.ma K (He.ga K c) m = He.ma K (He.ga K C) m := of_decide_eq_true h3
  have hp := prop_of h2
  refine ⟨He.cls_ok h1, _, _, hp, ?_⟩
  have e2 : Lo.ad K (.p c m) = Lo.ad K (.p C m) := by
    show recAt K (He.ma K (He.ga K c) m) "property" 0 = recAt K (He.ma K (He.ga K C) m) "property" 0
    rw [e]
  rw [e2]
  exact F.mono hk
theorem prps_nil : Prps P w K mg base k m [] := fun _ h => by cases h
theorem prps_cons (h : Prp P w K mg base k m c G) (t : Prps P w K mg base k m T) : Prps P w K mg base k m ((c, G) :: T) := fun p hp => by
  rcases List.mem_cons.mp hp with e | hp
  · rw [e]; exact h
  · exact t p hp
theorem mkr_of (g : mg c = some (.ref (He.ga K c))) (h2 : (Ck.fa (.mkr c)).ok K = true) (h3 : samB K c "__init__" C = true) (F : Cal P w K mg base j (Lo.ad K (.m C "__init__")) (spO K (n + 1) G)) (hk : j ≤ k := by decide) : Mkr P w K mg base k c n G :=
  ⟨g, _, He.mkr_ok h2, by rw [of_decide_eq_true h3]; exact F.mono hk⟩
theorem noa_of {cs : List Str} (h : ∀ c ∈ cs, (Ck.fa (.cls c)).ok K = true ∧ (Ck.fa (.noat c m)).ok K = true) : NoA K cs m := fun c hc => ⟨He.cls_ok (h c hc).1, He.noat_ok (h c hc).2⟩
theorem err_of {X : Heap} (g : mg c = some (.ref (He.ga K c))) (h : (Ck.fa (.exc c)).ok K = true) : Err K mg c := ⟨g, He.exc_ok h⟩
theorem all_nil {α : Type} {p : α → Prop} : ∀ c ∈ ([] : List α), p c := fun _ h => by cases h
theorem all_cons {α : Type} {p : α → Prop} {a : α} {l : List α} (h : p a) (t : ∀ c ∈ l, p c) : ∀ c ∈ a :: l, p c := fun c hc => by
  rcases List.mem_cons.mp hc with e | hc
  · rw [e]; exact h
  · exact t c hc
variable {file x qual : Str} {params : Arguments} {body : List Stmt} {scope : Scope} {dvs : List V} {kws : List (Str × V)} {Dc f : Addr} {fd : FuncData} {ps : List Str}
/-- without keyword-only defaults being asked: all given positionally -/
theorem FunD.bindsP {x qual : Str} {dvs : List V} {kws : List (Str × V)} (F : FunD K x qual params body scope dvs kws f fd) (hd : dvs ≠ [])
    (h : ∀ (T : Addr) (kV doc pm : Value) (an : Option Addr) (cdv ct : Value) (us its : List Value), us.length = ps.length → its.length = dvs.length →
      ∃ k, bindArgs (PySem.W.fnOf x qual params body scope (.ref T) kV doc pm an cdv ct) ⟨us, []⟩ = seqItems? (.ref T) >>= k ∧ k (some its.toArray) = pure (ps.zip us)) : Binds K fd ps [] := by
  obtain ⟨oc, od, dV, kV, doc, pm, an, cdv, ct, osl, rfl, lk, hcd, hD, hK⟩ := F.ex
  rcases hD with ⟨e, _⟩ | ⟨_, T, o, its, m, rfl, lT, oT, rT⟩
  · exact absurd e hd
  · intro s us X hlen
    rw [List.append_nil] at hlen ⊢
    obtain ⟨k, e1, e2⟩ := h T kV doc pm an cdv ct us its hlen rT.length.symm
    refine BindsTo.of_looks fun M => ?_
    rw [e1]
    exact looks_items X lT oT (.of_pure e2)
end
end Ob

namespace Ob
open PySem PySem.Spec PyProof.Rows L2 Fi
theorem pure_ok {P : Program} {w : World} {K : PySem.W.Frag} {mg : Str → Option Value} {base : Heap} {x qual : Str} {params : Arguments} {body : List Stmt} {scope : Scope} {dvs : List V} {kws : List (Str × V)} {f : Addr} {fd : FuncData} {N ps : List Str} {b : Fi.FS} {n np k : Nat}
    (hF : FunD K x qual params body scope dvs kws f fd) (S : FnScope N ps scope) (hn : N.length = n) (hp : ps.length = np)
    (hb : ∀ (cdv : Value) (A : Around) (outer : List Env) (s : Shared) (H : Hp) (E : XK), Room k (A.deeper (envOfC qual scope s.heap.objs.size f cdv)) → PSs (cxOf CX0 P w K mg base N qual scope f cdv A outer s H E).nox body (Fi.tS K b)) :
    FnOk P w K mg base CX0 (k + 1) f fd ps (spD K np (fnD n b)) := by
  refine hF.ok S (fun vs H Q E h => ?_) (fun cdv A outer s H vs Q E hr h => ?_)
  · rw [h.1, hp]
  · obtain ⟨t, h1, h2⟩ := Fi.body_ok (X := (cxOf CX0 P w K mg base N qual scope f cdv A outer s H E).nox) hn (hb cdv A outer s H E hr) h
    exact ⟨t, h1.nox, h2⟩
section
variable {X : Cx} {W : WX} {a b : Expr} {f g : F D} {pos : Pos}
theorem x_ix (ha : PE X a (tE X.K W f)) (hb : PE X b (tE X.K W g)) (hs : PlainIx b) : PE X (.Subscript a b pos) (tE X.K W (e2 fIx f g)) :=
  pe_le (pe_ix od_ix ha hb hs) fun _ _ _ q => tOp_of q
end
theorem takesN {X : Cx} : L2N.Takes X (fun _ _ _ _ => False) := fun _ _ x => by
  obtain ⟨_, _, _, _, _, _, _, _, _, _, _, _, _, _, _, _, z⟩ := x
  exact z.elim
/-- what never raises, told without exceptions -/
def spNo (sp : Sp) : Sp := fun vs H Q _ => sp vs H Q fun _ _ _ => False
end Ob

namespace Ob
open PySem PySem.Spec PyProof.Rows L2 Fi
section
variable {X : Cx} {W : WX} {a b e o value : Expr} {es : List Expr} {f g h : F D} {r : F (List D)} {pos pos' : Pos}
def eNew (r : F (List D)) : F D := bnd r fun ds _ st => if ds.length ≤ 100000 then some (.ok (.obj st.length) (st ++ [.lst ds])) else none
def stL (d : D) (st : Stor) : Option (Nat × List D) := match d with
  | .obj n => match st[n]? with
    | some (.lst l) => some (n, l)
    | _ => none
  | _ => none
def eIxO (f g : F D) : F D := bnd f fun x => bnd g fun y _ st => match y with
  | .py (.int i) => (stL x st).bind fun q => (atI q.2 i).map (.ok · st)
  | _ => none
/-- o[i] = value -/
def sIx (v o i : F D) : FS := sE v fun y => sE o fun d => sE i fun k env st => match k with
  | .py (.int k) => (stL d st).bind fun q => (ixN q.2.length k).map fun j => .next env (st.set q.1 (.lst (q.2.set j y)))
  | _ => none
/-- a, b, .. = a list of the store -/
def sUnp (n : Nat) (r : List D → En → Option En) (f : F D) : FS := sE f fun d env st => (stL d st).bind fun q => if q.2.length = n then (r q.2 env).map (.next · st) else none
structure PSt (P : Program) (w : World) (K : PySem.W.Frag) (mg : Str → Option Value) (base : Heap) (k : Nat) (m : Str) (c : Str) (G : Fn) : Prop where
  cls : Cls K (He.ga K c)
  ex : ∃ (p fs : Addr) (a : Value) (rest : List Value), PySem.W.takerIn K (He.ga K c) m = some (some (.ref p)) ∧ PySem.W.typeIn K (.ref p) = some (.type "property") ∧ PySem.W.recIn K p "property" = some (a :: .ref fs :: rest) ∧ Cal P w K mg base k fs (spO K 2 G)
def PSts (P : Program) (w : World) (K : PySem.W.Frag) (mg : Str → Option Value) (base : Heap) (k : Nat) (m : Str) (T : Tab) : Prop := ∀ p ∈ T, PSt P w K mg base k m p.1 p.2
def sProp (T : Tab) (v o : F D) : FS := sE v fun y => sE o fun d env st => match pickP T d st with
  | some G => (match G [d, y] st with
    | some (.ok (.val _) s) => some (.next env s)
    | some (.err c s) => some (.exc c env s)
    | _ => none)
  | none => none
end
end Ob

namespace Ht
open PySem PySem.Spec PyProof.Rows L2 HotX
/-- no exception is handled, or one whose context is None -/
def Lv (A : Around) (h : Heap) : Prop := A.handled = none ∨ ∃ x1, HotAt A x1 h
section
variable {prog : Program} {w : World} {A : Around} {E : Value → Shared → Prop} {s : Shared}
theorem Lv.up {h h' : Heap} (l : Lv A h) (k : ∀ x1, A.handled = some (.ref x1) → ∀ o, h.get? x1 = some o → h'.get? x1 = some o) : Lv A h' := by
  rcases l with q | ⟨x1, hh, o, vs, h1, h2, h3⟩
  · exact .inl q
  · exact .inr ⟨x1, hh, o, vs, k x1 hh o h1, h2, h3⟩
theorem mf_cls (o : Obj) (f : Array Value → Array Value) : (Obj.mapFields f o).cls = o.cls := by
  unfold Obj.mapFields
  split <;> rfl
theorem raiseG {α : Type} {a : Addr} {oe : Obj} {vs : Array Value} {Q : α → Shared → Prop} (lv : Lv A s.heap) (hne : ∀ x1, A.handled = some (.ref x1) → x1 ≠ a) (ha : s.heap.get? a = some oe) (da : oe.data = .fields vs) (hi : 2 < vs.size)
    (hE : ∀ h', Heap.SameBut a s.heap h' → (∃ o, h'.get? a = some o ∧ o.cls = oe.cls) → E (.ref a) { s with heap := h' }) : wpAny (model prog w) A (raiseNew (.ref a) : Sem α) Q E s := by
  rcases lv with q | ⟨x1, hot⟩
  · simp only [raiseNew]
    refine wpAny_bind (wpAny_handled ?_)
    rw [q]
    exact wpAny_bind (wpAny_pure (wpAny_throw (hE s.heap ⟨rfl, fun _ _ => rfl⟩ ⟨_, ha, rfl⟩)))
  · refine raiseNew_hot hot (hne _ hot.1) ha da hi (hE _ (Heap.SameBut.update ..) ⟨_, Heap.get?_update_self _ ha (by obtain ⟨c, d, da', sl⟩ := oe; simp only at da; subst da; rfl), mf_cls oe _⟩)
theorem nextOf_list_endG {it l : Addr} {i : Nat} {items : Array Value} {Q : Value → Shared → Prop} (lv : Lv A s.heap) (hne : ∀ x1, A.handled = some (.ref x1) → x1 ≠ it)
    (hit : s.heap.IsListIter it l i) (hl : s.heap.IsList l items) (hx : items[i]? = none)
    (hE : ∀ h' e, Heap.ExtBut it s.heap h' → (∃ o, h'.get? e = some o ∧ o.cls = .type "StopIteration") → E (.ref e) { s with heap := h' }) :
    wpAny (model prog w) A (Builtin.SmallTypes.nextOf (.ref it)) Q E s := by
  obtain ⟨o, ho, hc, hd⟩ := id hit
  obtain ⟨ol, hol, _, nl, hdl⟩ := hl
  unfold Builtin.SmallTypes.nextOf
  refine wpAny_bind (wpAny_callSpecial?_slot (name := Str.ofString "__next__") hit.typeIs slot_listiter_next
    (wpAny_call_entry slot_listiter_next hit.typeIs entry_listiter_next ?_ (args_listiter_next _)))
  show wpAny _ _ (field (.ref it) 0 >>= _) _ _ s
  refine wpAny_bind (wpAny_field ho hd (x := .ref l) rfl ?_)
  show wpAny _ _ (if (Value.ref l == Value.none) = true then _ else _) _ _ s
  rw [if_neg (show ¬ ((Value.ref l == Value.none) = true) from Bool.false_ne_true)]
  show wpAny _ _ (field (.ref it) 1 >>= _) _ _ s
  refine wpAny_bind (wpAny_field ho hd (x := .int i 0) rfl ?_)
  show wpAny _ _ (seqItems? (.ref l) >>= _) _ _ s
  refine wpAny_bind (wpAny_seqItems hol hdl ?_)
  simp only [Int.toNat_natCast, hx]
  refine wpAny_bind (wpAny_rule (wpAny_bind (wpAny_setField ho hd (by simp) ?_)))
  show wpAny _ _ (newExc (.type "StopIteration") [] >>= _) _ _ _
  refine wpAny_bind ?_
  simp only [newExc, newTuple]
  refine wpAny_bind (wpAny_newObj_type ?_ (by size_fits))
  refine wpAny_bind (m := firstArgMember _ _) (wpAny_of_eq (a := Value.none) (by first | rfl | (simp only [firstArgMember]; rfl)) ?_)
  refine wpAny_newObj_type ?_ (by size_fits)
  have up : ∀ b u, b ≠ it → s.heap.get? b = some u → (s.heap.update it (Obj.mapFields (·.setIfInBounds 0 .none))).get? b = some u := fun b u hb e => by
    rw [Heap.get?_update_other _ _ (Ne.symm hb)]
    exact e
  refine raiseG ?_ ?_ (Heap.get?_push_size _ rfl) rfl (by first | (simp; done) | (simp; omega) | (simp only [Array.size_append]; simp; omega)) fun h' sb ⟨o', e', c'⟩ => hE h' _ (fun b u hb e => ?_) ⟨o', e', c'⟩
  · exact lv.up fun x1 hh o e => Heap.get?_push_of_some _ (Heap.get?_push_of_some _ (up _ _ (hne x1 hh) e))
  · intro x1 hh
    rcases lv with q | ⟨x2, hh2, o2, vs2, h2, _⟩
    · have z : A.handled = some (.ref x1) := hh
      rw [q] at z
      cases z
    · have z : A.handled = some (.ref x1) := hh
      rw [hh2] at z
      cases z
      exact Nat.ne_of_lt (Heap.lt_size (Heap.get?_push_of_some _ (up _ _ (hne _ hh2) h2)))
  · have q := Heap.get?_push_of_some { cls := .type "tuple", data := .seq ([] : List Value).toArray } (up b u hb e)
    rw [sb.2 b (Nat.ne_of_lt (Heap.lt_size q))]
    exact Heap.get?_push_of_some _ q
theorem zip_next_endG {z TI TO i1 i2 l1 l2 : Addr} {k1 k2 : Nat} {xs ys : Array Value} {a b : Value} {Q : Fin → Shared → Prop} (lv : Lv A s.heap) (hne : ∀ x1, A.handled = some (.ref x1) → x1 ≠ z ∧ x1 ≠ TO ∧ x1 ≠ i1 ∧ x1 ≠ i2) (D : ZipApart z TI TO i1 i2 l1 l2)
    (hz : IsZip s.heap z TI TO .none) (hTI : IsPair s.heap TI (.ref i1) (.ref i2)) (hTO : IsPair s.heap TO a b)
    (h1 : s.heap.IsListIter i1 l1 k1) (h2 : s.heap.IsListIter i2 l2 k2) (hl1 : s.heap.IsList l1 xs) (hl2 : s.heap.IsList l2 ys) (hend : xs[k1]? = none ∨ ys[k2]? = none)
    (hE : ∀ h' e, (∀ c o, c ≠ z → c ≠ TO → c ≠ i1 → c ≠ i2 → s.heap.get? c = some o → h'.get? c = some o) → (∃ o, h'.get? e = some o ∧ o.cls = .type "StopIteration") → E (.ref e) { s with heap := h' }) :
    wpAny (model prog w) A (Builtin.«zip.__next__» ⟨[.ref z], []⟩) Q E s := by
  show wpAny _ _ (field (.ref z) 2 >>= _) _ _ _
  refine wpAny_bind (wpAny_field hz rfl (x := .bool false) rfl ?_)
  show wpAny _ _ (field (.ref z) 3 >>= _) _ _ _
  refine wpAny_bind (wpAny_field hz rfl (x := .ref TI) rfl ?_)
  refine wpAny_bind (wpAny_seqItems hTI rfl ?_)
  show wpAny _ _ (Builtin.SmallTypes.ownedTupleIsFree (.ref z) >>= _) _ _ _
  refine wpAny_bind ?_
  unfold Builtin.SmallTypes.ownedTupleIsFree
  refine wpAny_bind (wpAny_field hz rfl (x := .none) rfl (wpAny_pure ?_))
  simp only [if_true]
  refine wpAny_bind (wpAny_rule ?_)
  refine wpAny_bind (wpAny_field hz rfl (x := .ref TO) rfl ?_)
  refine wpAny_bind (wpAny_setField_rec hz (by simp) fun h₁ hz₁ hs₁ => ?_)
  replace hz₁ : IsZip h₁ z TI TO .ellipsis := hz₁
  have lv1 : Lv A h₁ := lv.up fun x1 hh o e => hs₁.extBut _ _ (hne x1 hh).1 e
  refine wpAny_bind ?_
  simp only [List.zipIdx_cons, List.zipIdx_nil, List.forIn_cons, List.forIn_nil]
  refine wpAny_bind (wpAny_bind (wpAny_onRaise ?_))
  show wpAny _ _ (Builtin.SmallTypes.nextOf (.ref i1) >>= _) _ _ _
  cases hx : xs[k1]? with
  | none =>
    refine wpAny_bind (nextOf_list_endG lv1 (fun x1 hh => (hne x1 hh).2.2.1) (h1.extBut hs₁.extBut D.i1z) (hl1.extBut hs₁.extBut D.l1z) hx fun h₂ e hs₂ he => ?_)
    obtain ⟨oe, hoe, hce⟩ := he
    have hz₂ : IsZip h₂ z TI TO .ellipsis := hs₂ _ _ D.i1z.symm hz₁
    have hez : e ≠ z := fun x => by subst x; rw [hz₂] at hoe; cases hoe; simp at hce
    refine wpAny_setField_rec hz₂ (by simp) fun h₃ _ hs₃ => hE h₃ e (fun c o c1 _ c3 _ x => hs₃.extBut _ _ c1 (hs₂ _ _ c3 (hs₁.extBut _ _ c1 x))) ⟨oe, hs₃.extBut _ _ hez hoe, hce⟩
  | some x =>
    have hy : ys[k2]? = none := by rcases hend with h | h; rw [hx] at h; cases h; exact h
    refine wpAny_bind (wpAny_nextOf_list_item (h1.extBut hs₁.extBut D.i1z) (hl1.extBut hs₁.extBut D.l1z) hx fun h₂ h1₂ hs₂ => wpAny_pure ?_)
    have hTO₂ : IsPair h₂ TO a b := hs₂.extBut _ _ D.TOi1 (hs₁.extBut _ _ D.TOz hTO)
    refine wpAny_bind (wpAny_seqItems hTO₂ rfl ?_)
    refine wpAny_bind (wpAny_updateSeq_pair hTO₂ fun h₃ hTO₃ hs₃ => ?_)
    have lv3 : Lv A h₃ := lv1.up fun x1 hh o e => hs₃.extBut _ _ (hne x1 hh).2.1 (hs₂.extBut _ _ (hne x1 hh).2.2.1 e)
    refine wpAny_bind (wpAny_letGo (wpAny_pure ?_))
    refine wpAny_bind (wpAny_bind (wpAny_onRaise ?_))
    show wpAny _ _ (Builtin.SmallTypes.nextOf (.ref i2) >>= _) _ _ _
    refine wpAny_bind (nextOf_list_endG lv3 (fun x1 hh => (hne x1 hh).2.2.2) (((h2.extBut hs₁.extBut D.i2z).extBut hs₂.extBut D.i12.symm).extBut hs₃.extBut D.TOi2.symm)
      (((hl2.extBut hs₁.extBut D.l2z).extBut hs₂.extBut D.l2i1).extBut hs₃.extBut D.l2TO) hy fun h₄ e hs₄ he => ?_)
    obtain ⟨oe, hoe, hce⟩ := he
    have hz₄ : IsZip h₄ z TI TO .ellipsis := hs₄ _ _ D.i2z.symm (hs₃.extBut _ _ D.TOz.symm (hs₂.extBut _ _ D.i1z.symm hz₁))
    have hez : e ≠ z := fun x => by subst x; rw [hz₄] at hoe; cases hoe; simp at hce
    refine wpAny_setField_rec hz₄ (by simp) fun h₅ _ hs₅ => hE h₅ e (fun c o c1 c2 c3 c4 x => hs₅.extBut _ _ c1 (hs₄ _ _ c4 (hs₃.extBut _ _ c2 (hs₂.extBut _ _ c3 (hs₁.extBut _ _ c1 x))))) ⟨oe, hs₅.extBut _ _ hez hoe, hce⟩
theorem pyNext_zip_endG {z TI TO i1 i2 l1 l2 : Addr} {k1 k2 : Nat} {xs ys : Array Value} {a b : Value} {Q : Option Value → Shared → Prop} (lv : Lv A s.heap) (hne : ∀ x1, A.handled = some (.ref x1) → x1 ≠ z ∧ x1 ≠ TO ∧ x1 ≠ i1 ∧ x1 ≠ i2) (D : ZipApart z TI TO i1 i2 l1 l2)
    (hz : IsZip s.heap z TI TO .none) (hTI : IsPair s.heap TI (.ref i1) (.ref i2)) (hTO : IsPair s.heap TO a b)
    (h1 : s.heap.IsListIter i1 l1 k1) (h2 : s.heap.IsListIter i2 l2 k2) (hl1 : s.heap.IsList l1 xs) (hl2 : s.heap.IsList l2 ys) (hend : xs[k1]? = none ∨ ys[k2]? = none)
    (hQ : ∀ h', (∀ c o, c ≠ z → c ≠ TO → c ≠ i1 → c ≠ i2 → s.heap.get? c = some o → h'.get? c = some o) → Q none { s with heap := h' }) : wpAny (model prog w) A (pyNext (.ref z)) Q E s := by
  have hT : s.TypeIs (.ref z) "zip" := ⟨_, hz, rfl⟩
  unfold pyNext
  refine wpAny_bind (wpAny_attempt (wpAny_callSpecial?_slot (name := Str.ofString "__next__") hT F.slot_zip_next
    (wpAny_call_entry F.slot_zip_next hT F.entry_zip_next (zip_next_endG lv hne D hz hTI hTO h1 h2 hl1 hl2 hend fun h' e hk he => ?_) (F.args_zip_next_1 _))))
  obtain ⟨o, ho, hc⟩ := he
  refine wpAny_bind (wpAny_isInstance (T := "StopIteration") (b := true) ⟨o, ho, hc⟩ isSubtype_stop ?_)
  exact wpAny_pure (hQ _ hk)
end
end Ht

namespace Ht
open PySem PySem.Spec PyProof.Rows L2 HotX
abbrev Hot1 := @L2H.Hot1
structure TurnG (P : Program) (w : World) (K : PySem.W.Frag) (tg : Expr) (J : It) (fp : List Addr) (it : Addr) (tn : Nat → Heap → Prop) : Prop where
  mem : it ∈ fp
  obj : ∀ i h, tn i h → ∀ b ∈ fp, ∃ o, h.get? b = some o ∧ ∀ v, o.data ≠ .cell v
  keep : ∀ i h h', tn i h → (∀ b ∈ fp, ∀ o, h.get? b = some o → h'.get? b = some o) → tn i h'
  item : ∀ (X : Cx), X.prog = P → X.w = w → X.K = K → ∀ (i : Nat) (pins : List (Addr × Obj)) (s : Shared) (σ : L2.St) (H : Hp) (E : Value → Shared → Prop), Inv X pins σ H s → (∀ b ∈ fp, FpOk X pins H b) → tn i s.heap → J.go i H →
    wpAny (model P w) X.A (pyNext (.ref it)) (fun r s1 => ∃ u, r = some u ∧
      wpAny (model P w) X.A (letOwnedTupleGo tg (.ref it) u) (fun _ s2 => ∃ x H', Inv X pins σ H' s2 ∧ RelV x u ∧ J.yld i H x H' ∧ tn (i + 1) s2.heap ∧ ∀ b ∈ fp, H' b = none) E s1) E s
  done : ∀ (X : Cx), X.prog = P → X.w = w → X.K = K → ∀ (i : Nat) (pins : List (Addr × Obj)) (s : Shared) (σ : L2.St) (H : Hp) (E : Value → Shared → Prop), Inv X pins σ H s → (∀ b ∈ fp, FpOk X pins H b) → Lv X.A s.heap → (∀ x1, X.A.handled = some (.ref x1) → x1 ∉ fp) → tn i s.heap → J.stop i H →
    wpAny (model P w) X.A (pyNext (.ref it)) (fun r s1 => r = none ∧ Inv X pins σ H s1) E s
  self : ∀ (A : Around) (i : Nat) (s : Shared) (Q : Value → Shared → Prop) (E : Value → Shared → Prop), tn i s.heap → Q (.ref it) s → wpAny (model P w) A (pyIter (.ref it)) Q E s
def PIEG (X : Cx) (pins : List (Addr × Obj)) (σ : L2.St) (tg : Expr) (R : It → Hp → Prop) (itv : Value) (s2 : Shared) : Prop :=
  ∃ (it : Addr) (fp : List Addr) (tn : Nat → Heap → Prop) (J : It) (H' : Hp), itv = .ref it ∧ Inv X pins σ H' s2 ∧ TurnG X.prog X.w X.K tg J fp it tn ∧ tn 0 s2.heap ∧ (∀ b ∈ fp, FpOk X pins H' b) ∧ R J H'
structure PIG (X : Cx) (tg iter : Expr) (wi : TI) : Prop where
  run : ∀ (pins : List (Addr × Obj)) (s : Shared) (σ : L2.St) (H : Hp) (R : It → Hp → Prop), Inv X pins σ H s → wi σ H R →
    wpAny (model X.prog X.w) X.A (eval iter X.env) (fun v s1 => wpAny (model X.prog X.w) X.A (pyIter v) (PIEG X pins σ tg R) X.xe s1) X.xe s
theorem turn_zipG {P : Program} {w : World} {K : PySem.W.Frag} {elts : List Expr} {kk : Nat} {tpos : Pos} {a b z TI TO i1 i2 : Addr} (D : ZipApart z TI TO i1 i2 a b) :
    TurnG P w K (.Tuple elts kk tpos) (Itz K a b) [z, TI, TO, i1, i2] z (fun i h => IsZip h z TI TO .none ∧ IsPair h TI (.ref i1) (.ref i2) ∧ (∃ x y, IsPair h TO x y) ∧ h.IsListIter i1 a i ∧ h.IsListIter i2 b i) where
  mem := by simp
  obj := fun i h st c hc => by
    obtain ⟨hz, hTI, ⟨x, y, hTO⟩, ⟨o1, e1, _, d1⟩, ⟨o2, e2, _, d2⟩⟩ := st
    have e' : c = z ∨ c = TI ∨ c = TO ∨ c = i1 ∨ c = i2 := by simpa using hc
    rcases e' with q | q | q | q | q
    · rw [q]; exact ⟨_, hz, fun v q => nomatch q⟩
    · rw [q]; exact ⟨_, hTI, fun v q => nomatch q⟩
    · rw [q]; exact ⟨_, hTO, fun v q => nomatch q⟩
    · rw [q]; exact ⟨o1, e1, fun v q => by rw [d1] at q; cases q⟩
    · rw [q]; exact ⟨o2, e2, fun v q => by rw [d2] at q; cases q⟩
  keep := fun i h h' st k => by
    obtain ⟨hz, hTI, ⟨x, y, hTO⟩, h1, h2⟩ := st
    exact ⟨k z (by simp) _ hz, k TI (by simp) _ hTI, ⟨x, y, k TO (by simp) _ hTO⟩, h1.at fun o q => k i1 (by simp) o q, h2.at fun o q => k i2 (by simp) o q⟩
  item := by
    intro X hP hw hK i pins s σ H E I hf st hg
    subst hP hw hK
    obtain ⟨hz, hTI, ⟨x0, y0, hTO⟩, h1, h2⟩ := st
    obtain ⟨xs, ys, x, y, hqx, hqy, hx, hy⟩ := hg
    obtain ⟨its, rv, p, _⟩ := I.list hqx
    obtain ⟨its2, rv2, p2, _⟩ := I.list hqy
    obtain ⟨u, hu, ru⟩ := rv.get hx
    obtain ⟨u2, hu2, ru2⟩ := rv2.get hy
    have hzl : z < s.heap.objs.size := Heap.lt_size hz
    refine wpAny_pyNext_zip_item D hz hTI hTO h1 h2 p.isList p2.isList (x := u) (y := u2) (by simpa using hu) (by simpa using hu2) fun h' z' TO' h1' h2' hT hsz hk => ?_
    refine ⟨_, rfl, wpAny_letOwnedTupleGo_zip (s := { s with heap := h' }) z' fun h'' z'' sb => ?_⟩
    have hT2 : h''.get? s.heap.objs.size = some { cls := .type "tuple", data := .seq #[u, u2] } := (sb.2 _ (Nat.ne_of_gt hzl)).trans hT
    have new : ObjOk X.prog X.w (upd H s.heap.objs.size (.tup [x, y])) h'' s.heap.objs.size (.tup [x, y]) :=
      ⟨by show 2 ≤ sizeLine; decide, [u, u2], .cons ru (.cons ru2 .nil), ⟨_, hT2, rfl, _, rfl⟩⟩
    have I1 : Inv X pins σ (upd H s.heap.objs.size (.tup [x, y])) { s with heap := h'' } :=
      I.turnedNew (t' := s.toks) (ch := [z, TI, TO, i1, i2]) (fun c o hb q => (sb.2 c (fun q' => hb (by simp [q']))).trans (hk c o (fun q' => hb (by simp [q'])) (fun q' => hb (by simp [q'])) (fun q' => hb (by simp [q'])) (fun q' => hb (by simp [q'])) q)) hf (Nat.le_refl _) new
    refine ⟨.ref s.heap.objs.size, _, I1, rfl, ⟨_, x, y, rfl, I.hok.fresh (Nat.le_refl _), rfl, fun l hl => by rw [I.list_inj hl hqx]; exact hx, fun l hl => by rw [I.list_inj hl hqy]; exact hy⟩, ⟨z'', ?_, ⟨u, u2, ?_⟩, ?_, ?_⟩, fun c hcm => ?_⟩
    · exact (sb.2 _ D.TIz).trans (hk _ _ D.TIz D.TITO D.TIi1 D.TIi2 hTI)
    · exact (sb.2 _ D.TOz).trans TO'
    · exact h1'.at fun o q => (sb.2 _ D.i1z).trans q
    · exact h2'.at fun o q => (sb.2 _ D.i2z).trans q
    · have hlt : c < s.heap.objs.size := by
        have e' : c = z ∨ c = TI ∨ c = TO ∨ c = i1 ∨ c = i2 := by simpa using hcm
        rcases e' with q | q | q | q | q
        · rw [q]; exact hzl
        · rw [q]; exact Heap.lt_size hTI
        · rw [q]; exact Heap.lt_size hTO
        · rw [q]; obtain ⟨_, e1, _⟩ := h1; exact Heap.lt_size e1
        · rw [q]; obtain ⟨_, e2, _⟩ := h2; exact Heap.lt_size e2
      rw [upd_ne (Nat.ne_of_lt hlt)]
      exact (hf c hcm).1
  done := by
    intro X hP hw hK i pins s σ H E I hf lv hne st hg
    subst hP hw hK
    obtain ⟨hz, hTI, ⟨x0, y0, hTO⟩, h1, h2⟩ := st
    obtain ⟨xs, ys, hqx, hqy, hend⟩ := hg
    obtain ⟨its, rv, p, _⟩ := I.list hqx
    obtain ⟨its2, rv2, p2, _⟩ := I.list hqy
    have l1 := rv.length
    have l2 := rv2.length
    have he : its.toArray[i]? = none ∨ its2.toArray[i]? = none := by
      rcases hend with q | q
      · exact .inl (by simp; omega)
      · exact .inr (by simp; omega)
    exact pyNext_zip_endG lv (fun x1 hh => ⟨fun q => hne x1 hh (by simp [q]), fun q => hne x1 hh (by simp [q]), fun q => hne x1 hh (by simp [q]), fun q => hne x1 hh (by simp [q])⟩) D hz hTI hTO h1 h2 p.isList p2.isList he fun h' hk => ⟨rfl, I.turnedL (t' := s.toks) (ch := [z, TI, TO, i1, i2]) (fun c o hb q =>
      hk c o (fun q' => hb (by simp [q'])) (fun q' => hb (by simp [q'])) (fun q' => hb (by simp [q'])) (fun q' => hb (by simp [q'])) q) hf⟩
  self := fun A i s Q E st h => wpAny_pyIter_zip st.1 h
theorem pi_zipG {X : Cx} {e e2 : Expr} {ta : TA} {p pos tpos : Pos} {elts : List Expr} {kk : Nat} (hg : Gl X "zip") (hm : X.mg "zip" = none) (ha : PA X [e, e2] ta)
    (hs : starEach [e, e2] X.env = (false, eval e X.env) :: starEach [e2] X.env := by rfl) (hpl : (backTo pos (starEach [e2] X.env)).any (·.1) = false := by rfl) :
    PIG X (.Tuple elts kk tpos) (.Call (.Name "zip" p) [e, e2] [] pos) (iZip X.K ta) := by
  refine ⟨fun pins s σ H R I h => ?_⟩
  refine Call_ (ld_blt I hg hm PyProof.Rows.boot_zip (PyProof.Rows.callWith_type1 (thn (ha.run pos pins s σ H _ I h) fun us s1 ⟨vs, H1, I1, r1, q1⟩ => ?_) hs hpl))
  obtain ⟨a, b, xs, ys, ex, hqx, hqy, q⟩ := q1
  subst ex
  cases r1 with
  | cons r rr =>
    cases rr with
    | cons r' rr =>
      cases rr
      cases r
      cases r'
      obtain ⟨its, rv, p1, _⟩ := I1.list hqx
      obtain ⟨its2, rv2, p2, _⟩ := I1.list hqy
      have la : a < s1.heap.objs.size := p1.lt
      have lb : b < s1.heap.objs.size := p2.lt
      refine call_zip_2 p1.isList p2.isList fun h' hz hTI hTO h1 h2 hsz hk => wpAny_pyIter_zip hz ?_
      have I2 : Inv X pins σ H1 { s1 with heap := h' } := I1.kept (t' := s1.toks) hk
      refine ⟨s1.heap.objs.size + 4, [s1.heap.objs.size + 4, s1.heap.objs.size + 2, s1.heap.objs.size + 3, s1.heap.objs.size, s1.heap.objs.size + 1], _, _, H1, rfl, I2, turn_zipG (PySem.W.ktu_apart s1.heap.objs.size a b la lb), ⟨hz, hTI, ⟨_, _, hTO⟩, h1, h2⟩, fun c hcm => ?_, q⟩
      have e' : c = s1.heap.objs.size + 4 ∨ c = s1.heap.objs.size + 2 ∨ c = s1.heap.objs.size + 3 ∨ c = s1.heap.objs.size ∨ c = s1.heap.objs.size + 1 := by simpa using hcm
      have hle : s1.heap.objs.size ≤ c := by
        rcases e' with z | z | z | z | z
        · rw [z]; exact Nat.le_add_right _ _
        · rw [z]; exact Nat.le_add_right _ _
        · rw [z]; exact Nat.le_add_right _ _
        · rw [z]; exact Nat.le_refl _
        · rw [z]; exact Nat.le_add_right _ _
      exact I1.fpOk hle (I1.hok.fresh hle)
/-- a comprehension's block, the exception handled pinned -/
abbrev blkH (X : Cx) (p : Addr × Obj) (s : Shared) (H : Hp) (scope : Scope) (cenv : Env) (fp : List Addr) : Cx := { X.blk s H scope cenv fp with pn := [p] }
section
variable {X : Cx}
theorem hot_at {A : Around} {p : Addr × Obj} {x1 : Addr} (hc : Hot1 A p) (hh : A.handled = some (.ref x1)) : p.1 = x1 := by
  have z := hc.1
  rw [hh] at z
  cases z
  rfl
theorem lv_of {Y : Cx} {p : Addr × Obj} {σ : L2.St} {H : Hp} {s : Shared} (hc : Hot1 Y.A p) (hpn : p ∈ Y.pn) {pins : List (Addr × Obj)} (I : Inv Y pins σ H s) : Lv Y.A s.heap := by
  obtain ⟨h1, vs, h2, h3⟩ := hc
  exact .inr ⟨p.1, h1, p.2, vs, (I.pin p (List.mem_append_left _ hpn)).1, h2, h3⟩
theorem pin_one {Y : Cx} {p : Addr × Obj} {pins : List (Addr × Obj)} {σ σ' : L2.St} {H : Hp} {s s' : Shared} (I4 : Inv Y [] σ' H s') (hpn : p ∈ X.pn) (I3 : Inv X pins σ H s) (k : ∀ b o, s.heap.get? b = some o → s'.heap.get? b = some o) (hl : Y.env.locals = s.heap.objs.size := by rfl) (hfs : Y.outer = X.stack := by rfl) : Inv { Y with pn := [p] } [] σ' H s' where
  ok := ⟨I4.ok.mod, I4.ok.kind, I4.ok.glob, I4.ok.blt, I4.ok.above, I4.ok.inj, I4.ok.has, I4.ok.cab, I4.ok.hd, I4.ok.frames, I4.ok.stk, I4.ok.exf, I4.ok.bs, I4.ok.bsz, I4.ok.noex, I4.ok.exfs, I4.ok.funs, I4.ok.frf⟩
  os := I4.os
  bare := I4.bare
  base := I4.base
  loc := I4.loc
  cell := I4.cell
  free := I4.free
  freeC := I4.freeC
  pin := fun q hq => by
    cases List.mem_singleton.mp (show q ∈ [p] from by simpa using hq)
    obtain ⟨a1, a2, a3, a4, a5⟩ := I3.pin p (List.mem_append_left _ hpn)
    exact ⟨k _ _ a1, a2, by rw [hl]; exact Nat.ne_of_lt (Heap.lt_size a1), fun z => by
      unfold Cx.fs at z
      rw [hfs] at z
      rcases List.mem_cons.mp (I3.stkSub _ z) with e | e
      · exact a3 e
      · exact a4 e, a5⟩
  hok := I4.hok
  len := I4.len
theorem lc_coreH {p : Addr × Obj} {pins : List (Addr × Obj)} {s : Shared} {σ : L2.St} {H : Hp} {Q : VK} {elt tg iter : Expr} {ifs : List Expr} {scope : Scope} {own : List (Str × Nat)} {pos pos' : Pos} {wi : TI} {g : TG} {tt : TT} {te : TE} {use : Option (Value → Sem Unit)} {Qf : Value → Shared → Prop}
    (hc : Hot1 X.A p) (hpn : p ∈ X.pn) (hN : X.N.Nodup) (I : Inv X pins σ H s) (hi : PIG X tg iter wi) (ok : BlkOk X.N X.env.scope scope own)
    (hg : ∀ (s : Shared) (H : Hp) (C : Addr) (cl : List (Str × Addr)) (fp : List Addr), PG (blkH X p s H scope (compEnvC scope cl C X.env) fp) tg g) (ht : ∀ (s : Shared) (H : Hp) (C : Addr) (cl : List (Str × Addr)) (fp : List Addr), PTs (blkH X p s H scope (compEnvC scope cl C X.env) fp) ifs tt)
    (he : ∀ (s : Shared) (H : Hp) (C : Addr) (cl : List (Str × Addr)) (fp : List Addr), PE (blkH X p s H scope (compEnvC scope cl C X.env) fp) elt te) (hs : ∀ x, foldedSetIterable iter X.env x = pure x)
    (h : tLc wi g tt te (own.map (·.2)) σ H Q)
    (hRR : ∀ D C s' m H', Inv X pins σ H' s' → Q (.ref D) H' → s'.heap.Ns C m → FpOk X pins H' C → compPost (model X.prog X.w) X.A X.xe use Qf (.ref D) C (.ok .next) s') :
    wpAny (model X.prog X.w) X.A (comprehension (.ListComp elt [⟨tg, iter, ifs, 0⟩] scope pos) scope X.env pos' (newList []) false (eval iter X.env) use) Qf X.xe s := by
  have hfree : ∀ y ∈ scope.names, y.2 = .free → ∃ c, X.env.cells.lookup y.1 = some c := fun y hy e => by
    rcases ok.free y hy e with k | k
    · exact I.ok.has _ (.inl k)
    · exact I.ok.has _ (.inr k)
  refine wpAny_comprehension_free (use := use) rfl hs (closure_ok hfree) ok.kind (fun y hy e => by rw [ok.uniq y hy, e])
    (thn (hi.run pins s σ H _ I h) fun xv s1 hx => thn hx fun itv s2 h2 => ?_)
  obtain ⟨it, fp, tn, J, H2, e, I2, T, st2, f2, q⟩ := h2
  subst e
  refine wpAny_newObj_type (newEnv_comp ?_) (by show 0 ≤ sizeLine; decide)
  generalize hD : s2.heap.objs.size = D
  have hDn : H2 D = none := I2.hok.fresh (Nat.le_of_eq hD)
  obtain ⟨W, ⟨m0, w0⟩, turn⟩ := q D hDn
  -- the new list
  generalize hs3 : ({ s2 with heap := s2.heap.push { cls := .type "list", data := .seq ([] : List Value).toArray } } : Shared) = s3
  have I3 : Inv X pins σ (upd H2 D (.lst [])) s3 := by
    rw [← hs3]
    refine I2.laid (t' := s2.toks) (fun b o e => Heap.get?_push_of_some _ e) (Nat.le_of_eq hD) ⟨Nat.zero_le _, [], 0, .nil, ?_⟩
    rw [← hD]
    exact Heap.get?_push_size _ rfl
  have h3 : s3.heap = s2.heap.push { cls := .type "list", data := .seq ([] : List Value).toArray } := by rw [← hs3]
  have sz : ∀ b ∈ fp, b < s2.heap.objs.size := fun b hb => by
    obtain ⟨o, e, _⟩ := T.obj _ _ st2 b hb
    exact Heap.lt_size e
  have f3 : ∀ b ∈ fp, FpOk X pins (upd H2 D (.lst [])) b ∧ b < s3.heap.objs.size := fun b hb => by
    have hlt := sz b hb
    refine ⟨⟨?_, (f2 b hb).2⟩, by rw [h3, Heap.size_push]; exact Nat.lt_succ_of_lt hlt⟩
    rw [upd_ne (by rw [← hD]; exact Nat.ne_of_lt hlt)]
    exact (f2 b hb).1
  have st3 : tn 0 s3.heap := T.keep _ _ _ st2 fun b _ o e => by rw [h3]; exact Heap.get?_push_of_some _ e
  have I4 := pin_one (p := p) (block_start I3 ok hN f3) hpn I3 (fun b o e => pushCells_keeps _ _ _ _ (Heap.get?_push_of_some _ e))
  have pg := hg s3 (upd H2 D (.lst [])) s3.heap.objs.size (cellsFrom (s3.heap.objs.size + 1) scope.names (cloFrom X.env.cells scope.names [])) fp
  have pt := ht s3 (upd H2 D (.lst [])) s3.heap.objs.size (cellsFrom (s3.heap.objs.size + 1) scope.names (cloFrom X.env.cells scope.names [])) fp
  have pe := he s3 (upd H2 D (.lst [])) s3.heap.objs.size (cellsFrom (s3.heap.objs.size + 1) scope.names (cloFrom X.env.cells scope.names [])) fp
  show codeAny _ _ (.compStart (.ListComp elt [⟨tg, iter, ifs, 0⟩] scope pos) 0 (.ref it) (.ref D) (compEnvC scope (cellsFrom (s3.heap.objs.size + 1) scope.names (cloFrom X.env.cells scope.names [])) s3.heap.objs.size X.env)) (compPost (model X.prog X.w) X.A X.xe use Qf (.ref D) s3.heap.objs.size) { s3 with heap := pushCells (s3.heap.push { cls := .type "dict", data := .dict #[] }) scope.names }
  have nfp : ∀ b ∈ fp, (upd H2 D (.lst [])) b = none := fun b hb => (f3 b hb).1.1
  generalize hce : compEnvC scope (cellsFrom (s3.heap.objs.size + 1) scope.names (cloFrom X.env.cells scope.names [])) s3.heap.objs.size X.env = ce at I4 pg pt pe ⊢
  have cL : ce.locals = s3.heap.objs.size := by subst hce; rfl
  generalize hH3 : upd H2 D (.lst []) = H3 at I3 I4 pg pt pe w0 nfp f3
  generalize hs4 : ({ s3 with heap := pushCells (s3.heap.push { cls := .type "dict", data := .dict #[] }) scope.names } : Shared) = s4 at I4 ⊢
  have st4 : tn 0 s4.heap := T.keep _ _ _ st3 fun b _ o e => by rw [← hs4]; exact pushCells_keeps _ _ _ _ (Heap.get?_push_of_some _ e)
  have stat : ∀ {σ' : L2.St} {H' : Hp} {s' : Shared}, Inv (blkH X p s3 H3 scope ce fp) [] σ' H' s' → (∀ b ∈ fp, H' b = none) → ∀ b ∈ fp, FpOk (blkH X p s3 H3 scope ce fp) [] H' b := fun {σ' H' s'} I' hn b hb =>
    ⟨hn b hb, (I'.ok.exf b hb).1, I'.ok.exfs b hb, .inl hb, fun x c e => (I'.ok.exf b hb).2 x c e, fun q hq => by
      cases List.mem_singleton.mp (show q ∈ [p] ++ [] from hq)
      exact (f3 b hb).1.2.2.2.2.2 p (List.mem_append_left _ hpn)⟩
  have loop : codeAny (model X.prog X.w) X.A (.compLoop (.ListComp elt [⟨tg, iter, ifs, 0⟩] scope pos) 0 (.ref it) (.ref D) ce) (compPost (model X.prog X.w) X.A X.xe use Qf (.ref D) s3.heap.objs.size) s4 := by
    refine compLoop_any (fun n s' => ∃ i H', Inv (blkH X p s3 H3 scope ce fp) [] (wipe σ (own.map (·.2))) H' s' ∧ tn i s'.heap ∧ (∀ b ∈ fp, H' b = none) ∧ W i n H') ?_ m0 ⟨0, H3, I4, st4, nfp, w0⟩
    rintro n s5 ⟨i, H5, I5, st5, n5, w5⟩
    rcases turn i n H5 w5 with ⟨stop, qq⟩ | ⟨go, Nx, hNx, step⟩
    · have td := T.done (blkH X p s3 H3 scope ce fp) rfl rfl rfl i [] s5 _ H5 (fun _ _ => False) I5 (stat I5 n5) (lv_of (Y := blkH X p s3 H3 scope ce fp) hc (List.mem_singleton.mpr rfl) I5) (fun x1 hh hx => (f3 x1 hx).1.2.2.2.2.2 p (List.mem_append_left _ hpn) (hot_at hc hh)) st5 stop
      refine thnF td fun r s6 ⟨hr, I6⟩ => ?_
      subst hr
      -- back in the def's context
      have I7 : Inv X pins σ H5 s6 := I3.call' (ch := fp) I6.os I6.base I6.hok I6.bare fun b hb => ⟨(f3 b hb).1.2.2.2.1, (f3 b hb).1.2.1, (f3 b hb).1.2.2.2.2.1, (f3 b hb).1.2.2.2.2.2⟩
      have nC : H5 s3.heap.objs.size = none := by
        have z : H5 ce.locals = none := I6.free
        rw [cL] at z
        exact z
      obtain ⟨m, hn, _⟩ := I6.loc
      have hn : s6.heap.Ns ce.locals m := hn
      rw [cL] at hn
      exact hRR D s3.heap.objs.size s6 m H5 I7 qq hn (I3.fpOk (Nat.le_refl _) nC)
    · have ti := T.item (blkH X p s3 H3 scope ce fp) rfl rfl rfl i [] s5 _ H5 (fun _ _ => False) I5 (stat I5 n5) st5 go
      refine thnF ti fun r s6 ⟨u, hr, h6⟩ => ?_
      subst hr
      refine thnF h6 fun _ s7 ⟨x, H7, I7, r7, y7, st7, n7⟩ => ?_
      have I7' := I7.pinned (stat I7 n7) (T.obj _ _ st7)
      refine thnF (pg.run _ s7 _ H7 x u _ I7' r7 (step x H7 y7)) fun _ s8 ⟨σ8, H8, I8, hw8, q8⟩ => ?_
      refine thnF (pt.run _ s8 σ8 H8 _ I8 q8) fun b s9 ⟨H9, I9, q9⟩ => ?_
      -- the turn's end
      have fin : ∀ {s' : Shared} {H' : Hp}, Inv (blkH X p s3 H3 scope ce fp) ([] ++ pinsAt fp s7.heap) σ8 H' s' → Nx H' → ∃ m, m < n ∧ ∃ i H', Inv (blkH X p s3 H3 scope ce fp) [] (wipe σ (own.map (·.2))) H' s' ∧ tn i s'.heap ∧ (∀ b ∈ fp, H' b = none) ∧ W i m H' := fun {s' H'} I' nx => by
        obtain ⟨m', hm, w'⟩ := hNx H' nx
        have pin' : ∀ b ∈ fp, ∀ o, s7.heap.get? b = some o → s'.heap.get? b = some o ∧ H' b = none := fun b hb o e =>
          let z := I'.pin (b, o) (List.mem_append_right _ (List.mem_append_right _ (mem_pinsAt hb e)))
          ⟨z.1, z.2.1⟩
        have hl : (wipe σ (own.map (·.2))).length = σ8.length := by rw [← hw8, wipe_length]
        refine ⟨m', hm, i + 1, H', (I'.unpinned (pins := [])).weak hl (fun j v e => ?_), T.keep _ _ _ st7 fun b hb o e => (pin' b hb o e).1, fun b hb => ?_, w'⟩
        · rw [← hw8] at e
          exact (wipe_some e).1
        · obtain ⟨o, e, _⟩ := T.obj _ _ st7 b hb
          exact (pin' b hb o e).2
      cases b with
      | false =>
        simp only [Bool.false_eq_true, if_false] at q9 ⊢
        exact fin I9 q9
      | true =>
        simp only [if_true] at q9 ⊢
        refine thnF (pe.run _ s9 σ8 H9 _ I9 q9) fun z s10 ⟨yv, H10, I10, r10, acc, hD10, hz10, nx⟩ => ?_
        exact app_ok (X := blkH X p s3 H3 scope ce fp) I10 hD10 hz10 r10 fun s11 I11 => fin I11 nx
  exact codeAny_compStart_list loop (T.self X.A 0 _ _ _ st4 loop)
theorem pe_lcH {p : Addr × Obj} {elt tg iter : Expr} {ifs : List Expr} {scope : Scope} {own : List (Str × Nat)} {pos : Pos} {wi : TI} {g : TG} {tt : TT} {te : TE} (hc : Hot1 X.A p) (hpn : p ∈ X.pn) (hN : X.N.Nodup) (hi : PIG X tg iter wi) (ok : BlkOk X.N X.env.scope scope own)
    (hg : ∀ (s : Shared) (H : Hp) (C : Addr) (cl : List (Str × Addr)) (fp : List Addr), PG (blkH X p s H scope (compEnvC scope cl C X.env) fp) tg g) (ht : ∀ (s : Shared) (H : Hp) (C : Addr) (cl : List (Str × Addr)) (fp : List Addr), PTs (blkH X p s H scope (compEnvC scope cl C X.env) fp) ifs tt)
    (he : ∀ (s : Shared) (H : Hp) (C : Addr) (cl : List (Str × Addr)) (fp : List Addr), PE (blkH X p s H scope (compEnvC scope cl C X.env) fp) elt te) (hs : ∀ x, foldedSetIterable iter X.env x = pure x := by intro _; rfl) :
    PE X (.ListComp elt [⟨tg, iter, ifs, 0⟩] scope pos) (tLc wi g tt te (own.map (·.2))) := by
  refine ⟨fun pins s σ H Q I h => ?_⟩
  rw [eval_ListComp]
  refine lc_coreH hc hpn hN I hi ok hg ht he hs h fun D C s' m H' I' q hn f => ⟨m, hn, fun h'' sb => ?_⟩
  obtain ⟨f0, f1, f2, f3, f4, f5⟩ := f
  exact ⟨.ref D, H', I'.turned (t' := s'.toks) (fun b o hb e => (sb.2 b hb).trans e) f0 f1 f3 f4 f5, rfl, q⟩
end
end Ht

namespace Ht
open PySem PySem.Spec PyProof.Rows L2 Fi
section
variable {prog : Program} {w : World} {A : Around} {E : Value → Shared → Prop} {s : Shared}
theorem next_tuple_endG {it t : Addr} {i : Nat} {items : Array Value} {Q : Option Value → Shared → Prop} (lv : Lv A s.heap) (hne : ∀ x1, A.handled = some (.ref x1) → x1 ≠ it)
    (hit : IsTupIter s.heap it t i) (ht : IsTup s.heap t items) (hx : items[i]? = none)
    (hQ : ∀ h', Heap.ExtBut it s.heap h' → Q none { s with heap := h' }) : wpAny (model prog w) A (pyNext (.ref it)) Q E s := by
  obtain ⟨o, ho, hc, hd⟩ := id hit
  obtain ⟨ol, hol, _, nl, hdl⟩ := ht
  unfold pyNext
  refine wpAny_bind (wpAny_attempt (wpAny_callSpecial?_slot (name := Str.ofString "__next__") hit.typeIs slot_tupleiter_next
    (wpAny_call_entry slot_tupleiter_next hit.typeIs entry_tupleiter_next ?_ (args_tupleiter_next _))))
  show wpAny _ _ (field (.ref it) 0 >>= _) _ _ s
  refine wpAny_bind (wpAny_field ho hd (x := .ref t) rfl ?_)
  show wpAny _ _ (if (Value.ref t == Value.none) = true then _ else _) _ _ s
  rw [if_neg (show ¬ ((Value.ref t == Value.none) = true) from Bool.false_ne_true)]
  show wpAny _ _ (field (.ref it) 1 >>= _) _ _ s
  refine wpAny_bind (wpAny_field ho hd (x := .int i 0) rfl ?_)
  show wpAny _ _ (seqItems? (.ref t) >>= _) _ _ s
  refine wpAny_bind (wpAny_seqItems hol hdl ?_)
  simp only [Int.toNat_natCast, hx]
  refine wpAny_bind (wpAny_rule (wpAny_bind (wpAny_setField ho hd (by simp) ?_)))
  show wpAny _ _ (newExc (.type "StopIteration") [] >>= _) _ _ _
  refine wpAny_bind ?_
  simp only [newExc, newTuple]
  refine wpAny_bind (wpAny_newObj_type ?_ (by size_fits))
  refine wpAny_bind (m := firstArgMember _ _) (wpAny_of_eq (a := Value.none) (by first | rfl | (simp only [firstArgMember]; rfl)) ?_)
  refine wpAny_newObj_type ?_ (by size_fits)
  have up : ∀ b u, b ≠ it → s.heap.get? b = some u → (s.heap.update it (Obj.mapFields (·.setIfInBounds 0 .none))).get? b = some u := fun b u hb e => by
    rw [Heap.get?_update_other _ _ (Ne.symm hb)]
    exact e
  refine raiseG ?_ ?_ (Heap.get?_push_size _ rfl) rfl (by first | (simp; done) | (simp; omega) | (simp only [Array.size_append]; simp; omega)) fun h' sb ⟨o', e', c'⟩ => ?_
  · exact lv.up fun x1 hh o e => Heap.get?_push_of_some _ (Heap.get?_push_of_some _ (up _ _ (hne x1 hh) e))
  · intro x1 hh
    rcases lv with q | ⟨x2, hh2, o2, vs2, h2, _⟩
    · have z : A.handled = some (.ref x1) := hh
      rw [q] at z
      cases z
    · have z : A.handled = some (.ref x1) := hh
      rw [hh2] at z
      cases z
      exact Nat.ne_of_lt (Heap.lt_size (Heap.get?_push_of_some _ (up _ _ (hne _ hh2) h2)))
  · refine wpAny_bind (wpAny_isInstance (T := "StopIteration") (b := true) ⟨o', e', c'⟩ isSubtype_stop ?_)
    refine wpAny_pure (hQ h' fun b u hb e => ?_)
    have q := Heap.get?_push_of_some { cls := .type "tuple", data := .seq ([] : List Value).toArray } (up b u hb e)
    rw [sb.2 b (Nat.ne_of_lt (Heap.lt_size q))]
    exact Heap.get?_push_of_some _ q
theorem unpackG {t : Addr} {items : Array Value} {targets : List (Bool × (Value → Sem Unit))} {Q : Unit → Shared → Prop} (lv : Lv A s.heap) (ht : IsTup s.heap t items)
    (hn : targets.length = items.size) (hstar : targets.findIdx? (·.1) = none)
    (h : ∀ h', Heap.ExtBut s.heap.objs.size s.heap h' → wpAny (model prog w) A (assignInOrder (targets.map (·.2)) items.toList) Q E { s with heap := h' }) :
    wpAny (model prog w) A (unpack (.ref t) targets) Q E s := by
  unfold unpack
  rw [hn, hstar]
  refine wpAny_bind (wpAny_holding ?_)
  have hlt : t ≠ s.heap.objs.size := by obtain ⟨o, ho, _⟩ := ht; exact Nat.ne_of_lt (Heap.lt_size ho)
  have hne : ∀ x1, A.handled = some (.ref x1) → x1 ≠ s.heap.objs.size := fun x1 hh => by
    rcases lv with q | ⟨x2, hh2, o2, vs2, h2, _⟩
    · rw [q] at hh; cases hh
    · rw [hh2] at hh
      cases hh
      exact Nat.ne_of_lt (Heap.lt_size h2)
  unfold unpackItems
  refine wpAny_bind ?_
  unfold notIterableAtAll
  refine wpAny_bind (wpAny_specialOf ht.typeIs slot_tuple_iter.lookup ?_)
  refine wpAny_pure ?_
  simp only [Bool.false_eq_true, if_false]
  refine wpAny_bind (wpAny_holding (iter_tuple ht ?_))
  refine wpAny_bind (wpAny_holding (draw_tuple hlt items.size 0 _ _ ⟨_, Heap.get?_push_size _ rfl, rfl, rfl⟩ (ht.push _) (by omega) fun h₁ hit₁ hs₁ => ?_))
  have hall : List.take items.size (List.drop 0 items.toList) = items.toList := by
    rw [List.drop_zero]; exact List.take_of_length_le (by simp)
  rw [hall]
  rw [if_neg (by simp)]
  have ht₁ : IsTup h₁ t items := (ht.push _).extBut hs₁.extBut hlt
  have lv1 : Lv A h₁ := lv.up fun x1 hh o e => hs₁.extBut _ _ (hne x1 hh) (Heap.get?_push_of_some _ e)
  refine wpAny_bind (wpAny_holding (next_tuple_endG lv1 hne hit₁ ht₁ (by simp) fun h₂ he₂ => ?_))
  simp only [Option.isSome_none, Bool.false_eq_true, if_false]
  refine wpAny_pure (h h₂ fun b o hb e => he₂ b o hb (hs₁.extBut b o hb (Heap.get?_push_of_some _ e)))
end
section
variable {X : Cx} {pos : Pos}
theorem pg_tupH {p : Addr × Obj} {es : List Expr} {k : Nat} {t : TGs} {n : Nat} (hc : Hot1 X.A p) (hpn : p ∈ X.pn) (h : PGs X es t)
    (hn : (assignEach es X.env).length = n := by rfl) (hst : (assignEach es X.env).findIdx? (·.1) = none := by rfl) : PG X (.Tuple es k pos) (L2.gTup X.K n t) := by
  refine ⟨fun pins s σ H v u Q I r hw => ?_⟩
  obtain ⟨a, xs, e1, hq, hl, hw⟩ := hw
  subst e1
  cases r
  obtain ⟨its, rv, ht, hz⟩ := I.tuple hq
  rw [assign_Tuple]
  refine wpAny_bind (wpAny_standAt (unpackG (lv_of hc hpn I) ht (by simp [hn, ← hl, rv.length]) hst fun h' hx => ?_))
  have I1 : Inv X pins σ H { s with heap := h' } := I.kept (t' := s.toks) fun b o e => hx b o (Nat.ne_of_lt (Heap.lt_size e)) e
  exact h.run pins _ σ H xs _ Q I1 (by simpa using rv) hw
theorem g_tupH {p : Addr × Obj} {es : List Expr} {k n : Nat} {m : Bool} {sl : List Nat} {r : List PyData → Fi.En → Option Fi.En} (hc : Hot1 X.A p) (hpn : p ∈ X.pn) (h : PGs X es (Fi.tGs X.K m sl r))
    (hn : (assignEach es X.env).length = n := by rfl) (hst : (assignEach es X.env).findIdx? (·.1) = none := by rfl) : PG X (.Tuple es k pos) (Fi.tG X.K m sl (gTupF n r)) := by
  refine pg_le (pg_tupH hc hpn h hn hst) fun v σ H Q ⟨Z, Hf, env, d, env', R, hd, hg, kk⟩ => ?_
  unfold gTupF at hg
  split at hg
  · rename_i ds
    split at hg
    · rename_i hl
      obtain ⟨a, xs, rfl, hp, ha⟩ := hd.tup_of
      exact ⟨a, xs, rfl, sqT_up R.st.i hp, by rw [ha.len]; exact hl, Z, Hf, env, ds, env', R, ha, hg, kk⟩
    · cases hg
  · cases hg
end
def fCat : PyData → PyData → Option PyData
  | .list a, .list b => if a.length + b.length ≤ 100000 then some (.list (a ++ b)) else none
  | _, _ => none
theorem fCat_some {x y z : PyData} (h : fCat x y = some z) : ∃ a b, x = .list a ∧ y = .list b ∧ a.length + b.length ≤ 100000 ∧ z = .list (a ++ b) := by
  unfold fCat at h
  split at h
  · split at h
    · rename_i hl
      cases h
      exact ⟨_, _, rfl, rfl, hl, rfl⟩
    · cases h
  · cases h
theorem od_cat {X : Cx} : OpD X (binaryOp .Add) fCat := by
  intro pins s σ H x y v u Q I rx ry ⟨Hf, dx, dy, dz, hi, hx, hy, hf, k⟩
  obtain ⟨a, b, rfl, rfl, hl, rfl⟩ := fCat_some hf
  obtain ⟨p, xs, rfl, hp, hd1⟩ := hx.lst_of
  obtain ⟨q, ys, rfl, hq, hd2⟩ := hy.lst_of
  refine op_catL pins s σ H _ _ v u Q I rx ry ⟨p, q, xs, ys, rfl, rfl, hi.seq hp, hi.seq hq, size_le (by rw [hd1.len, hd2.len]; exact hl), fun r hr => ?_⟩
  exact k _ _ (upd Hf r (.lst (xs ++ ys))) ((Stp.hid hi hr).show hr (hi.free hr) upd_same) (.lst (SqL.of upd_same) (DpAll_up (same_new (hi.free hr)) (hd1.app hd2)))
def atomsV : List PyData → Option (List V)
  | [] => some []
  | d :: r => (Ob.atomV d).bind fun x => (atomsV r).bind fun xs => some (x :: xs)
def fInA (neg : Bool) : PyData → PyData → Option PyData
  | d, .tuple ds => (Ob.atomV d).bind fun x => (atomsV ds).bind fun xs => if flatV x = true ∧ xs.all flatV = true then some (.bool (if neg then !inV x xs else inV x xs)) else none
  | _, _ => none
section
variable {X : Cx} {o e e2 : Expr} {f g : FE} {apos pos : Pos}
def fSplit : PyData → PyData → Option (List PyData)
  | .str a, .str b => if (b.length == 0) = false ∧ a.length + 2 ≤ sizeLine ∧ (Txt.split a b).length ≤ 100000 then some ((Txt.split a b).map .str) else none
  | _, _ => none
theorem fSplit_some {x y : PyData} {l : List PyData} (h : fSplit x y = some l) : ∃ a b, x = .str a ∧ y = .str b ∧ (b.length == 0) = false ∧ a.length + 2 ≤ sizeLine ∧ l = (Txt.split a b).map .str := by
  unfold fSplit at h
  split at h
  · split at h
    · rename_i hh
      cases h
      exact ⟨_, _, rfl, rfl, hh.1, hh.2.1, rfl⟩
    · cases h
  · cases h
def lSplit (f g : FE) : FL := fun env => (f env).bind fun x => (g env).bind fun y => fSplit x y
theorem dp_strs {K : PySem.W.Frag} {H : Hp} : ∀ ys : List Str, DpAll K H (ys.map V.str) (ys.map PyData.str)
  | [] => .nil
  | y :: ys => .cons (.str y) (dp_strs ys)
theorem l_split (ho : PE X o (Fi.tE X.K f)) (he : PE X e (Fi.tE X.K g)) (hs : starEach [e] X.env = [(false, eval e X.env)] := by rfl) (hbase : attributeBase o "split" X.env (eval o X.env) = eval o X.env := by rfl) (hline : (apos.endLine == pos.line) = true := by rfl) :
    PE X (.Call (.Attribute o "split" apos) [e] [] pos) (Fi.tL X.K (lSplit f g)) := pe_le (pe_split ho he hs hbase hline) fun σ H Q ⟨Z, Hf, env, d, R, hf, k⟩ => by
  obtain ⟨x, hx, hf⟩ := Option_bind_some hf
  obtain ⟨y, hy, hf⟩ := Option_bind_some hf
  obtain ⟨a, b, rfl, rfl, h1, h2, rfl⟩ := fSplit_some hf
  refine ⟨Z, Hf, env, _, R, hx, fun v H1 Hf1 s1 d1 => ⟨⟨a, d1.str_eq⟩, Z, Hf1, env, _, R.step s1, hy, fun v2 H2 Hf2 s2 d2 => ⟨a, b, d1.str_eq, by rw [d2.str_eq], h1, h2, fun p hp => ?_⟩⟩⟩
  exact k p _ _ _ ((s1.trans s2).trans (Stp.hid (s1.trans s2).i hp)) ((s1.trans s2).h.free hp) ((s1.trans s2).i.free hp) upd_same (dp_strs _)
def strsOf : List PyData → Option (List Str)
  | [] => some []
  | .str y :: r => (strsOf r).map (y :: ·)
  | _ :: _ => none
def fJoin : PyData → List PyData → Option PyData
  | .str a, l => (strsOf l).bind fun ys => if (ys.map (·.length)).sum + ys.length * a.length ≤ 16777216 then some (.str (Txt.join a ys)) else none
  | _, _ => none
theorem fJoin_some {x d : PyData} {l : List PyData} (h : fJoin x l = some d) : ∃ a ys, x = .str a ∧ strsOf l = some ys ∧ (ys.map (·.length)).sum + ys.length * a.length ≤ 16777216 ∧ d = .str (Txt.join a ys) := by
  unfold fJoin at h
  split at h
  · obtain ⟨ys, h1, h⟩ := Option_bind_some h
    split at h
    · rename_i hh
      cases h
      exact ⟨_, ys, rfl, h1, hh, rfl⟩
    · cases h
  · cases h
theorem strs_dp {K : PySem.W.Frag} {H : Hp} : ∀ {vs : List V} {l : List PyData} {ys : List Str}, DpAll K H vs l → strsOf l = some ys → vs = ys.map V.str
  | [], _, _, h, e => by cases h; cases e; rfl
  | v :: vs, _, ys, h, e => by
    cases h with
    | cons h t =>
      rename_i d l
      unfold strsOf at e
      split at e
      · cases ‹d :: l = []›
      · rename_i y r q
        cases q
        obtain ⟨zs, h1, rfl⟩ := Option.map_eq_some_iff.mp e
        rw [strs_dp t h1, h.str_eq]
        rfl
      · cases e
def eJoin (f : FE) (l : FL) : FE := fun env => (f env).bind fun x => (l env).bind fun y => fJoin x y
theorem x_join {l : FL} (ho : PE X o (Fi.tE X.K f)) (he : PE X e (Fi.tL X.K l)) (hs : starEach [e] X.env = [(false, eval e X.env)] := by rfl) (hbase : attributeBase o "join" X.env (eval o X.env) = eval o X.env := by rfl) (hline : (apos.endLine == pos.line) = true := by rfl) :
    PE X (.Call (.Attribute o "join" apos) [e] [] pos) (Fi.tE X.K (eJoin f l)) := pe_le (pe_join ho he hs hbase hline) fun σ H Q ⟨Z, Hf, env, d, R, hf, k⟩ => by
  obtain ⟨x, hx, hf⟩ := Option_bind_some hf
  obtain ⟨y, hy, hf⟩ := Option_bind_some hf
  obtain ⟨a, ys, rfl, h1, h2, rfl⟩ := fJoin_some hf
  refine ⟨Z, Hf, env, _, R, hx, fun v H1 Hf1 s1 d1 => ⟨⟨a, d1.str_eq⟩, Z, Hf1, env, _, R.step s1, hy, fun p vs H2 Hf2 s2 h0 n1 n2 d2 => ⟨a, p, ys, d1.str_eq, rfl, .inl ?_, h2, ?_⟩⟩⟩
  · rw [← strs_dp d2 h1]
    exact SqL.of n2
  · exact k _ H2 (upd Hf2 p (.lst vs)) (s1.trans (s2.show h0 n1 n2)) (.str _)
end
theorem pig_le {X : Cx} {tg e : Expr} {t t' : TI} (h : PIG X tg e t) (hm : ∀ σ H R, t' σ H R → t σ H R) : PIG X tg e t' := ⟨fun pins s σ H R I q => h.run pins s σ H R I (hm σ H R q)⟩
section
variable {X : Cx} {tg iter elt : Expr} {ifs : List Expr} {scope : Scope} {own : List (Str × Nat)} {pos : Pos} {fi : FL} {g : PyData → Fi.En → Option Fi.En} {p : FT} {f : FE} {vs sl : List Nat}
theorem l_lcH {pn : Addr × Obj} (hc : Hot1 X.A pn) (hpn : pn ∈ X.pn) (hN : X.N.Nodup) (hi : PIG X tg iter (Fi.tI X.K fi)) (ok : BlkOk X.N X.env.scope scope own)
    (hg : ∀ (s : Shared) (H : Hp) (C : Addr) (cl : List (Str × Addr)) (fp : List Addr), PG (blkH X pn s H scope (compEnvC scope cl C X.env) fp) tg (Fi.tG X.K false sl g)) (ht : ∀ (s : Shared) (H : Hp) (C : Addr) (cl : List (Str × Addr)) (fp : List Addr), PTs (blkH X pn s H scope (compEnvC scope cl C X.env) fp) ifs (Fi.tT X.K p))
    (he : ∀ (s : Shared) (H : Hp) (C : Addr) (cl : List (Str × Addr)) (fp : List Addr), PE (blkH X pn s H scope (compEnvC scope cl C X.env) fp) elt (Fi.tE X.K f)) (hvs : own.map (·.2) = vs := by rfl) (hsl : ∀ i ∈ sl, i ∈ vs := by decide) (hs : ∀ x, foldedSetIterable iter X.env x = pure x := by intro _; rfl) :
    PE X (.ListComp elt [⟨tg, iter, ifs, 0⟩] scope pos) (Fi.tL X.K (Fi.lLc fi g p f vs)) := by
  subst hvs
  exact pe_le (pe_lcH hc hpn hN hi ok hg ht he hs) fun _ _ _ w => Fi.tLc_of hsl w
end
theorem walk_zipL {K : PySem.W.Frag} {a b : Addr} {xs ys : List V} {n : Nat} (hn : n = min xs.length ys.length) : Walk (Itz K a b) n (fun H => SqL K H a xs ∧ SqL K H b ys) (YPair (fun i => xs[i]?) (fun i => ys[i]?)) := by
  subst hn
  refine ⟨fun i _ hi q => ?_, fun _ q => ⟨xs, ys, q.1, q.2, by omega⟩, fun i H v H' _ q y => ?_⟩
  · have h1 : i < xs.length := by omega
    have h2 : i < ys.length := by omega
    exact ⟨xs, ys, xs[i], ys[i], q.1, q.2, by simp [h1], by simp [h2]⟩
  · obtain ⟨T, x, z, h1, h2, h3, h4, h5⟩ := y
    exact ⟨T, x, z, h1, h2, h3, h4 xs q.1, h5 ys q.2⟩
theorem i_zipH {X : Cx} {e e2 : Expr} {r : FL} {p pos tpos : Pos} {elts : List Expr} {kk : Nat} (hg : Gl X "zip") (hm : X.mg "zip" = none) (ha : PA X [e, e2] (Fi.tA X.K r))
    (hs : starEach [e, e2] X.env = (false, eval e X.env) :: starEach [e2] X.env := by rfl) (hpl : (backTo pos (starEach [e2] X.env)).any (·.1) = false := by rfl) :
    PIG X (.Tuple elts kk tpos) (.Call (.Name "zip" p) [e, e2] [] pos) (Fi.tI X.K (iZ .l .l r)) := pig_le (pi_zipG hg hm ha hs hpl) fun σ H R ⟨Z, Hf, env, ds, Rl, hf, k⟩ => by
  unfold iZ at hf
  split at hf
  · rename_i x y hr
    obtain ⟨xs, hx, hf⟩ := Option_bind_some hf
    obtain ⟨ys, hy, hf⟩ := Option_bind_some hf
    cases hf
    refine ⟨Z, Hf, env, _, Rl, hr, fun vs H1 Hf1 s1 d1 => ?_⟩
    obtain ⟨v, w, rfl, hv, hw⟩ := d1.two
    obtain ⟨a, us, rfl, ha, hda⟩ := dp_itemsK hv hx
    obtain ⟨b, ws, rfl, hb, hdb⟩ := dp_itemsK hw hy
    refine ⟨a, b, us, ws, rfl, sqK_up s1.i ha, sqK_up s1.i hb, k _ H1 Hf1 s1 ?_⟩
    have hl : (pairs xs ys).length = min us.length ws.length := by
      unfold pairs
      rw [List.length_zipWith, hda.len, hdb.len]
    have w := walk_zipL (K := X.K) (a := a) (b := b) (xs := us) (ys := ws) hl
    refine w.mono (fun H h => ⟨sqK_up h ha, sqK_up h hb⟩) fun i H v H' hi _ y => ?_
    obtain ⟨T, x, z, h1, h2, h3, h4, h5⟩ := y
    obtain ⟨dx, e1, q1⟩ := hda.get h4
    obtain ⟨dy, e2, q2⟩ := hdb.get h5
    refine ⟨.tuple [dx, dy], ?_, .inr ⟨T, [x, z], [dx, dy], h1, h2, h3, rfl, .cons q1 (.cons q2 .nil)⟩⟩
    unfold pairs
    rw [List.getElem?_zipWith, e1, e2]
  · cases hf
end Ht

namespace Ht
open PySem PySem.Spec PyProof.Rows L2 Fi
def At (a : Addr) (σ : L2.St) : Prop := σ[0]? = some (some (.ref a))
def fE (K : PySem.W.Frag) (a : Addr) (f : FE) : TE := fun σ H Q => At a σ ∧ Fi.tE K f σ H Q
def fL (K : PySem.W.Frag) (a : Addr) (f : FL) : TE := fun σ H Q => At a σ ∧ Fi.tL K f σ H Q
def fA (K : PySem.W.Frag) (a : Addr) (f : FL) : TA := fun σ H Q => At a σ ∧ Fi.tA K f σ H Q
def fS (K : PySem.W.Frag) (a : Addr) (f : FS) : TS := fun D σ H => At a σ ∧ Fi.tS K f { D with nx := fun σ' H' => At a σ' → D.nx σ' H' } σ H
section
variable {X : Cx} {a : Addr} {e e2 : Expr} {es : List Expr} {f g : FE} {r l : FL} {pos : Pos}
theorem f_of (h : PE X e (Fi.tE X.K f)) : PE X e (fE X.K a f) := pe_le h fun _ _ _ q => q.2
theorem fa_nil : PA X [] (fA X.K a Fi.aNil) := pa_le Fi.a_nil fun _ _ _ q => q.2
theorem fa_cons (ha : PE X e (fE X.K a f)) (hr : PA X es (fA X.K a r)) (hs : starEach (e :: es) X.env = (false, eval e X.env) :: starEach es X.env := by rfl) : PA X (e :: es) (fA X.K a (Fi.aCons f r)) :=
  pa_le (pa_cons ha hr hs) fun σ H Q ⟨hA, Z, Hf, env, d, R, hf, k⟩ => by
    obtain ⟨x, hx, hf⟩ := Option_bind_some hf
    obtain ⟨xs, hxs, hf⟩ := Option_bind_some hf
    cases hf
    exact ⟨hA, Z, Hf, env, x, R, hx, fun v H1 Hf1 s1 d1 => ⟨hA, Z, Hf1, env, xs, R.step s1, hxs, fun vs H2 Hf2 s2 d2 => k (v :: vs) H2 Hf2 (s1.trans s2) (.cons (Dp_up s2.f d1) d2)⟩⟩
theorem fl_lst (h : PA X es (fA X.K a r)) : PE X (.List es pos) (fL X.K a (Fi.lLst r)) := pe_le (pe_lst h) fun σ H Q ⟨hA, Z, Hf, env, d, R, hf, k⟩ => by
  obtain ⟨xs, hxs, hf⟩ := Option_bind_some hf
  split at hf
  · rename_i hl
    cases hf
    refine ⟨hA, Z, Hf, env, d, R, hxs, fun vs H1 Hf1 s1 d1 => ⟨size_le (by rw [d1.len]; exact hl), fun p hp => ?_⟩⟩
    exact k p vs _ _ (s1.trans (Stp.hid s1.i hp)) (s1.h.free hp) (s1.i.free hp) upd_same d1
  · cases hf
theorem fx_L (h : PE X e (fL X.K a l)) : PE X e (fE X.K a (Fi.eL l)) := pe_le h fun σ H Q ⟨hA, Z, Hf, env, d, R, hf, k⟩ => by
  unfold Fi.eL at hf
  obtain ⟨xs, hxs, hq⟩ := Option.map_eq_some_iff.mp hf
  subst hq
  refine ⟨hA, Z, Hf, env, xs, R, hxs, fun p vs H1 Hf1 s1 h0 h1 h2 d1 => ?_⟩
  exact k _ _ _ (s1.show h0 h1 h2) (.lst (SqL.of upd_same) (DpAll_up (same_new h1) d1))
theorem fx_bin {op : Operator} {G : PyData → PyData → Option PyData} (ho : OpD X (binaryOp op) G) (ha : PE X e (fE X.K a f)) (hb : PE X e2 (fE X.K a g)) : PE X (.BinOp e op e2 pos) (fE X.K a (Fi.e2 G f g)) :=
  pe_le (pe_op ho ha hb) fun σ H Q ⟨hA, q⟩ => by
    obtain ⟨Z, Hf, env, d, R, hf, k⟩ := Fi.tOp_of q
    exact ⟨hA, Z, Hf, env, d, R, hf, fun v H1 Hf1 s1 d1 => ⟨hA, k v H1 Hf1 s1 d1⟩⟩
theorem f_set (i : Nat) {x : Str} {pos' : Pos} (hi0 : 0 < i) (hN : X.N.Nodup) (he : PE X e (fE X.K a f)) (hi : X.N[i]? = some x := by rfl) (hx : Loc X.env.scope x := by first | exact Or.inl rfl | exact Or.inr rfl) (hs : swapsWith e (some (.Name x pos')) pos.line X.env = pure false := by rfl) (hf : X.fn x = true ∨ X.env.scope.names.lookup x = some .local := by first | exact .inl rfl | exact .inr rfl | assumption) :
    PS X (.Assign [.Name x pos'] e pos) (fS X.K a (Fi.sSet i f)) := ps_le (ps_set hN hi hx he hs hf) fun D σ H ⟨hA, Z, Hf, env, o, R, hf, k⟩ => by
  obtain ⟨d, hd, rfl⟩ := Option.map_eq_some_iff.mp hf
  refine ⟨hA, Z, Hf, env, d, R, hd, fun v H1 Hf1 s1 d1 => k _ H1 Hf1 s1.f ((R.step s1).set i d1) ?_⟩
  unfold At
  rw [List.getElem?_set_ne (by omega)]
  exact hA
theorem f_cons {st : Stmt} {rest : List Stmt} {u v : FS} (h1 : PS X st (fS X.K a u)) (h2 : PSs X rest (fS X.K a v)) : PSs X (st :: rest) (fS X.K a (Fi.sSeq u v)) := pss_le (pss_cons h1 h2) fun D σ H ⟨hA, Z, Hf, env, o, R, hf, k⟩ => by
  unfold Fi.sSeq at hf
  cases q : u env with
  | none => rw [q] at hf; cases hf
  | some o1 =>
    rw [q] at hf
    cases o1 with
    | next e => exact ⟨hA, Z, Hf, env, _, R, q, fun σ' H' Hf' sm R' hA' => ⟨hA', Z, Hf', e, o, R', hf, k.up sm⟩⟩
    | brk e => cases hf; exact ⟨hA, Z, Hf, env, _, R, q, k⟩
    | cont e => cases hf; exact ⟨hA, Z, Hf, env, _, R, q, k⟩
    | ret d => cases hf; exact ⟨hA, Z, Hf, env, _, R, q, k⟩
    | retL d => cases hf; exact ⟨hA, Z, Hf, env, _, R, q, k⟩
    | retD d => cases hf; exact ⟨hA, Z, Hf, env, _, R, q, k⟩
theorem f_ret (he : PE X e (Fi.tE X.K f)) : PSs X [.Return (some e) pos] (fS X.K a (Fi.sRet f)) := pss_one (ps_le (ps_ret he) fun D σ H ⟨hA, Z, Hf, env, o, R, hf, k⟩ => by
  obtain ⟨d, hd, rfl⟩ := Option.map_eq_some_iff.mp hf
  exact ⟨Z, Hf, env, d, R, hd, fun v H1 Hf1 s1 d1 => k v H1 Hf1 (R.st.trans s1) d1⟩)
theorem call_isP {D : Addr} {oe : Obj} (C : ExcC X.K D) (hp : (a, oe) ∈ X.pn) (hz : Zc (.ref D) none oe) (hf : ∃ vs, oe.data = .fields vs) : CallR X (.builtin "isinstance") (rIsE X.K D a) := by
  intro pins s σ H xs us Q I r h
  obtain ⟨c, cv, b, rfl, hcv, e, q⟩ := h
  cases r with
  | cons rx rr =>
    cases rr with
    | cons rt rr =>
      cases rr
      cases rx
      have ec := hcv _ rt
      subst ec
      obtain ⟨hget, _⟩ := I.pin (a, oe) (List.mem_append.mpr (.inl hp))
      obtain ⟨vs, hv⟩ := hf
      have J : PySem.W.InstAt s.heap a oe D none := by
        obtain ⟨oc, od, oda, osl⟩ := oe
        obtain ⟨h1, h2⟩ := hz
        dsimp only at h1 h2 hv
        subst h1 h2 hv
        exact ⟨hget, rfl, rfl, trivial⟩
      exact PySem.W.kia_one (PySem.W.handS_kitx_exc C.hg C.hk C.hs C.hd C.ha C.hn C.ht C.hm) I.kIn J e (fun z => nomatch z) fun tk => ⟨.bl b, H, I.kept (t' := tk) fun _ _ z => z, rfl, q⟩
structure IsE (X : Cx) (a D : Addr) (oe : Obj) (x : Str) : Prop where
  c : ExcC X.K D
  p : (a, oe) ∈ X.pn
  z : Zc (.ref D) none oe
  f : ∃ vs, oe.data = .fields vs
  n : X.N[0]? = some x
  v : Vis X.env.scope x
  g : Gl X "isinstance"
  m : X.mg "isinstance" = none
theorem x_isE {D : Addr} {oe : Obj} {x C : Str} {b : Bool} {p p1 p2 : Pos} (E : IsE X a D oe x) (g : X.mg C = some (.ref (He.ga X.K C))) (hk : PySem.W.kitOne X.K (.ref D) (.ref (He.ga X.K C)) = some b) (hg2 : Gl X C := by rfl) (hdb2 : (C == ("__debug__" : Str)) = false := by decide)
    (hd : (x == ("__debug__" : Str)) = false := by decide) (hcd : (x == ("__classdict__" : Str)) = false := by decide)
    (hs : starEach [.Name x p1, .Name C p2] X.env = (false, eval (.Name x p1) X.env) :: starEach [.Name C p2] X.env := by rfl) (hs2 : starEach [.Name C p2] X.env = (false, eval (.Name C p2) X.env) :: starEach [] X.env := by rfl) (hpl : (backTo pos (starEach [.Name C p2] X.env)).any (·.1) = false := by rfl) :
    PE X (.Call (.Name "isinstance" p) [.Name x p1, .Name C p2] [] pos) (fE X.K a (Fi.eC (.bool b))) := by
  have ht : PE X (.Name C p2) (tC (.ref (He.ga X.K C))) := ⟨fun _ _ _ H _ I h => ld_glob I hg2 g ⟨.ref _, H, I, rfl, h⟩ hdb2⟩
  refine pe_le (pe_callB (call_isP E.c E.p E.z E.f) E.g E.m boot_isinstance (pa_cons (pe_var E.n E.v hd hcd) (pa_cons ht pa_nil hs2) hs) (by decide) (by decide) hs hpl) fun σ H Q ⟨hA, Z, Hf, env, d, R, hf, k⟩ => ?_
  cases hf
  exact ⟨.ref a, hA, _, .ref (He.ga X.K C), b, rfl, fun u hu => hu, hk, k _ H Hf (.refl R.st.i) (.bl b)⟩
theorem x_isET {D : Addr} {oe : Obj} {x C : Str} {T : String} {b : Bool} {p p1 p2 : Pos} (E : IsE X a D oe x) (hmC : X.mg C = none) (hbC : bootBuiltins C = some (.type T)) (hk : PySem.W.kitOne X.K (.ref D) (.type T) = some b) (hg2 : Gl X C := by rfl) (hdb2 : (C == ("__debug__" : Str)) = false := by decide) (hnn : C ≠ "__name__" := by decide)
    (hd : (x == ("__debug__" : Str)) = false := by decide) (hcd : (x == ("__classdict__" : Str)) = false := by decide)
    (hs : starEach [.Name x p1, .Name C p2] X.env = (false, eval (.Name x p1) X.env) :: starEach [.Name C p2] X.env := by rfl) (hs2 : starEach [.Name C p2] X.env = (false, eval (.Name C p2) X.env) :: starEach [] X.env := by rfl) (hpl : (backTo pos (starEach [.Name C p2] X.env)).any (·.1) = false := by rfl) :
    PE X (.Call (.Name "isinstance" p) [.Name x p1, .Name C p2] [] pos) (fE X.K a (Fi.eC (.bool b))) := by
  have ht : PE X (.Name C p2) (tC (.ty T)) := ⟨fun _ _ _ H _ I h => ld_blt I hg2 hmC hbC ⟨.ty T, H, I, rfl, h⟩ hnn hdb2⟩
  refine pe_le (pe_callB (call_isP E.c E.p E.z E.f) E.g E.m boot_isinstance (pa_cons (pe_var E.n E.v hd hcd) (pa_cons ht pa_nil hs2) hs) (by decide) (by decide) hs hpl) fun σ H Q ⟨hA, Z, Hf, env, d, R, hf, k⟩ => ?_
  cases hf
  exact ⟨.ref a, hA, _, .type T, b, rfl, fun u hu => hu, hk, k _ H Hf (.refl R.st.i) (.bl b)⟩
end
/-- f, handed the exception handled, one of the class at D, gives the text z -/
def FnE (P : Program) (w : World) (K : PySem.W.Frag) (mg : Str → Option Value) (base : Heap) (k : Nat) (f : Addr) (D : Addr) (z : Str) : Prop :=
  ∀ (A : Around) (outer : List Env) (s : Shared) (H Hf : Hp) (Q : VK) (p : Addr × Obj), L2H.RoomH k A → L2H.Hot1 A p → L2H.PinOk outer H s p → Zc (.ref D) none p.2 → Env0 P w K mg base A outer s H → Same Hf H → (∀ v H' Hf', Stp Hf H Hf' H' → Dp K Hf' v (.str z) → Q v H') →
    codeAny (model P w) A (.call (.ref f) ⟨[.ref p.1], []⟩) (CR CX0 outer P w H s Q E0) s
theorem fnE_ok {P : Program} {w : World} {K : PySem.W.Frag} {mg : Str → Option Value} {base : Heap} {x : Str} {params : Arguments} {body : List Stmt} {scope : Scope} {f D : Addr} {fd : FuncData} {N : List Str} {e : Str} {n k : Nat} {u : FS} {z : Str}
    (F : FunD K x x params body scope [] [] f fd) (S : FnScope N [e] scope) (hn : N.length = n)
    (hbd : ∀ (kV doc pm : Value) (an : Option Addr) (cdv ct : Value) (us : List Value), us.length = 1 → bindArgs (PySem.W.fnOf x x params body scope .none kV doc pm an cdv ct) ⟨us, []⟩ = pure ([e].zip us))
    (hu : u (List.replicate n none) = some (.ret (.str z)))
    (hb : ∀ (cdv : Value) (A : Around) (outer : List Env) (s : Shared) (H : Hp) (E : XK) (p : Addr × Obj), L2H.Hot1 A p → Zc (.ref D) none p.2 → L2H.RoomH k (A.deeper (envOfC x scope s.heap.objs.size f cdv)) → PSs (L2H.cxH CX0 P w K mg base N x scope f cdv A outer s H E p) body (fS K p.1 u)) :
    FnE P w K mg base (k + 1) f D z := by
  intro A outer s H Hf Q p hr hot hpin hz e0 hi k1
  have bd := F.bindsN (ps := [e]) hbd
  obtain ⟨oc, od, dV, kV, doc, pm, an, cdv, ct, osl, rfl, lk, hcd, _, _⟩ := F.ex
  have KX : K.In s.heap := e0.mod.kin.keeps fun b o e => (e0.bs b o e).1
  have lim : s.heap.NoLimit := e0.mod.nolimit.keeps fun b o e => (e0.bs b o e).1
  have b := bd s [.ref p.1] KX rfl
  rw [List.append_nil] at b
  have r : Vals [V.ref p.1] [Value.ref p.1] := .cons rfl .nil
  have hkind : ∀ y ∈ [e].zip [Value.ref p.1], scope.names.lookup y.1 = some .local ∨ (scope.names.lookup y.1 = some .cell ∧ ((cellsFrom (s.heap.objs.size + 1) scope.names []).lookup y.1).isSome = true) := fun ⟨n, v⟩ hy => by
    rcases S.par n (List.of_mem_zip hy).1 with q | q
    · exact .inl q
    · exact .inr ⟨q, PySem.W.cellsFrom_some _ _ _ (.inl q)⟩
  refine codeAny_call_function hr.depth (KX _ _ lk) rfl S.co S.gen rfl (PySem.W.codeRec_of KX hcd) (b _ _ _ _ ?_)
  refine wpAny_newFunctionEnv_cells S.kind hkind fun env he s1 x1 => ?_
  subst he
  refine ⟨lim.keeps x1.toInCall.keep, codeAny_func ?_⟩
  have ht := hb cdv A outer s H E0 p hot hz (hr.deeper _)
  have I : Inv (L2H.cxH CX0 P w K mg base N x scope f cdv A outer s H E0 p) [] (L2.start N [.ref p.1]) H s1 := L2H.inv_startH S hpin e0 rfl r x1
  have hpl : 1 ≤ N.length := by have := congrArg List.length S.pre; rw [List.length_take] at this; simp at this; omega
  have hq : fS K p.1 u { nx := fun _ H' => Q .non H', rt := Q } (L2.start N [.ref p.1]) H := by
    have hlen := I.len
    refine ⟨?_, (Hf, H), Hf, List.replicate n none, _, ⟨.refl hi, ?_, fun i sl e => ?_, fun i j x y q e => ?_⟩, hu, fun v H' Hf' st d => k1 v H' Hf' st d⟩
    · unfold At L2.start
      rfl
    · rw [List.length_replicate, hlen, ← hn]
      rfl
    · rw [List.getElem?_replicate] at e
      split at e
      · cases e
      · cases e
    · rw [List.getElem?_replicate] at e
      split at e
      · cases e
      · cases e
  refine wpAny_mono (ht.run [] s1 (L2.start N [.ref p.1]) H _ I hq) (fun fl s' hs => ?_) fun e s' hs => hs
  have fin : ∀ {σ' : L2.St} {H' : Hp} {v : V} {u : Value}, Inv (L2H.cxH CX0 P w K mg base N x scope f cdv A outer s H E0 p) [] σ' H' s' → RelV v u → Q v H' → CE outer P w H s Q u s' :=
    fun {σ' H' v u} J rv q => ⟨v, H', J.os, J.bare, J.base, J.hok, rv, q⟩
  cases fl with
  | ret u =>
    obtain ⟨v, σ', H', J, rv, q⟩ := hs
    exact fin J rv q
  | next =>
    obtain ⟨σ', H', J, q⟩ := hs
    exact fin (v := V.non) (u := Value.none) J rfl q
  | brk =>
    obtain ⟨_, _, _, q⟩ := hs
    exact False.elim q
  | cont =>
    obtain ⟨_, _, _, q⟩ := hs
    exact False.elim q
end Ht

namespace Ht
open PySem PySem.Spec PyProof.Rows L2 Fi
section
variable {X : Cx}
/-- told(n) in the suite -/
def tCallE (K : PySem.W.Frag) (T : List (Str × Str)) (i : Nat) (a : Addr) (cls : Value) (d : Option Addr) : TE := fun σ H Q => σ[i]? = some (some (.ref a)) ∧ ∃ (c z : Str) (Hf : Hp), (c, z) ∈ T ∧ cls = .ref (He.ga K c) ∧ d = none ∧ Same Hf H ∧ ∀ v H' Hf', Stp Hf H Hf' H' → Dp K Hf' v (.str z) → Q v H'
theorem pe_callE {T : List (Str × Str)} {a : Addr} {oe : Obj} {cls : Value} {d : Option Addr} {pn : List (Addr × Obj)} {i k : Nat} {f : Addr} {y n : Str} {q p1 pos : Pos} (hT : ∀ p ∈ T, FnE X.prog X.w X.K X.mg X.base k f (He.ga X.K p.1) p.2) (hz : L2N.Zn cls d oe) (hof : ∃ vs, oe.data = .fields vs) (hr : Room k X.A)
    (hg : Gl X y) (hm : X.mg y = some (.ref f)) (hk : PySem.W.keepIn X.K (.ref f) = true) (hN : X.N[i]? = some n) (hv : Vis X.env.scope n) (hdb : (y == ("__debug__" : Str)) = false := by decide) (hd : (n == ("__debug__" : Str)) = false := by decide) (hcd : (n == ("__classdict__" : Str)) = false := by decide)
    (he : starEach [.Name n p1] X.env = (false, eval (.Name n p1) X.env) :: starEach [] X.env := by rfl) (hpl : (backTo pos (starEach [] X.env)).any (·.1) = false := by rfl) :
    PE (X.suite a ((a, oe) :: pn)) (.Call (.Name y q) [.Name n p1] [] pos) (tCallE X.K T i a cls d) := by
  refine ⟨fun pins s σ H Q I ⟨h1, c, z, Hf, hmem, hcl, hdn, hi, kk⟩ => ?_⟩
  have hg' : Gl (X.suite a ((a, oe) :: pn)) y := hg
  refine wpAny_Call_Name_kw (ld_glob I hg' hm ?_ hdb)
  have pa : PA (X.suite a ((a, oe) :: pn)) [.Name n p1] _ := pa_cons (pe_var (i := i) hN hv hd hcd) pa_nil he
  refine PySem.W.callWith_K (h₀ := X.base) I.ok.mod.kin hk (thn (pa.run pos pins s σ H (fun vs H1 => vs = [.ref a] ∧ H1 = H) I ⟨.ref a, h1, rfl, rfl⟩) fun us s1 ⟨vs, H1, I1, r, ev, eH⟩ => ⟨I1.kIn, ?_⟩) he hpl
  subst ev
  rw [eH] at I1
  have hus : us = [Value.ref a] := by
    cases r with
    | cons r1 rr =>
      cases rr
      exact congrArg (fun w => [w]) (show _ = Value.ref a from r1)
  subst hus
  have P1 := I1.pin (a, oe) (List.mem_append_left _ List.mem_cons_self)
  have hpin : L2H.PinOk (X.suite a ((a, oe) :: pn)).stack H s1 (a, oe) := ⟨P1.1, P1.2.1, fun hm => (List.mem_cons.mp (I1.stkSub a hm)).elim P1.2.2.1 P1.2.2.2.1, P1.2.2.2.2⟩
  obtain ⟨vs, hvs⟩ := hof
  have hot : L2H.Hot1 (X.suite a ((a, oe) :: pn)).A (a, oe) := ⟨rfl, vs, hvs, hz.2.2 vs hvs⟩
  have hz' : Zc (.ref (He.ga X.K c)) none oe := by
    have := hz.zc
    rw [hcl, hdn] at this
    exact this
  refine wpAny_call (codeAny_mono (hT _ hmem (X.suite a ((a, oe) :: pn)).A (X.suite a ((a, oe) :: pn)).stack s1 H Hf Q (a, oe) ⟨hr.dp, hr.un⟩ hot hpin hz' I1.env0 hi kk) fun r s' hq => ?_)
  cases r with
  | error e => exact (show False from hq).elim
  | ok fl =>
    cases fl with
    | ret u => exact I1.after hq
    | next => exact False.elim hq
    | brk => exact False.elim hq
    | cont => exact False.elim hq
end
/-- the body; an exception of a class that T knows is told -/
def sTryE (T : List (Str × Str)) (i : Nat) (fb : Ob.FS) : Ob.FS := fun env st => match fb env st with
  | some (.exc c e s) => if i < e.length then (T.lookup c).map fun z => .ret (.py (.str z)) s else none
  | o => o
structure Tells (X : Cx) (k : Nat) (x y : Str) (T : List (Str × Str)) : Prop where
  g : X.mg x = some (.ref (He.ga X.K x))
  m : ∀ p ∈ T, PySem.W.exmOne X.K (.ref (He.ga X.K p.1)) (.ref (He.ga X.K x)) = some true
  ex : ∃ f, X.mg y = some (.ref f) ∧ PySem.W.keepIn X.K (.ref f) = true ∧ ∀ p ∈ T, FnE X.prog X.w X.K X.mg X.base k f (He.ga X.K p.1) p.2
section
variable {X : Cx} {W : WX}
end
end Ht

namespace Ob
open PySem PySem.Spec PyProof.Rows L2 Fi
section
variable {P : Program} {w : World} {K : PySem.W.Frag} {mg : Str → Option Value} {base : Heap} {j k n : Nat} {c C m : Str} {G : Fn} {T : Tab}
def pstB (K : PySem.W.Frag) (c m : Str) : Bool := decide (PySem.W.takerIn K (He.ga K c) m = some (some (.ref (He.ma K (He.ga K c) m)))) && (decide (PySem.W.typeIn K (.ref (He.ma K (He.ga K c) m)) = some (.type "property")) && (match PySem.W.recIn K (He.ma K (He.ga K c) m) "property" with
  | some (_ :: .ref _ :: _) => true
  | _ => false))
end
end Ob
namespace Ht
open PySem PySem.Spec PyProof.Rows L2 Fi
section
variable {P : Program} {w : World} {K : PySem.W.Frag} {mg : Str → Option Value} {base : Heap}
def excB (K : PySem.W.Frag) (c : Str) : Bool :=
  decide (PySem.W.findIn K (.ref (He.ga K c)) "__getattribute__" = some (some (.builtin "BaseException.__getattribute__"))) && (decide (PySem.W.findIn K (.ref (He.ga K c)) "__getattr__" = some none) && (decide (PySem.W.subIn K (.ref (He.ga K c)) (.type "BaseException") = some true) && (PySem.W.hasDictIn K (He.ga K c) &&
  (decide (PySem.W.findIn K (.ref (He.ga K c)) "__class__" = some (some (.builtin "object.__class__"))) && (decide (PySem.W.specialIn K (.builtin "object.__class__") "__get__" = some (some (.builtin "getset_descriptor.__get__"))) && (decide (PySem.W.takesIn K (.builtin "object.__class__") = some true) && decide (PySem.W.mroIn K (He.ga K c) (.type "object") = some true)))))))
theorem excC_of {c : Str} (h : excB K c = true) : ExcC K (He.ga K c) := by
  obtain ⟨h1, h⟩ := He.ba h
  obtain ⟨h2, h⟩ := He.ba h
  obtain ⟨h3, h⟩ := He.ba h
  obtain ⟨h4, h⟩ := He.ba h
  obtain ⟨h5, h⟩ := He.ba h
  obtain ⟨h6, h⟩ := He.ba h
  obtain ⟨h7, h8⟩ := He.ba h
  exact ⟨of_decide_eq_true h1, of_decide_eq_true h2, of_decide_eq_true h3, h4, of_decide_eq_true h5, of_decide_eq_true h6, of_decide_eq_true h7, of_decide_eq_true h8⟩
/-- which classes of cs (by bs) an exception of the class c is of -/
def rowB (K : PySem.W.Frag) (c : Str) (cs : List (Str × Bool)) : Bool := cs.all fun p => decide (PySem.W.kitOne K (.ref (He.ga K c)) (.ref (He.ga K p.1)) = some p.2)
def rowT (K : PySem.W.Frag) (c : Str) (T : String) (b : Bool) : Bool := decide (PySem.W.kitOne K (.ref (He.ga K c)) (.type T) = some b)
theorem row_at {c : Str} {cs : List (Str × Bool)} (h : rowB K c cs = true) (i : Nat) {C : Str} {b : Bool} (e : cs[i]? = some (C, b) := by rfl) : PySem.W.kitOne K (.ref (He.ga K c)) (.ref (He.ga K C)) = some b :=
  of_decide_eq_true (List.all_eq_true.mp h (C, b) (List.mem_of_getElem? e))
theorem FnE.mono {f D : Addr} {z : Str} {j k : Nat} (F : FnE P w K mg base j f D z) (h : j ≤ k) : FnE P w K mg base k f D z := fun A outer s H Hf Q p hr => F A outer s H Hf Q p (hr.mono h)
theorem fnes_nil {f : Addr} {k : Nat} : ∀ p ∈ ([] : List (Str × Str)), FnE P w K mg base k f (He.ga K p.1) p.2 := fun _ h => by cases h
theorem fnes_cons {f : Addr} {j k : Nat} {c z : Str} {T : List (Str × Str)} (F : FnE P w K mg base j f (He.ga K c) z) (t : ∀ p ∈ T, FnE P w K mg base k f (He.ga K p.1) p.2) (h : j ≤ k := by decide) : ∀ p ∈ (c, z) :: T, FnE P w K mg base k f (He.ga K p.1) p.2 := fun p hp => by
  rcases List.mem_cons.mp hp with e | e
  · rw [e]; exact F.mono h
  · exact t p e
end
end Ht
namespace Ht
open PySem PySem.Spec PyProof.Rows L2 Fi
theorem isE_of {X : Cx} {p : Addr × Obj} {c : Str} {x : Str} (h : excB X.K c = true) (hp : p ∈ X.pn) (hot : L2H.Hot1 X.A p) (hz : Zc (.ref (He.ga X.K c)) none p.2) (hm : X.mg "isinstance" = none) (hn : X.N[0]? = some x := by rfl) (hv : Vis X.env.scope x := by first | exact Or.inl rfl | exact Or.inr (Or.inl rfl)) (hg : Gl X "isinstance" := by rfl) : IsE X p.1 (He.ga X.K c) p.2 x :=
  ⟨excC_of h, hp, hz, hot.2.elim fun vs h => ⟨vs, h.1⟩, hn, hv, hg, hm⟩
end Ht

namespace Ht
open PySem PySem.Spec PyProof.Rows L2 LamX
section
variable {X : Cx} {pins : List (Addr × Obj)} {σ : L2.St} {H HZ : Hp} {s s1 : Shared}
/-- the lambda is made: of what is tracked only the table at P changes -/
theorem lam_makeN {c P : Addr} {params : Arguments} {body : Expr} {scope : Scope} {pos : Pos} {E : Value → Shared → Prop} {Q : Value → Shared → Prop} (I : Inv X pins σ H s) (TB : TabB X.base X.mg c P) (hcode : X.env.code = .ref c)
    (hT : TabS H P (X.env.qual ++ "<lambda>")) (hdef : defaultsOf params X.env = ([], [])) (hfree : ∀ y ∈ scope.names, y.2 = .free → ∃ c, X.env.cells.lookup y.1 = some c)
    (h : ∀ (f c' : Addr) (pm ctv : Value) (H1 : Hp) (s' : Shared), Inv X pins σ H1 s' → (∀ b o, b ≠ P → H b = some o → H1 b = some o) → TabS H1 P (X.env.qual ++ "<lambda>") →
      s'.heap.get? f = some (PySem.W.kla_obj "<lambda>" (X.env.qual ++ "<lambda>") params body scope (cloFrom X.env.cells scope.names []) pm c' ctv) → H1 f = none → f ∉ frs X.stack → H1 c' = some (CodeO c' (X.env.qual ++ "<lambda>")) → Q (.ref f) s') :
    wpAny (model X.prog X.w) X.A (eval (.Lambda params body scope pos) X.env) Q E s := by
  obtain ⟨ps, hP, ht, ha⟩ := hT
  refine PySem.W.kla_eval hdef ?_
  have bP : s.heap.BuiltinsAt X.mg P := TB.bm.keeps I.bk
  have hP' : s.heap.get? P = some { cls := .none, data := .fields ps } := I.hok P _ hP
  have nofr : ∀ f, s.heap.objs.size ≤ f → f ∉ frs X.stack := fun f hf z => by
    rcases List.mem_cons.mp (I.stkSub _ z) with e | e
    · have h1 := I.lt
      rw [← e] at h1
      exact Nat.lt_irrefl _ (Nat.lt_of_lt_of_le h1 hf)
    · exact I.nofs hf e
  cases hc : codeAmong pos ps.toList with
  | none =>
    refine PySem.W.kla_makeFunction (mg := X.mg) (c := c) (P := P) (ps := ps) (closure_ok hfree) I.ok.glob (I.mod.glob.keeps I.bk) hcode (TB.code.keeps I.bk) hP' ht hc TB.gP bP fun c' ctv h' tk hx hge hlt hrec htb => ?_
    obtain ⟨c2, oc, vs, t, e2, hoc, hd, hv⟩ := hrec
    cases e2
    have hsz : s.heap.objs.size ≤ h'.objs.size := Nat.le_trans hge (Nat.le_of_lt hlt)
    have nC : H c' = none := I.hok.fresh hge
    have I1 := inv_table (t' := tk) (more := #[rawInt pos.line, rawInt pos.col, .ref c']) (h' := h'.push (PySem.W.kla_obj "<lambda>" (X.env.qual ++ "<lambda>") params body scope (cloFrom X.env.cells scope.names []) ((X.mg "__name__").getD .none) c' ctv)) I hP
      (fun b o hb e => Heap.get?_push_of_some _ (hx b o hb e)) (Heap.get?_push_of_some _ htb) hge ⟨oc, vs, t, Heap.get?_push_of_some _ hoc, hd, hv⟩
    have hE : ∀ b o, b ≠ P → H b = some o → (upd (upd H P (.tbl (ps ++ #[rawInt pos.line, rawInt pos.col, .ref c']))) c' (CodeO c' (X.env.qual ++ "<lambda>"))) b = some o := fun b o hb e => by
      rw [upd_ne (ne_of_none e nC), upd_ne hb]
      exact e
    have eL : (ps ++ #[rawInt pos.line, rawInt pos.col, .ref c']).toList = ps.toList ++ [rawInt pos.line, rawInt pos.col, .ref c'] := by simp
    refine h h'.objs.size c' ((X.mg "__name__").getD .none) ctv _ _ I1 hE ⟨_, by rw [upd_ne (ne_of_none hP nC), upd_same], by rw [eL]; exact PySem.TriplesOk_snoc _ _ _ _ ht, fun p' cv hcv => ?_⟩ (Heap.get?_push_size _ rfl) ?_ (nofr _ hsz) upd_same
    · rw [eL] at hcv
      rcases among_app _ ht hcv with z | z
      · obtain ⟨c0, e1, e2⟩ := ha p' cv z
        refine ⟨c0, e1, hE _ _ (fun w => ?_) e2⟩
        rw [w, hP] at e2
        exact codeO_ne ps (Option.some.inj e2).symm
      · exact ⟨c', z, upd_same⟩
    · have n1 : h'.objs.size ≠ c' := Nat.ne_of_gt hlt
      have n2 : h'.objs.size ≠ P := Nat.ne_of_gt (Nat.lt_of_lt_of_le (Heap.lt_size hP') hsz)
      rw [upd_ne n1, upd_ne n2]
      exact I.hok.fresh hsz
  | some cv =>
    obtain ⟨c', e, hco⟩ := ha pos cv hc
    subst e
    refine PySem.W.kla_makeFunctionHit (mg := X.mg) (c := c) (P := P) (ps := ps) (closure_ok hfree) I.ok.glob (I.mod.glob.keeps I.bk) hcode (TB.code.keeps I.bk) hP' ht hc bP fun ctv h' tk hx hsz => ?_
    have I1 : Inv X pins σ H { s with heap := h'.push (PySem.W.kla_obj "<lambda>" (X.env.qual ++ "<lambda>") params body scope (cloFrom X.env.cells scope.names []) ((X.mg "__name__").getD .none) c' ctv), toks := tk } := I.kept fun b o e => Heap.get?_push_of_some _ (hx b o e)
    exact h h'.objs.size c' ((X.mg "__name__").getD .none) ctv H _ I1 (fun _ _ _ e => e) ⟨ps, hP, ht, ha⟩ (Heap.get?_push_size _ rfl) (I.hok.fresh hsz) (nofr _ hsz) hco
/-- the context of the lambda's body; what it lets out keeps its context -/
def lamCxN (X : Cx) (A : Around) (outer : List Env) (s : Shared) (H : Hp) (E : XK) (scope : Scope) (f c' : Addr) : Cx :=
  { lamCx X A outer s H E scope f c' with xe := fun e s' => wpAny (model X.prog X.w) (A.deeper (lamEnv X scope s.heap.objs.size f c')) (leaving (lamEnv X scope s.heap.objs.size f c') e) (fun _ s'' => L2N.CX X.prog X.w outer H s E e s'') (fun e' s'' => L2N.CX X.prog X.w outer H s E e' s'') s' }
theorem lam_startN {A : Around} {outer : List Env} {E : XK} {scope : Scope} {f c' : Addr} {h₁ : Heap} {tk : Nat} (I : Inv X pins σ H s) (L : LamS X.env.scope scope) (e0 : Env0 X.prog X.w X.K X.mg X.base A outer s1 HZ) (hd : A.handled = none)
    (un : Un (frs X.stack) [] H HZ s.heap s1.heap) (hns : h₁.Ns s1.heap.objs.size fun y => ([] : List (Str × Value)).reverse.lookup y) (kp : ∀ b o, s1.heap.get? b = some o → h₁.get? b = some o) :
    Inv (lamCxN X A outer s1 HZ E scope f c') [] σ HZ { s1 with heap := h₁, toks := tk } := by
  have J : Inv (lamCx X A outer s1 HZ E scope f c') [] σ HZ { s1 with heap := h₁, toks := tk } := lam_start2 I L e0 hd un hns kp
  exact ⟨⟨J.ok.mod, J.ok.kind, J.ok.glob, J.ok.blt, J.ok.above, J.ok.inj, J.ok.has, J.ok.cab, J.ok.hd, J.ok.frames, J.ok.stk, J.ok.exf, J.ok.bs, J.ok.bsz, J.ok.noex, J.ok.exfs, J.ok.funs, J.ok.frf⟩, J.os, J.bare, J.base, J.loc, J.cell, J.free, J.freeC, J.pin, J.hok, J.len⟩
theorem pe_actN {CXg : CXT} {Eg : XK} {Ng : List Str} {qg : Str} {sg : Scope} {g f c' : Addr} {cdg pm ctv : Value} {params : Arguments} {body : Expr} {scope : Scope} {k i : Nat} {a : Str} {pn : List (Addr × Obj)} {xe : Value → Shared → Prop} {W : WX} {E : XK} {tb : TE} {p1 p2 : Pos}
    (I : Inv X pins σ H s) (L : LamS X.env.scope scope) (hf : s.heap.get? f = some (PySem.W.kla_obj "<lambda>" (X.env.qual ++ "<lambda>") params body scope (cloFrom X.env.cells scope.names []) pm c' ctv)) (hfn : H f = none) (hfr : f ∉ frs X.stack)
    (hbind : bindArgs (PySem.W.kla_fn "<lambda>" (X.env.qual ++ "<lambda>") params body scope (cloFrom X.env.cells scope.names []) pm (.ref c') ctv) ⟨[], []⟩ = pure [])
    (tk : L2N.Takes ((cxOf CXg X.prog X.w X.K X.mg X.base Ng qg sg g cdg X.A X.stack s H Eg).tr pn xe) W) (hW : ∀ cls d σ' H', σ'.length = Ng.length → E cls d H' → W cls d σ' H') (hr : Room (k + 1) (X.A.deeper (envOfC qg sg s.heap.objs.size g cdg)))
    (hbody : ∀ (A : Around) (outer : List Env) (s : Shared) (H : Hp), Room k (A.deeper (lamEnv X scope s.heap.objs.size f c')) → PE (lamCxN X A outer s H E scope f c') body tb)
    (hN : Ng[i]? = some a) (hv : Vis sg a) (hd : (a == ("__debug__" : Str)) = false := by decide) (hcd : (a == ("__classdict__" : Str)) = false := by decide) :
    PE ((cxOf CXg X.prog X.w X.K X.mg X.base Ng qg sg g cdg X.A X.stack s H Eg).tr pn xe) (.Call (.Name a p1) [] [] p2)
      (fun σZ HZ Q => σZ[i]? = some (some (.ref f)) ∧ HZ c' = some (CodeO c' (X.env.qual ++ "<lambda>")) ∧ tb σ HZ Q) := by
  refine ⟨fun pinsZ sZ σZ HZ Q IZ h => ?_⟩
  obtain ⟨hs, hc, ht⟩ := h
  refine wpAny_Call_Name_kw (thn ((pe_var (pos := p1) (i := i) hN hv hd hcd).run pinsZ sZ σZ HZ (fun v H1 => v = .ref f ∧ H1 = HZ) IZ ⟨.ref f, hs, rfl, rfl⟩) fun u s1 ⟨v, H1, I1, r1, q1⟩ => ?_)
  obtain ⟨ev, eH⟩ := q1
  subst ev
  rw [eH] at I1
  obtain rfl : u = Value.ref f := r1
  have of1 : s1.heap.get? f = some (PySem.W.kla_obj "<lambda>" (X.env.qual ++ "<lambda>") params body scope (cloFrom X.env.cells scope.names []) pm c' ctv) := I1.base.keep f _ hf hfn hfr (fun z => nomatch (show f ∈ ([] : List Addr) from z))
  refine PySem.W.callWith_F0 ⟨_, _, _, _, of1⟩ ?_
  have un : Un (frs X.stack) [] H HZ s.heap s1.heap := I1.base
  obtain ⟨⟨oc, vs, t, hoc, hdc, hvc⟩, _, _⟩ := I1.hok c' _ hc
  have rc : codeAny (model X.prog X.w) (X.A.deeper (envOfC qg sg s.heap.objs.size g cdg)) (.call (.ref f) ⟨[], []⟩) (CR (L2N.CX X.prog X.w) (envOfC qg sg s.heap.objs.size g cdg :: X.stack) X.prog X.w HZ s1 Q E) s1 := by
    refine PySem.W.kla_callFunE hr.depth of1 rfl L.co L.gen rfl ⟨c', oc, vs, t, rfl, hoc, hdc, hvc⟩ ?_
    rw [hbind]
    refine wpAny_pure (wpAny_newFunctionEnv (fun y hy => (L.own y hy).2) (fun y hy => absurd hy (by simp)) (fun h₁ hns hsb => ⟨I1.nolimit.fresh _ hsb, ?_⟩) L.kind)
    show codeAny _ _ (.expr body (lamEnv X scope s1.heap.objs.size f c')) _ _
    have kp : ∀ b o, s1.heap.get? b = some o → h₁.get? b = some o := fun b o e => hsb.extBut b o (Nat.ne_of_lt (Heap.lt_size e)) (Heap.get?_push_of_some _ e)
    have J : Inv (lamCxN X (X.A.deeper (envOfC qg sg s.heap.objs.size g cdg)) (envOfC qg sg s.heap.objs.size g cdg :: X.stack) s1 HZ E scope f c') [] σ HZ { s1 with heap := h₁, toks := s1.toks + ([] : List (Str × Value)).length } :=
      lam_startN I L I1.env0 hr.hd un hns kp
    refine PySem.W.kla_codeExpr (wpAny_mono ((hbody _ _ s1 HZ (hr.deeper _)).run [] _ _ HZ Q J ht) (fun v s' hq => ?_) fun e s' hq => hq)
    obtain ⟨w', H', J', rv, q⟩ := hq
    exact ⟨w', H', J'.os, J'.bare, J'.base, J'.hok, rv, q⟩
  have hx : Passes (L2N.CX X.prog X.w) ((cxOf CXg X.prog X.w X.K X.mg X.base Ng qg sg g cdg X.A X.stack s H Eg).tr pn xe) E := fun pins σ H s e s' I c => tk e s' (L2N.XE.of_call I (fun cls d H' h => hW cls d σ H' I.len h) c)
  refine wpAny_call (codeAny_mono rc fun r s' hq => ?_)
  cases r with
  | error e => exact hx pinsZ σZ HZ s1 e s' I1 hq
  | ok fl =>
    cases fl with
    | ret u => exact I1.after hq
    | next => exact False.elim hq
    | brk => exact False.elim hq
    | cont => exact False.elim hq
/-- what the body may let out is what its caller is told -/
theorem lam_takes {A : Around} {outer : List Env} {E : XK} {scope : Scope} {f c' : Addr} : L2N.Takes (lamCxN X A outer s H E scope f c') (fun cls d _ H' => E cls d H') :=
  L2N.takes_of rfl rfl rfl rfl
end
end Ht

namespace Ht
open PySem PySem.Spec PyProof.Rows L2 Fi LamX
/-- the def that calls what it got -/
def GivesN (X : Cx) (Ng : List Str) (x : Str) (sg : Scope) (g : Addr) (cdg : Value) (bg : List Stmt) (a : Str) (q : Str) (TT : (XK → Hp → VK → Prop) → Hp → VK → Prop) (k : Nat) : Prop :=
  ∀ (f c' : Addr) (s : Shared) (H : Hp) (Q : VK) (tl : XK → Hp → VK → Prop), Room k (X.A.deeper (envOfC x sg s.heap.objs.size g cdg)) →
    (∀ (W : WX) (pn : List (Addr × Obj)) (xe : Value → Shared → Prop) (E : XK) (p1 p2 : Pos), L2N.Takes ((cxOf CX0 X.prog X.w X.K X.mg X.base Ng x sg g cdg X.A X.stack s H E0).tr pn xe) W → (∀ cls d σ' H', σ'.length = Ng.length → E cls d H' → W cls d σ' H') →
      PE ((cxOf CX0 X.prog X.w X.K X.mg X.base Ng x sg g cdg X.A X.stack s H E0).tr pn xe) (.Call (.Name a p1) [] [] p2) (fun σZ HZ Q => σZ[0]? = some (some (.ref f)) ∧ HZ c' = some (CodeO c' q) ∧ tl E HZ Q)) →
    H c' = some (CodeO c' q) → TT tl H Q →
    ∃ t, PSs (cxOf CX0 X.prog X.w X.K X.mg X.base Ng x sg g cdg X.A X.stack s H E0).nox bg t ∧ t { nx := fun _ H' => Q .non H', rt := Q } (L2.start Ng [.ref f]) H
def TTn (K : PySem.W.Frag) (T : List (Str × Str)) : (XK → Hp → VK → Prop) → Hp → VK → Prop := fun tl H Q =>
  tl (fun cls d H' => ∃ (c z : Str) (Hf : Hp), (c, z) ∈ T ∧ cls = .ref (He.ga K c) ∧ d = none ∧ Same Hf H' ∧ ∀ v H2 Hf2, Stp Hf H' Hf2 H2 → Dp K Hf2 v (.str z) → ∀ p, H2 p = none → Q (.ref p) (upd H2 p (.tup [.non, v]))) H
    (fun v H' => [v, V.str ""].length ≤ sizeLine ∧ ∀ p, H' p = none → Q (.ref p) (upd H' p (.tup [v, .str ""])))
section
variable {X : Cx}
theorem told_N {Ng : List Str} {x a n xf y q : Str} {sg : Scope} {g fe : Addr} {cdg : Value} {T : List (Str × Str)} {j k jj j2 k1 k2 : Nat} {p1 p2 p3 tp rp np p5 q6 p6 cpos tp2 rp2 pos' pos : Pos} (hN : Ng = [a, n]) (hne : ([a, n] : List Str).Nodup) (hln : sg.names.lookup n = some .local)
    (hgx : sg.names.lookup xf = some .globalImplicit) (hgy : sg.names.lookup y = some .globalImplicit) (hmx : X.mg xf = some (.ref (He.ga X.K xf))) (hmT : ∀ p ∈ T, PySem.W.exmOne X.K (.ref (He.ga X.K p.1)) (.ref (He.ga X.K xf)) = some true)
    (hmy : X.mg y = some (.ref fe)) (hky : PySem.W.keepIn X.K (.ref fe) = true) (hT : ∀ p ∈ T, FnE X.prog X.w X.K X.mg X.base k fe (He.ga X.K p.1) p.2)
    (hdx : (xf == ("__debug__" : Str)) = false := by decide) (hdb : (y == ("__debug__" : Str)) = false := by decide) (hd : (n == ("__debug__" : Str)) = false := by decide) (hcd : (n == ("__classdict__" : Str)) = false := by decide) :
    GivesN X Ng x sg g cdg [.Try [.Return (some (.Tuple [.Call (.Name a p1) [] [] p2, .Constant (.str "") jj p3] k1 tp)) rp] [.ExceptHandler (some (.Name xf np)) (some n) [.Return (some (.Tuple [.Constant .none j2 p5, .Call (.Name y q6) [.Name n p6] [] cpos] k2 tp2)) rp2] pos'] [] [] pos] a q (TTn X.K T) k := by
  subst hN
  intro f c' s H Q tl hr act hc h
  refine ⟨_, pss_one (L2N.ps_try_as (X := (cxOf CX0 X.prog X.w X.K X.mg X.base [a, n] x sg g cdg X.A X.stack s H E0).nox) (c := .ref (He.ga X.K xf)) (i := 1)
      (tb := fun W D σ H => ∃ Ech : XK, (∀ cls d σ' H', σ'.length = [a, n].length → Ech cls d H' → W cls d σ' H') ∧ σ[0]? = some (some (.ref f)) ∧ H c' = some (CodeO c' q) ∧ tl Ech H (fun v H' => [v, V.str ""].length ≤ sizeLine ∧ ∀ p, H' p = none → D.rt (.ref p) (upd H' p (.tup [v, .str ""]))))
      (ts := fun a' cls d D σ H => tCallE X.K T 1 a' cls d σ H (fun v H2 => ∀ p, H2 p = none → D.rt (.ref p) (upd H2 p (.tup [.non, v]))))
      rfl rfl hne rfl hln ⟨hgx, hdx, .inl hmx⟩ Ob.takesN (fun W pn xe tk _ => ?_) (fun a' oe cls d pn hz ho => ?_)), ?_⟩
  · refine ⟨fun pins s' σ H' D I h' => ?_⟩
    obtain ⟨Ech, hW, h1, h2, h3⟩ := h'
    have hp := act W pn xe Ech p1 p2 tk hW
    have hq := pss_one (ps_ret (pos := rp) (pe_tup (x1 := k1) (pos := tp) (pa_cons hp (pa_cons (pe_str (x := "") (j := jj) (pos := p3)) pa_nil rfl) rfl)))
    exact hq.run pins s' σ H' D I ⟨h1, h2, h3⟩
  · refine pss_le (pss_one (ps_ret (pe_tup (pa_cons pe_non (pa_cons (pe_callE (X := (cxOf CX0 X.prog X.w X.K X.mg X.base [a, n] x sg g cdg X.A X.stack s H E0).nox) (i := 1) hT hz ho hr hgy hmy hky rfl (.inl hln) hdb hd hcd rfl rfl) pa_nil rfl) rfl)))) fun D σ H ⟨h1, c, z, Hf, h2, h3, h4, h5, h6⟩ => ?_
    exact ⟨h1, c, z, Hf, h2, h3, h4, h5, fun v H' Hf' st d => ⟨by show 2 ≤ sizeLine; decide, fun p hp => h6 v H' Hf' st d p hp⟩⟩
  · refine ⟨_, fun cls d σ' H' hlen ⟨c, z, Hf, h2, h3, h4, h5, h6⟩ => ?_, rfl, hc, h⟩
    refine ⟨true, by rw [h3]; exact hmT _ h2, fun _ a' ha' => ⟨?_, c, z, Hf, h2, h3, h4, h5, h6⟩, fun z => by cases z⟩
    rw [List.getElem?_set_self (by rw [hlen]; show 1 < 2; decide)]
end
end Ht

namespace Ht
open PySem PySem.Spec PyProof.Rows L2 Fi LamX
def eTold (i : Nat) (xl : Str) (T : List (Str × Str)) (fb : Ob.F Ob.D) : Ob.F Ob.D := fun env st => match st[i]? with
  | some (.tab q) => if q = xl then (match fb env st with
    | some (.ok d s) => some (.ok (Ob.mkT [d, .py (.str "")]) s)
    | some (.err c s) => (T.lookup c).map fun z => .ok (.py (.tuple [.none, .str z])) s
    | none => none) else none
  | _ => none
/-- the table at P has changed, nothing else -/
theorem tab_step {K : PySem.W.Frag} {Z : Ob.Zt} {ρ : List Addr} {Hf H H1 : Hp} {env : Ob.En} {st : Ob.Stor} {σ : L2.St} {i : Nat} {xl : Str} {P : Addr} (R : Ob.Rel K Z ρ Hf H env st σ) (hi : ρ[i]? = some P) (hs : st[i]? = some (.tab xl)) (k : ∀ b o, b ≠ P → H b = some o → H1 b = some o) (hT : TabS H1 P (xl ++ ".<locals>." ++ "<lambda>")) :
    Ob.OStp ρ Hf H ρ Hf H1 ∧ Ob.StOk K ρ Hf H1 st := by
  have hP := R.ok.ob i P _ hi hs
  obtain ⟨eP, ps, hP1, hP2, hP3⟩ := hP
  obtain ⟨ps1, hT1, hT2, hT3⟩ := hT
  have hmem : P ∈ ρ := List.mem_of_getElem? hi
  refine ⟨⟨.refl, fun b o e m => k b o (fun z => m (by rw [z]; exact hmem)) e, fun _ _ _ e => e, fun _ m n => absurd m n, fun b o e => ?_⟩, ⟨fun b o e => ?_, R.ok.len, R.ok.nd, R.ok.hid, fun n b o e1 e2 => ?_⟩⟩
  · by_cases hb : b = P
    · exact ⟨_, by rw [hb]; exact hT1⟩
    · exact ⟨o, k b o hb e⟩
  · refine k b o (fun z => ?_) (R.ok.i b o e)
    rw [z, R.ok.hid P hmem] at e
    cases e
  · by_cases hb : b = P
    · subst hb
      have hn : n = i := by
        obtain ⟨i1, j1⟩ := List.getElem?_eq_some_iff.mp e1
        obtain ⟨i2, j2⟩ := List.getElem?_eq_some_iff.mp hi
        exact Ob.nodup_inj R.ok.nd i1 i2 (j1.trans j2.symm)
      subst hn
      rw [hs] at e2
      cases e2
      exact ⟨eP, ps1, hT1, hT2, hT3⟩
    · obtain ⟨u, hu⟩ := R.ok.has (List.mem_of_getElem? e1)
      refine (R.ok.ob n b o e1 e2).up .refl (by rw [hu, k b u hb hu]) fun c q z => k c _ (fun w => ?_) z
      rw [w, hP1] at z
      exact codeO_ne ps (Option.some.inj z).symm
section
variable {X : Cx} {W : WX}
theorem x_told {T : List (Str × Str)} {x a xl : Str} {g : Addr} {k i : Nat} {pg : Arguments} {bg : List Stmt} {sg : Scope} {fd : FuncData} {Ng : List Str} {params : Arguments} {body : Expr} {scope : Scope} {fb : Ob.F Ob.D} {p lpos pos : Pos}
    (F : FunD X.K x x pg bg sg [] [] g fd) (hg : Gl X x) (hm : X.mg x = some (.ref g)) (Sg : FnScope Ng [a] sg) (hNg : Ng[0]? = some a) (hva : Vis sg a)
    (hbd : ∀ (kV doc pm : Value) (an : Option Addr) (cdv ct : Value) (us : List Value), us.length = 1 → bindArgs (PySem.W.fnOf x x pg bg sg .none kV doc pm an cdv ct) ⟨us, []⟩ = pure ([a].zip us))
    (hG : ∀ cdg, GivesN X Ng x sg g cdg bg a (X.env.qual ++ "<lambda>") (TTn X.K T) (k + 1))
    (TB : TabB X.base X.mg (Ob.codeA X.K xl) (Ob.tabA X.K xl)) (hcode : X.env.code = .ref (Ob.codeA X.K xl)) (hq : X.env.qual = xl ++ ".<locals>.") {kk : Nat} (hr0 : Room kk X.A) (L : LamS X.env.scope scope) (hdef : defaultsOf params X.env = ([], []))
    (hbind : ∀ (q : Str) (cl : List (Str × Addr)) (pm cv ctv : Value), bindArgs (PySem.W.kla_fn "<lambda>" q params body scope cl pm cv ctv) ⟨[], []⟩ = pure [])
    (hbody : ∀ (A : Around) (outer : List Env) (s : Shared) (H : Hp) (E : XK) (f c' : Addr), Room k (A.deeper (lamEnv X scope s.heap.objs.size f c')) → L2N.Takes (lamCxN X A outer s H E scope f c') (fun cls d _ H' => E cls d H') → PE (lamCxN X A outer s H E scope f c') body (Ob.tE X.K (fun cls d _ H' => E cls d H') fb))
    (hjk : k + 2 ≤ kk := by decide) (hdb : (x == ("__debug__" : Str)) = false := by decide) (hd : (a == ("__debug__" : Str)) = false := by decide) (hcd : (a == ("__classdict__" : Str)) = false := by decide) :
    PE X (.Call (.Name x p) [.Lambda params body scope lpos] [] pos) (Ob.tE X.K W (eTold i xl T fb)) := by
  have hr := hr0.mono hjk
  refine ⟨fun pins s σ H Q I ⟨Z, ρ, Hf, env, st, o, R, e, kk⟩ => ?_⟩
  unfold eTold at e
  split at e
  · rename_i q hst
    split at e
    · rename_i hqx
      subst hqx
      have hlt : i < ρ.length := by
        rw [R.ok.len]
        exact (List.getElem?_eq_some_iff.mp hst).1
      have hi : ρ[i]? = some ρ[i] := List.getElem?_eq_getElem hlt
      have hO := R.ok.ob i _ _ hi hst
      obtain ⟨eP, hT⟩ := hO
      rw [eP] at hi hT
      rw [hq] at hG
      refine wpAny_Call_Name_kw (ld_glob I hg hm ?_ hdb)
      refine PySem.W.callWith_K (h₀ := X.base) I.ok.mod.kin F.kp ?_ (by rfl) (by rfl)
      show wpAny _ _ (spliced ((false, eval (.Lambda params body scope lpos) X.env) :: backTo pos (starEach [] X.env))) _ _ s
      refine Calls.spliced_cons (lam_makeN I TB hcode (by rw [hq]; exact hT) hdef (L.has I.ok) fun f c' pm' ctv H1 s' I1 eN T1 hf hfn hfr hco => ?_)
      refine Calls.spliced_nil ⟨I1.kIn, ?_⟩
      rw [hq] at T1
      obtain ⟨t1, S1⟩ := tab_step R hi hst eN T1
      have R1 := R.step t1 S1
      have tt : TTn X.K T (fun E H' Q' => Ob.tE X.K (fun cls d _ H' => E cls d H') fb σ H' Q') H1 Q := by
        cases hfb : fb env st with
        | none => rw [hfb] at e; cases e
        | some o1 =>
          rw [hfb] at e
          cases o1 with
          | ok d s0 =>
            cases e
            refine ⟨Z, ρ, Hf, env, st, .ok d s0, R1, hfb, fun v H' ρ' Hf' t' S' dv => ⟨by show 2 ≤ sizeLine; decide, fun p hp => ?_⟩⟩
            have s := Stp.new (o := .tup [v, .str ""]) S'.i hp
            exact kk (.ref p) _ ρ' _ (t1.trans (t'.trans (.of s))) (S'.stp s) (Ob.dq_mkT (SqT.of upd_same) (Ob.DqAll.up ⟨s.f, List.prefix_rfl⟩ (.cons dv (.cons (.py (.str "")) .nil))))
          | err c s0 =>
            dsimp only at e
            obtain ⟨z, hz, rfl⟩ := Option.map_eq_some_iff.mp e
            refine ⟨Z, ρ, Hf, env, st, .err c s0, R1, hfb, fun H' ρ' Hf' t' S' => ⟨c, z, Hf', Ob.lookup_mem hz, rfl, rfl, S'.i, fun v H2 Hf2 st2 dv p hp => ?_⟩⟩
            have s := st2.trans (Stp.new (o := .tup [.non, v]) st2.i hp)
            exact kk (.ref p) _ ρ' _ (t1.trans (t'.trans (.of s))) (S'.stp s) (.py (.tup (SqT.of upd_same) (.cons .non (.cons (Dp_up (Stp.new (o := .tup [.non, v]) st2.i hp).f dv) .nil))))
      have rc : codeAny (model X.prog X.w) X.A (.call (.ref g) ⟨[.ref f], []⟩) (CR CX0 X.stack X.prog X.w H1 s' Q E0) s' := by
        have bd := F.bindsN (ps := [a]) hbd
        obtain ⟨oc, od, dV, kV, doc, pm, an, cdv, ct, osl, rfl, lk, hcg, _, _⟩ := F.ex
        refine run_ofS (N := Ng) (ps := [a]) (us := [.ref f]) (vs := [.ref f]) lk hcg Sg hr I1.env0 (by have b := bd s' [.ref f] I1.kIn rfl; rw [List.append_nil] at b; exact b) (.cons rfl .nil) rfl fun hr' => ?_
        obtain ⟨t', ht', hq'⟩ := hG cdv f c' s' H1 Q (fun E H' Q' => Ob.tE X.K (fun cls d _ H' => E cls d H') fb σ H' Q') hr' (fun W pn xe E p1 p2 tk hW => by
          have := pe_actN (i := 0) (p1 := p1) (p2 := p2) I1 L hf hfn hfr (hbind _ _ _ _ _) tk hW hr' (fun A outer s H hr2 => hbody A outer s H E f c' hr2 lam_takes) hNg hva hd hcd
          rw [hq] at this
          exact this) (by rw [hq] at hco; exact hco) tt
        exact ⟨t', ht'.nox, hq'⟩
      refine wpAny_call (codeAny_mono rc fun r s2 hq => ?_)
      cases r with
      | error e => exact (show False from hq).elim
      | ok fl =>
        cases fl with
        | ret u => exact I1.after hq
        | next => exact False.elim hq
        | brk => exact False.elim hq
        | cont => exact False.elim hq
    · cases e
  · cases e
end
end Ht

namespace Ht
open PySem PySem.Spec PyProof.Rows L2 Fi LamX
structure SaysL (file : Str) (ck : List Ob.Ck) (df : List Ob.Df) (tl : List Str) (h : Heap) (K : PySem.W.Frag) : Prop where
  t : Ob.SaysO file ck df K
  hd : ∀ x ∈ tl, PySem.W.codeHdIn K (Ob.codeA K x) (Ob.tabA K x) = true
  out : ∀ x ∈ tl, K.lookup (Ob.tabA K x) = none
  empty : ∀ x ∈ tl, h.get? (Ob.tabA K x) = some { cls := .none, data := .fields #[] }
def tabsB (g : Addr → Option Obj) (tl : List Str) (K : PySem.W.Frag) : Bool := tl.all fun x => PySem.W.codeHdIn K (Ob.codeA K x) (Ob.tabA K x) && (match g (Ob.tabA K x) with
  | some o => He.emptyTab o
  | none => false)
abbrev AlL : Type := Ob.AlO × Bool
def obsL (n : Nat) (file : Str) (ck : List Ob.Ck) (df : List Ob.Df) (tl : List Str) (g : Addr → Option Obj) : AlL := (Ob.obsO file ck df (He.frT g (Ob.asO g n)), tabsB g tl (He.frT g (Ob.asO g n)))
def valL (df : List Ob.Df) : AlL := (Ob.valO df, true)
theorem saysL_of {n : Nat} {file : Str} {ck : List Ob.Ck} {df : List Ob.Df} {tl : List Str} {h : Heap} (e : obsL n file ck df tl h.get? = valL df) : SaysL file ck df tl h (He.frT h.get? (Ob.asO h.get? n)) := by
  have e1 : Ob.obsO file ck df (He.frT h.get? (Ob.asO h.get? n)) = Ob.valO df := congrArg (fun z : AlL => z.1) e
  have e2 : tabsB h.get? tl (He.frT h.get? (Ob.asO h.get? n)) = true := congrArg (fun z : AlL => z.2) e
  generalize hK : He.frT h.get? (Ob.asO h.get? n) = K at *
  have key : ∀ x ∈ tl, PySem.W.codeHdIn K (Ob.codeA K x) (Ob.tabA K x) = true ∧ ∃ o, h.get? (Ob.tabA K x) = some o ∧ He.emptyTab o = true := fun x hx => by
    obtain ⟨h3, h4⟩ := He.ba (List.all_eq_true.mp e2 x hx)
    refine ⟨h3, ?_⟩
    cases q : h.get? (Ob.tabA K x) with
    | none =>
      rw [q] at h4
      cases h4
    | some o =>
      rw [q] at h4
      exact ⟨o, rfl, h4⟩
  exact ⟨e1, fun x hx => (key x hx).1, fun x hx => by
    obtain ⟨_, o, q, z⟩ := key x hx
    rw [← hK] at q ⊢
    exact He.frT_none q z, fun x hx => by
    obtain ⟨_, o, q, z⟩ := key x hx
    rw [q, He.emptyTab_eq z]⟩
def hookL (n : Nat) (file : Str) (ck : List Ob.Ck) (df : List Ob.Df) (tl : List Str) : PySem.W.Hook where
  α := AlL
  obs := fun s => obsL n file ck df tl s.heap.get?
  val := fun _ => valL df
  says := fun _ h => ∃ K : PySem.W.Frag, K.In h ∧ SaysL file ck df tl h K
  of := fun _ _ e => ⟨_, He.frT_in, saysL_of e⟩
  keeps := fun _ _ _ ⟨K, hK, c⟩ k => ⟨K, PySem.W.Frag.In.keeps hK k, ⟨c.t, c.hd, c.out, fun x hx => k _ _ (c.empty x hx)⟩⟩
theorem obsL_eq {n : Nat} {file : Str} {ck : List Ob.Ck} {df : List Ob.Df} {tl : List Str} {g : Addr → Option Obj} {s : Shared} (h : ∀ a, g a = s.heap.get? a) : obsL n file ck df tl g = (hookL n file ck df tl).obs s := by
  have e : g = s.heap.get? := funext h
  rw [e] <;> rfl
theorem def_okT {P : Program} {w : World} {K : PySem.W.Frag} {mg : Str → Option Value} {base : Heap} {x : Str} {params : Arguments} {body : List Stmt} {scope : Scope} {dvs : List V} {kws : List (Str × V)} {fd : FuncData} {N ps : List Str} {b : Ob.FS} {n np k : Nat}
    (hF : FunD K x x params body scope dvs kws (He.ga K x) fd) (S : FnScope N ps scope) (hn : N.length = n) (hp : ps.length = np)
    (hb : ∀ (cdv : Value) (A : Around) (outer : List Env) (s : Shared) (H : Hp) (E : XK), cdv = .ref (Ob.codeA K x) → Room k (A.deeper (envOfC x scope s.heap.objs.size (He.ga K x) cdv)) → L2N.Takes (cxOf (L2N.CX P w) P w K mg base N x scope (He.ga K x) cdv A outer s H E) (fun cls d _ H => E cls d H) →
      PSs (cxOf (L2N.CX P w) P w K mg base N x scope (He.ga K x) cdv A outer s H E) body (Ob.tS K (fun cls d _ H => E cls d H) b)) :
    FnOk P w K mg base (L2N.CX P w) (k + 1) (He.ga K x) fd ps (Ob.spO K np (Ob.fnO n b)) := by
  obtain ⟨oc, od, dV, kV, doc, pm, an, cdv, ct, osl, rfl, lk, hcd, _, _⟩ := hF.ex
  have hc : cdv = .ref (Ob.codeA K x) := by
    obtain ⟨c, rfl⟩ := He.codeIn_ref hcd
    unfold Ob.codeA
    rw [lk]
  refine fn_of lk hcd S (fun vs H Q E h => by rw [h.1, hp]) fun A outer s H vs Q E hr h => ?_
  exact ⟨_, hb cdv A outer s H E hc hr Ob.fin_takes, Ob.body_ok (X := cxOf (L2N.CX P w) P w K mg base N x scope (He.ga K x) cdv A outer s H E) (sts := body) hn h⟩
def noTab (H : Hp) : Hp := fun b => match H b with
  | some (.tbl _) => none
  | o => o
theorem law_spTs {K : PySem.W.Frag} {G : Ob.Fn} {H : Hp} {a : Addr} {ns : List Int} {E : XK} {st : Ob.Stor} {xs : List Str} (hnd : (xs.map (Ob.tabA K)).Nodup) (hH : ∀ x ∈ xs, H (Ob.tabA K x) = some (.tbl #[])) (hS : SqL K H a (ns.map V.int)) (hG : G [.py (.list (ns.map .int))] (xs.map .tab) = some (.ok (.val (.py (.bool true))) st)) : Ob.spO K 1 G [.ref a] H (fun v _ => v = .bl true) E := by
  have hN : Same (noTab H) H := fun b o e => by
    unfold noTab at e
    split at e
    · cases e
    · exact e
  have hS' : SqL K (noTab H) a (ns.map V.int) := by
    rcases hS with h | h
    · rcases h with h | ⟨o, h⟩
      · refine .inl (.inl ?_)
        unfold noTab
        rw [h]
      · refine .inl (.inr ⟨o, ?_⟩)
        unfold noTab
        rw [h]
    · exact .inr h
  refine ⟨rfl, xs.map (Ob.tabA K), noTab H, _, _, _, ⟨hN, by rw [List.length_map, List.length_map], hnd, fun b hb => ?_, fun n b o e1 e2 => ?_⟩, .cons (.py (.lst hS' (dp_ints ns))) .nil, hG, fun v H' ρ' Hf' t S d => ?_⟩
  · obtain ⟨x, hx, rfl⟩ := List.mem_map.mp hb
    unfold noTab
    rw [hH x hx]
  · rw [List.getElem?_map] at e1 e2
    cases q : xs[n]? with
    | none => rw [q] at e1; cases e1
    | some x =>
      rw [q] at e1 e2
      cases e1
      cases e2
      exact ⟨rfl, TabS.nil (hH x (List.mem_of_getElem? q))⟩
  · exact (Ob.Dq.dp d).bl_eq
end Ht

namespace Ob
open PySem PySem.Spec PyProof.Rows L2 Fi
section
variable {X : Cx} {W : WX} {e oe ie : Expr} {f g h : F D} {pos tpos ppos npos : Pos}
def sIxN (n : Nat) (v o i : F D) : FS := sE v fun y env st => y.tup?.bind fun ds => match ds with
  | [a, b] => sE o (fun d => sE i fun k env st => match k with
    | .py (.int k) => (stL d st).bind fun q => (ixN q.2.length k).map fun j => .next (env.set n (some (.val b))) (st.set q.1 (.lst (q.2.set j a)))
    | _ => none) env st
  | _ => none
end
end Ob

namespace Fi
open PySem PySem.Spec PyProof.Rows L2
/-- f() -/
theorem l_fn0 {X : Cx} {x : Str} {j k : Nat} {F : List PyData → Option Sl} {p pos : Pos} (G : Known X.prog X.w X.K X.mg X.base j x 0 F) (hr : Room k X.A) (hg : Gl X x := by rfl) (hjk : j ≤ k := by decide) (hdb : (x == ("__debug__" : Str)) = false := by decide) :
    PE X (.Call (.Name x p) [] [] pos) (tL X.K (lCallF F aNil)) := by
  obtain ⟨f, fd, ps, h1, h2, h3, h4⟩ := G.ex
  refine pe_le (pe_call0 h1 (hr.mono hjk) hg h2 h3 h4 .nil pass0 hdb) fun σ H Q ⟨Z, Hf, env, d, R, hf, kk⟩ => ?_
  obtain ⟨ds, hds, hf⟩ := Option_bind_some hf
  cases hds
  show spD X.K 0 F ([] ++ []) H Q E0
  refine ⟨rfl, ?_⟩
  split at hf
  · rename_i l hz
    cases hf
    exact ⟨Hf, [], _, R.st.i, .nil, hz, fun q vs H2 Hf2 s2 h0 h1 h2 d2 => kk q vs H2 Hf2 s2 h0 h1 h2 d2⟩
  · cases hf
end Fi

namespace Ob
open PySem PySem.Spec PyProof.Rows L2 Fi
def D.seq? (d : D) : Option (List D) := match d.lst? with
  | some l => some l
  | none => d.tup?
theorem Dq.seq_of {K : PySem.W.Frag} {Hf : Hp} {ρ : List Addr} {v : V} {d : D} {ds : List D} (h : Dq K Hf ρ v d) (e : d.seq? = some ds) : ∃ a xs, v = .ref a ∧ (SqL K Hf a xs ∨ SqT K Hf a xs) ∧ DqAll K Hf ρ xs ds := by
  unfold D.seq? at e
  split at e
  · rename_i l hl
    cases e
    obtain ⟨a, xs, h1, h2, h3⟩ := h.lst_of hl
    exact ⟨a, xs, h1, .inl h2, h3⟩
  · obtain ⟨a, xs, h1, h2, h3⟩ := h.tup_of e
    exact ⟨a, xs, h1, .inr h2, h3⟩
theorem sq_up {K : PySem.W.Frag} {Hf H : Hp} {a : Addr} {xs : List V} (i : Same Hf H) (h : SqL K Hf a xs ∨ SqT K Hf a xs) : SqL K H a xs ∨ SqT K H a xs := h.elim (fun h => .inl (i.seq h)) fun h => .inr (sqT_up i h)
/-- a new list, hidden -/
theorem Fin.newL {K : PySem.W.Frag} {W : WX} {σ : L2.St} {Z : Zt} {ρ : List Addr} {Hf H : Hp} {env : En} {st : Stor} {Q : VK} {ds : List D} {vs : List V} {p : Addr} (R : Rel K Z ρ Hf H env st σ) (k : Fin rL K W σ ρ Hf H Q (.ok ds st)) (hp : H p = none) (h : DqAll K Hf ρ vs ds) : Q (.ref p) (upd H p (.lst vs)) :=
  k.stp R (Stp.hid R.ok.i hp) ⟨p, vs, rfl, hp, R.ok.new hp, R.ok.i.free hp, upd_same, h⟩
def eLenD (f : F D) : F D := bnd f fun d => lft (d.seq?.map fun l => .py (.int l.length))
def lListD (f : F D) : F (List D) := bnd f fun d => lft d.seq?
def lCatD (f g : F D) : F (List D) := bnd f fun x => bnd g fun y => lft (x.lst?.bind fun a => y.lst?.bind fun b => if a.length + b.length ≤ 100000 then some (a ++ b) else none)
def cutQ (l : List D) (a b : Option Int) : List D := (l.drop (HT.sIx l.length 0 a)).take (HT.sIx l.length l.length b - HT.sIx l.length 0 a)
def lSlD (f : F D) (a b : F (Option Int)) : F (List D) := bnd f fun x => bnd a fun i => bnd b fun j => lft (x.lst?.map fun l => cutQ l i j)
section
variable {X : Cx} {W : WX} {e a b : Expr} {f g : F D} {p pos p2 : Pos}
theorem x_lenD (hg : Gl X "len") (hm : X.mg "len" = none) (he : PE X e (tE X.K W f)) (hs : starEach [e] X.env = (false, eval e X.env) :: starEach [] X.env := by rfl) (hpl : (backTo pos (starEach [] X.env)).any (·.1) = false := by rfl) :
    PE X (.Call (.Name "len" p) [e] [] pos) (tE X.K W (eLenD f)) := pe_le (pe_callB call_len_seq hg hm PySem.boot_len (pa_cons he pa_nil hs) (by decide) (by decide) hs hpl) fun σ H Q ⟨Z, ρ, Hf, env, st, o, R, e, k⟩ => by
  refine bind_at bE R e k fun x H1 ρ1 Hf1 s1 d t1 r1 R1 e1 k1 => ?_
  obtain ⟨z, h1, rfl⟩ := lft_some e1
  obtain ⟨l, h2, rfl⟩ := map_ok h1
  obtain ⟨q, xs, rfl, hq, hd⟩ := Dq.seq_of r1 h2
  exact ⟨q, xs, rfl, sq_up R1.ok.i hq, by rw [hd.len]; exact k1.now R1 (.py (.int _))⟩
theorem l_listD (hg : Gl X "list") (hm : X.mg "list" = none) (he : PE X e (tE X.K W f)) (hs : starEach [e] X.env = (false, eval e X.env) :: starEach [] X.env := by rfl) (hpl : (backTo pos (starEach [] X.env)).any (·.1) = false := by rfl) :
    PE X (.Call (.Name "list" p) [e] [] pos) (tL X.K W (lListD f)) := pe_le (pe_callTy call_list_of hg hm (by decide +kernel) (pa_cons he pa_nil hs) (by decide) (by decide) hs hpl) fun σ H Q ⟨Z, ρ, Hf, env, st, o, R, e, k⟩ => by
  refine bind_at bL R e k fun x H1 ρ1 Hf1 s1 d t1 r1 R1 e1 k1 => ?_
  obtain ⟨z, h1, rfl⟩ := lft_some e1
  obtain ⟨q, xs, rfl, hq, hd⟩ := Dq.seq_of r1 h1
  exact ⟨q, xs, rfl, sq_up R1.ok.i hq, fun l hl => k1.newL R1 hl hd⟩
theorem l_catD (ha : PE X a (tE X.K W f)) (hb : PE X b (tE X.K W g)) : PE X (.BinOp a .Add b pos) (tL X.K W (lCatD f g)) := pe_le (pe_op op_catL ha hb) fun σ H Q ⟨Z, ρ, Hf, env, st, o, R, e, k⟩ => by
  refine bind_at bL R e k fun x H1 ρ1 Hf1 s1 dx t1 r1 R1 e1 k1 => ?_
  refine bind_at bL R1 e1 k1 fun y H2 ρ2 Hf2 s2 dy t2 r2 R2 e2 k2 => ?_
  obtain ⟨z, h1, rfl⟩ := lft_some e2
  obtain ⟨l1, h2, h3⟩ := obind h1
  obtain ⟨l2, h4, h5⟩ := obind h3
  obtain ⟨hl, rfl⟩ := if_some h5
  obtain ⟨q, xs, rfl, hq, hd⟩ := Dq.lst_of (Dq.up t2.up r1) h2
  obtain ⟨q2, xs2, rfl, hq2, hd2⟩ := Dq.lst_of r2 h4
  exact ⟨q, q2, xs, xs2, rfl, rfl, R2.ok.i.seq hq, R2.ok.i.seq hq2, size_le (by rw [hd.len, hd2.len]; exact hl), fun l hl => k2.newL R2 hl (hd.app hd2)⟩
theorem o_none : PO X none (tO X.K W (lft (some none))) := po_le po_none fun σ H Q ⟨Z, ρ, Hf, env, st, o, R, e, k⟩ => by
  obtain ⟨z, h1, rfl⟩ := lft_some e
  cases h1
  exact k.now R rfl
def oInt (f : F D) : F (Option Int) := bnd f fun d => lft (match d with
  | .py (.int i) => some (some i)
  | _ => none)
theorem o_some (he : PE X e (tE X.K W f)) : PO X (some e) (tO X.K W (oInt f)) := po_le (po_some he) fun σ H Q ⟨Z, ρ, Hf, env, st, o, R, e, k⟩ => by
  refine bind_at bO R e k fun x H1 ρ1 Hf1 s1 d t1 r1 R1 e1 k1 => ?_
  obtain ⟨z, h1, rfl⟩ := lft_some e1
  split at h1
  · rename_i i
    cases h1
    exact ⟨i, (Dq.dp r1).int_eq, k1.now R1 rfl⟩
  · cases h1
theorem cut_dq {K : PySem.W.Frag} {Hf : Hp} {ρ : List Addr} {vs : List V} {ds : List D} (h : DqAll K Hf ρ vs ds) (a b : Option Int) : DqAll K Hf ρ (cutV vs a b) (cutQ ds a b) := by
  unfold cutV cutQ
  rw [h.len]
  exact (h.dr _).tk _
theorem l_slD {lo hi : Option Expr} {fl fh : F (Option Int)} (he : PE X e (tE X.K W f)) (hl : PO X lo (tO X.K W fl)) (hh : PO X hi (tO X.K W fh)) : PE X (.Subscript e (.Slice lo hi none p2) pos) (tL X.K W (lSlD f fl fh)) := pe_le (pe_slice sl_list he hl hh) fun σ H Q ⟨Z, ρ, Hf, env, st, o, R, e, k⟩ => by
  refine bind_at bL R e k fun x H1 ρ1 Hf1 s1 dx t1 r1 R1 e1 k1 => ?_
  refine bind_at bL R1 e1 k1 fun i H2 ρ2 Hf2 s2 di t2 r2 R2 e2 k2 => ?_
  refine bind_at bL R2 e2 k2 fun j H3 ρ3 Hf3 s3 dj t3 r3 R3 e3 k3 => ?_
  obtain ⟨z, h1, rfl⟩ := lft_some e3
  obtain ⟨l, h2, rfl⟩ := map_ok h1
  cases (show i = di from r2)
  cases (show j = dj from r3)
  obtain ⟨q, xs, rfl, hq, hd⟩ := Dq.lst_of (Dq.up (t2.up.trans t3.up) r1) h2
  exact ⟨q, xs, rfl, R3.ok.i.seq hq, fun p hp => k3.newL R3 hp (cut_dq hd i j)⟩
end
def fnStar (n : Nat) (b : FS) : Fn := fun ds st => match ds with
  | d :: rest => if rest.length ≤ 100000 then fnO n b [d, mkT rest] st else none
  | [] => none
theorem FinR.step {K : PySem.W.Frag} {ρ ρ1 : List Addr} {Hf H Hf1 H1 : Hp} {Q : VK} {E : XK} {r : Rs Sl} (t : OStp ρ Hf H ρ1 Hf1 H1) (k : FinR K ρ Hf H Q E r) : FinR K ρ1 Hf1 H1 Q E r := by
  cases r with
  | ok s st =>
    cases s with
    | val d => exact fun v H' ρ' Hf' t' S q => k v H' ρ' Hf' (t.trans t') S q
    | own l => exact fun v H' ρ' Hf' t' S q => k v H' ρ' Hf' (t.trans t') S (bL.of t q)
  | err c st => exact fun H' ρ' Hf' t' S => k H' ρ' Hf' (t.trans t') S
theorem star_sp {K : PySem.W.Frag} {n m : Nat} {b : FS} {vs : List V} {H : Hp} {Q : VK} {E : XK} (h : spO K (m + 1) (fnStar n b) vs H Q E) :
    ∃ ws rest, vs = ws ++ rest ∧ ws.length = 1 ∧ rest.length ≤ sizeLine ∧ ∀ p, H p = none → spO K 2 (fnO n b) (ws ++ [V.ref p]) (upd H p (.tup rest)) Q E := by
  obtain ⟨hl, ρ, Hf, ds, st, r, S, hd, hG, k⟩ := h
  cases hd with
  | nil => cases hl
  | cons h0 ht =>
    rename_i v vs d ds
    obtain ⟨hle, hG⟩ := ite_some (show (if ds.length ≤ 100000 then fnO n b [d, mkT ds] st else none) = some r from hG)
    refine ⟨[v], vs, rfl, rfl, size_le (by rw [ht.len]; exact hle), fun p hp => ?_⟩
    have s := Stp.new (o := .tup vs) S.i hp
    have u : Up Hf ρ (upd Hf p (.tup vs)) ρ := ⟨s.f, List.prefix_rfl⟩
    exact ⟨rfl, ρ, _, _, st, r, S.stp s, .cons (h0.up u) (.cons (dq_mkT (SqT.of upd_same) (ht.up u)) .nil), hG, k.step (.of s)⟩
theorem star_cal {P : Program} {w : World} {K : PySem.W.Frag} {mg : Str → Option Value} {base : Heap} {x qual : Str} {params : Arguments} {body : List Stmt} {scope : Scope} {kws : List (Str × V)} {f : Addr} {fd : FuncData} {N : List Str} {p1 pv : Str} {b : FS} {n k : Nat} (m : Nat)
    (hF : FunD K x qual params body scope [] kws f fd) (S : FnScope N [p1, pv] scope) (hn : N.length = n)
    (h0 : ∀ (kV doc pm : Value) (an : Option Addr) (cdv ct : Value) (a : Value), bindArgs (PySem.W.fnOf x qual params body scope .none kV doc pm an cdv ct) ⟨[a], []⟩ = (newTuple [] >>= fun t => pure [(p1, a), (pv, t)]))
    (h1 : ∀ (kV doc pm : Value) (an : Option Addr) (cdv ct : Value) (a r : Value) (rs : List Value), bindArgs (PySem.W.fnOf x qual params body scope .none kV doc pm an cdv ct) ⟨a :: r :: rs, []⟩ = (newTuple (r :: rs) >>= fun t => pure [(p1, a), (pv, t)]))
    (hb : ∀ (cdv : Value) (A : Around) (outer : List Env) (s : Shared) (H : Hp) (E : XK), Room k (A.deeper (envOfC qual scope s.heap.objs.size f cdv)) → L2N.Takes (cxOf (L2N.CX P w) P w K mg base N qual scope f cdv A outer s H E) (fun cls d _ H => E cls d H) →
      PSs (cxOf (L2N.CX P w) P w K mg base N qual scope f cdv A outer s H E) body (tS K (fun cls d _ H => E cls d H) b)) :
    Cal P w K mg base (k + 1) f (spO K (m + 1) (fnStar n b)) := by
  obtain ⟨oc, od, dV, kV, doc, pm, an, cdv, ct, osl, rfl, lk, hcd, hD, _⟩ := hF.ex
  obtain rfl : dV = .none := by
    rcases hD with ⟨_, e⟩ | ⟨e, _⟩
    · exact e
    · exact absurd rfl e
  intro A outer s H us vs Q E hr e0 r h
  refine StX.fn_star (ps := [p1]) (pv := pv) (sp := spO K 2 (fnO n b)) lk hcd S cxUpN (StX.bind_star1 (B := fun us => bindArgs (PySem.W.fnOf x qual params body scope .none kV doc pm an cdv ct) ⟨us, []⟩) (fun a => h0 _ _ _ _ _ _ a) fun a r rs => h1 _ _ _ _ _ _ a r rs) (fun A outer s H vs Q E hr h => ?_) A outer s H us vs Q E hr e0 r (star_sp h)
  exact ⟨_, hb cdv A outer s H E hr fin_takes, body_ok (X := cxOf (L2N.CX P w) P w K mg base N qual scope f cdv A outer s H E) (sts := body) hn h⟩
end Ob

namespace Ob
open PySem PySem.Spec PyProof.Rows L2 Fi
section
variable {C : Type} [DecidableEq C] [BEq C] [LawfulBEq C]
def ddup (σ : List C) (v : C) : List C := if σ.any (· == v) then σ else σ ++ [v]
def firsts (val : Nat → C) : Nat → List C
  | 0 => []
  | i + 1 => ddup (firsts val i) (val i)
theorem ddup_any (σ : List C) (v k : C) : (ddup σ v).any (· == k) = (σ.any (· == k) || decide (k = v)) := by
  unfold ddup
  by_cases h : σ.any (· == v) = true
  · rw [if_pos h]
    by_cases e : k = v
    · subst e; rw [h]; simp
    · simp [e]
  · rw [if_neg h, List.any_append]
    by_cases e : k = v
    · subst e; simp
    · have hb : (v == k) = false := by simpa [beq_iff_eq] using (fun h' : v = k => e h'.symm)
      simp [hb, e]
theorem ddup_len (σ : List C) (v : C) : (ddup σ v).length = if σ.any (· == v) then σ.length else σ.length + 1 := by
  unfold ddup; split <;> simp
theorem firsts_le (val : Nat → C) : ∀ i, (firsts val i).length ≤ i
  | 0 => Nat.le_refl _
  | i + 1 => by
    have ih := firsts_le val i
    show (ddup (firsts val i) (val i)).length ≤ i + 1
    rw [ddup_len]
    split <;> omega
variable {prog : Program} {w : World} {knd : KeyKind prog w C} {A : Around}
theorem code_set_loop {R : Result → Shared → Prop} {I : Addr} {fp wr : List Addr} {G : Array GenState → Array GenState → Prop} {n : Nat} {P : Nat → Value → Prop} {St : Nat → Shared → Prop} (W : WalksS prog w A.in1 I fp wr G n P St) (S : Addr) (hSf : S ∉ fp)
    (val : Nat → C) (hval : ∀ i v, P i v → knd.is (val i) v = true ∧ v.scannable = true) (hb : n + 1 < scanBound) :
    ∀ (k i : Nat) (s : Shared), n - i = k → i ≤ n → St i s →
      s.heap.SetOf knd S (fun k' => (firsts val i).any (· == k')) (firsts val i).length →
      (∀ s', Moved (S :: wr) G s s' → s'.heap.SetOf knd S (fun k' => (firsts val n).any (· == k')) (firsts val n).length → R (.ok (.ret .none)) s') →
      codeAny (model prog w) A (.builtin "set.update.loop" ⟨[.ref S, .ref I], []⟩) R s := by
  have hSw : S ∉ wr := fun h => hSf (W.sub _ h)
  have hsub : ∀ b ∈ wr, b ∈ S :: wr := fun b hb => List.mem_cons_of_mem _ hb
  intro k
  induction k with
  | zero =>
    intro i s hk hi hst hS hR
    have hin : i = n := by omega
    subst hin
    refine codeAny_builtin PyProof.Rows.F.entry_set_update_loop ?_
    rw [Around.under_plainId PyProof.Rows.F.plain_set_update_loop _]
    show wpAny _ A.in1 (pyNext (.ref I) >>= _) _ _ s
    refine wpAny_bind (W.done s _ _ hst fun s' hm => ?_)
    show wpAny _ A.in1 (ret Value.none) _ _ s'
    exact wpAny_pure (hR s' (hm.mono hsub) (by
      obtain ⟨o, es, ep, t, ho, rest⟩ := hS
      exact ⟨o, es, ep, t, hm.heap S _ hSw ho, rest⟩))
  | succ k ih =>
    intro i s hk hi hst hS hR
    have hlt : i < n := by omega
    refine codeAny_builtin PyProof.Rows.F.entry_set_update_loop ?_
    rw [Around.under_plainId PyProof.Rows.F.plain_set_update_loop _]
    show wpAny _ A.in1 (pyNext (.ref I) >>= _) _ _ s
    refine wpAny_bind (W.item i s _ _ hlt hst fun v s' hP hst' hm => ?_)
    obtain ⟨hk1, hk2⟩ := hval i v hP
    have hS' : s'.heap.SetOf knd S (fun k' => (firsts val i).any (· == k')) (firsts val i).length := by
      obtain ⟨o, es, ep, tb, ho, rest⟩ := hS
      exact ⟨o, es, ep, tb, hm.heap S _ hSw ho, rest⟩
    show wpAny _ A.in1 (holding [v] (setAdd S v) >>= _) _ _ s'
    refine wpAny_bind (wpAny_holding ?_)
    unfold setAdd
    refine wpAny_holding ?_
    refine wpAny_bind (knd.pyHash (k := val i) hk1 ?_)
    have hroom : (firsts val i).length + 1 < scanBound := by have := firsts_le val i; omega
    refine wpAny_setAddHashed_of (knd := knd) hk1 hk2 hS' hroom fun h' hsb hS2 => ?_
    have hSi : h'.SetOf knd S (fun k' => (firsts val (i + 1)).any (· == k')) (firsts val (i + 1)).length :=
      SetOf_congr hS2 (fun k' => by rw [show firsts val (i + 1) = ddup (firsts val i) (val i) from rfl, ddup_any]) (by rw [show firsts val (i + 1) = ddup (firsts val i) (val i) from rfl, ddup_len])
    refine wpAny_pure ⟨plainId_quiet PyProof.Rows.F.plain_set_update_loop _, ih (i + 1) _ (by omega) hlt (W.frame _ s' _ _ hst' (Nat.le_succ _) fun b hb o e => ?_) hSi fun s'' hm'' hS'' => ?_⟩
    · rw [hsb.2 b (fun h : b = S => hSf (by rw [← h]; exact hb))]; exact e
    · refine hR s'' (Moved.trans W.gtrans ((hm.mono hsub).then_heap (Nat.le_succ _) fun b o hb e => ?_) hm'') hS''
      rw [hsb.2 b (fun h : b = S => hb (by rw [h]; exact List.mem_cons_self))]; exact e
theorem call_setK {E : Value → Shared → Prop} {s : Shared} {l : Addr} {items : Array Value} {val : Nat → C} {Q : Value → Shared → Prop}
    (hh : A.handled = none) (hl : s.heap.IsList l items) (hi : ∀ (i : Nat) (v : Value), items[i]? = some v → knd.is (val i) v = true ∧ v.scannable = true) (hb : items.size + 1 < scanBound)
    (h : ∀ (h' : Heap) (tk : Nat), h'.SetOf knd s.heap.objs.size (fun k' => (firsts val items.size).any (· == k')) (firsts val items.size).length →
      (∀ b o, b < s.heap.objs.size → s.heap.get? b = some o → h'.get? b = some o) → Q (.ref s.heap.objs.size) { s with heap := h', toks := tk }) :
    wpAny (model prog w) A (call (.type "set") [.ref l]) Q E s := by
  obtain ⟨c, tl, hmro⟩ := PySem.F.called_set.mro
  have hmade := PySem.F.called_set.made
  have hsub := PySem.F.called_set.sub
  refine wpAny_call (codeAny_of_tree ?_)
  show wpAny _ _ (callAny (.type "set") _) _ _ _
  refine wpAny_pure ⟨Code.quiet_builtin _ (by decide +kernel), codeAny_builtin PySem.F.entry_type_call ?_⟩
  rw [Around.under_plain (weight_type_call_type "set" [.ref l] []) rfl]
  have h1 := PySem.F.called_set.notType
  have h2 := PySem.F.called_set.canCreate
  have hct := PySem.F.typeCall_set_1 (.ref l)
  repeat (any_goals (first | assumption | wp_step))

  refine codeAny_mono (code_set_new_1 (.ref l) (E := E) (Q₁ := fun obj s₁ => ∃ led : Bool, obj = .ref s.heap.objs.size ∧ s₁ = { s with heap := s.heap.push { cls := .type "set", dict := none, data := .set #[] 0 (.fresh 0 0 led) } }) fun led => ⟨led, rfl, rfl⟩) fun r s₁ hr => ?_
  cases r with
  | error e => exact hr
  | ok fl =>
    cases fl with
    | ret obj =>
      obtain ⟨led, rfl, rfl⟩ := hr
      have hS : (s.heap.push { cls := .type "set", dict := none, data := .set #[] 0 (.fresh 0 0 led) }).get? s.heap.objs.size = some { cls := .type "set", dict := none, data := .set #[] 0 (.fresh 0 0 led) } := Heap.get?_push_size _ rfl
      have hT : Shared.TypeIs { s with heap := s.heap.push { cls := .type "set", dict := none, data := .set #[] 0 (.fresh 0 0 led) } } (.ref s.heap.objs.size) "set" := ⟨_, hS, rfl⟩
      have hli := PySem.F.called_set.init.lookup
      have hbi := PySem.F.called_set.init.bind (.ref s.heap.objs.size)
      repeat (any_goals (first | assumption | wp_step))

      refine codeAny_mono (codeAny_call_builtin (R := wants (fun r s₂ => r = .none ∧ ∃ h' tk, s₂ = { s with heap := h', toks := tk } ∧
          h'.SetOf (knd) s.heap.objs.size (fun k' => (firsts val items.size).any (· == k')) (firsts val items.size).length ∧
          (∀ b o, b < s.heap.objs.size → s.heap.get? b = some o → h'.get? b = some o)) E) PySem.F.called_set.init.plain PySem.F.entry_set_init (check_set_init_1 hT ?_)) fun r₂ s₂ hr₂ => ?_
      · obtain ⟨ol, hol, hcl, nl, hdl⟩ := hl
        obtain ⟨ocls, odict, odata, oslots⟩ := ol
        simp only at hcl hdl
        subst hcl; subst hdl
        have hol' : (s.heap.push { cls := .type "set", dict := none, data := .set #[] 0 (.fresh 0 0 led) }).get? l = some { cls := .type "list", dict := odict, data := .seq items nl, slots := oslots } := Heap.get?_push_of_some _ hol
        have hsls := PySem.F.sub_list_set
        have hslf := PySem.F.sub_list_frozenset
        have hne : (Value.type "list" == Value.type "dict") = false := by decide
        have hl1 : (s.heap.push { cls := .type "set", dict := none, data := .set #[] 0 (.fresh 0 0 led) }).IsList l items := ⟨_, hol', rfl, nl, rfl⟩
        unfold Builtin.«set.__init__» noKeywords Builtin.Frozenset.updateFrom
        generalize hPI : pyIter = PI
        wp_walk
        subst hPI

        refine wpAny_pyIter_list hl1 ?_
        refine wpAny_bind (wpAny_runValue ?_)
        have hlS : l < s.heap.objs.size := Heap.lt_size hol
        have hh3 : A.in1.in1.in1.handled = none := by simp [hh]
        have hneI : l ≠ (s.heap.push { cls := .type "set", dict := none, data := .set #[] 0 (.fresh 0 0 led) }).objs.size := by
          rw [Heap.size_push]; exact Nat.ne_of_lt (Nat.lt_succ_of_lt hlS)
        have hSf : s.heap.objs.size ∉ [(s.heap.push { cls := .type "set", dict := none, data := .set #[] 0 (.fresh 0 0 led) }).objs.size, l] := by
          rw [Heap.size_push]; simp only [List.mem_cons, List.mem_singleton, List.not_mem_nil, or_false, not_or]
          exact ⟨Nat.ne_of_lt (Nat.lt_succ_self _), Nat.ne_of_gt hlS⟩
        refine code_set_loop (knd := knd) ((Walks.list hh3 _ l hneI items).toS) s.heap.objs.size
          hSf val hi hb (items.size - 0) 0 _ (by omega) (Nat.zero_le _)
          ⟨⟨_, Heap.get?_push_size _ rfl, rfl, rfl⟩, (hl1.push _)⟩ ?hS0 ?hR
        case hS0 =>
          have hget : ((s.heap.push { cls := .type "set", dict := none, data := .set #[] 0 (.fresh 0 0 led) }).push { cls := .type "list_iterator", data := .fields #[.ref l, .int 0 0] }).get? s.heap.objs.size
              = some { cls := .type "set", dict := none, data := .set #[] 0 (.fresh 0 0 led) } := Heap.get?_push_of_some _ hS
          exact PyProof.Rows.SetOf_congr ((PyProof.Rows.setObjOf_fresh (knd := knd) led).setOf hget (by unfold scanBound; omega)) (fun _ => rfl) rfl
        case hR =>
          intro s' hm hS'
          obtain ⟨h', g', d', tk', os'⟩ := s'
          have eg : g' = s.gens := hm.gens
          have ed : d' = s.drawn := hm.drawn
          have eo : os' = s.os := hm.os
          subst eg; subst ed; subst eo
          show wpAny _ _ _ _ _ _
          refine wpAny_pure ?_
          show wpAny _ _ (ret Value.none) _ _ _
          refine wpAny_pure ⟨rfl, h', tk', rfl, hS', fun b o hb e => ?_⟩
          have hb1 : b ≠ s.heap.objs.size := Nat.ne_of_lt hb
          have hb2 : b ≠ (s.heap.push { cls := .type "set", dict := none, data := .set #[] 0 (.fresh 0 0 led) }).objs.size := by
            rw [Heap.size_push]; exact Nat.ne_of_lt (Nat.lt_succ_of_lt hb)
          exact hm.heap b o (by simp only [List.mem_cons, List.mem_singleton, List.not_mem_nil, or_false, not_or]; exact ⟨hb1, hb2⟩) (Heap.get?_push_of_some _ (Heap.get?_push_of_some _ e))

      · cases r₂ with
        | error e => exact hr₂
        | ok fl₂ =>
          cases fl₂ with
          | ret r =>
            obtain ⟨rfl, h', tk, rfl, hS', hk'⟩ := hr₂
            repeat (any_goals (first | assumption | wp_step))
            exact h _ _ hS' hk'
          | _ => exact hr₂.elim
    | _ => exact hr.elim
end
/-- how many texts -/
def distS (ns : List Str) : Nat := (firsts (fun i => ns.getD i "") ns.length).length
def getStrs : List PyData → Option (List Str)
  | [] => some []
  | .str z :: r => (getStrs r).map (z :: ·)
  | _ => none
theorem getStrs_eq : ∀ {ps : List PyData} {ns : List Str}, getStrs ps = some ns → ps = ns.map .str
  | [], _, h => by cases h; rfl
  | .str z :: r, ns, h => by
    obtain ⟨q, h1, rfl⟩ := map_ok (show (getStrs r).map (z :: ·) = some ns from h)
    rw [getStrs_eq h1]
    rfl
  | .int _ :: _, _, h => by cases h
  | .bool _ :: _, _, h => by cases h
  | .none :: _, _, h => by cases h
  | .list _ :: _, _, h => by cases h
  | .tuple _ :: _, _, h => by cases h
def lenSetS : D → Option D
  | .py (.list ps) => (getStrs ps).bind fun ns => if ns.length ≤ 4000 then some (.py (.int (distS ns))) else none
  | _ => none
def eLenSetS (f : F D) : F D := bnd f fun d => lft (lenSetS d)
theorem dp_strs {K : PySem.W.Frag} {H : Hp} : ∀ {ns : List Str} {vs : List V}, DpAll K H vs (ns.map .str) → vs = ns.map V.str
  | [], _, h => by cases h; rfl
  | n :: ns, _, h => by
    cases h with
    | cons a t => rw [dp_strs t, a.str_eq]; rfl
theorem strs_at : ∀ {ns : List Str} {its : List Value}, Vals (ns.map V.str) its → ∀ (i : Nat) (v : Value), its[i]? = some v → ∃ t, v = .str (ns.getD i "") t
  | [], _, h, i, v, e => by cases h; simp at e
  | n :: ns, _, h, 0, v, e => by
    cases h with
    | cons a t =>
      simp at e
      subst e
      obtain ⟨t, ht⟩ := a
      exact ⟨t, ht⟩
  | n :: ns, _, h, i + 1, v, e => by
    cases h with
    | cons a t => exact strs_at t i v (by simpa using e)
theorem isStrK {P : Program} {w : World} (k : Str) (u : Tok) : (PySem.strKind P w).is k (.str k u) = true := by
  have e : (PySem.strKind P w).is = Value.isStrOf := rfl
  rw [e]
  simp [Value.isStrOf]
theorem pe_lenSetS {X : Cx} {a : Expr} {ta : TE} {p p2 q pos : Pos} (hg : Gl X "len") (hm : X.mg "len" = none) (hg2 : Gl X "set") (hm2 : X.mg "set" = none) (ha : PE X a ta) (hc : X.calm = true := by rfl)
    (na : starEach [a] X.env = (false, eval a X.env) :: starEach [] X.env := by rfl) : PE X (.Call (.Name "len" p) [.Call (.Name "set" p2) [a] [] q] [] pos) (fun σ H Q => ta σ H fun x H1 => ∃ (l : Addr) (ns : List Str), x = .ref l ∧ SqL X.K H1 l (ns.map V.str) ∧ ns.length ≤ 4000 ∧ Q (.int (distS ns : Nat)) H1) := by
  refine ⟨fun pins s σ H Q I h => ?_⟩
  refine Call_ (ld_blt I hg hm boot_len ?_)
  refine PyProof.Rows.callWith_builtin1 (PyProof.Rows.args_cons ?_ rfl) rfl rfl
  refine Call_ (ld_blt I hg2 hm2 boot_set ?_)
  refine PyProof.Rows.callWith_type1 (PyProof.Rows.args_cons (thn (ha.run pins s σ H _ I h) fun v s1 ⟨x, H1, I1, r1, q1⟩ => PyProof.Rows.args_nil ?_) na) na rfl
  obtain ⟨l, ns, rfl, hq, hl, q1⟩ := q1
  cases r1
  obtain ⟨its, r, pl, hz⟩ := I1.list hq
  have hlen : its.toArray.size = ns.length := by rw [List.size_toArray, ← r.length, List.length_map]
  have hle := firsts_le (fun i => ns.getD i "") ns.length
  refine call_setK (knd := PySem.strKind X.prog X.w) (val := fun i => ns.getD i "") (I1.ok.hd hc) pl.isList (fun i v e => ?_) (by rw [hlen]; unfold scanBound; omega) fun h' tk hS hk => ?_
  · obtain ⟨t, rfl⟩ := strs_at r i v (by simpa using e)
    exact ⟨isStrK _ _, rfl⟩
  refine PyProof.Rows.args_nil ?_
  rw [hlen] at hS
  obtain ⟨o, es, ep, t, ho, hex, hd, _, _, _, hf, hn⟩ := hS
  have I2 : Inv X pins σ H1 { s1 with heap := h', toks := tk } := I1.kept fun b o e => hk b o (Heap.lt_size e) e
  exact call_len_set ho hex hd hf (by rw [hn] <;> omega) ⟨.int (distS ns), H1, I2.tok _, ⟨_, by rw [hn] <;> rfl⟩, q1⟩
theorem x_lenSetS {X : Cx} {W : WX} {a : Expr} {f : F D} {p p2 q pos : Pos} (hg : Gl X "len") (hm : X.mg "len" = none) (hg2 : Gl X "set") (hm2 : X.mg "set" = none) (ha : PE X a (tE X.K W f)) (hc : X.calm = true := by rfl)
    (na : starEach [a] X.env = (false, eval a X.env) :: starEach [] X.env := by rfl) : PE X (.Call (.Name "len" p) [.Call (.Name "set" p2) [a] [] q] [] pos) (tE X.K W (eLenSetS f)) := pe_le (pe_lenSetS hg hm hg2 hm2 ha hc na) fun σ H Q ⟨Z, ρ, Hf, env, st, o, R, e, k⟩ => by
  refine bind_at bE R e k fun x H1 ρ1 Hf1 s1 d t1 r1 R1 e1 k1 => ?_
  obtain ⟨z, h1, rfl⟩ := lft_some e1
  unfold lenSetS at h1
  split at h1
  · rename_i ps
    obtain ⟨ns, h2, h3⟩ := obind h1
    obtain ⟨hl, rfl⟩ := if_some h3
    cases getStrs_eq h2
    obtain ⟨b, xs, rfl, hq, hd⟩ := (Dq.dp r1).lst_of
    cases dp_strs hd
    exact ⟨b, ns, rfl, R1.ok.i.seq hq, hl, k1.now R1 (.py (.int _))⟩
  · cases h1
end Ob

namespace Ob
open PySem PySem.Spec PyProof.Rows L2 Fi
open AutoSeq1 (wpAny_loadPart')
open MeetsSeq MeetsSeq2 MeetsSeq3 SeqRoads2
section
variable {prog : Program} {w : World} {A : Around} {E : Value → Shared → Prop} {s : Shared} {K : PySem.W.Frag}
abbrev FinB (prog : Program) (w : World) (A : Around) (R : Result → Shared → Prop) : PySem.Fin → Shared → Prop := fun fin s' => match fin with
  | .done f => R (.ok f) s'
  | .again c' => c'.quiet = true ∧ codeAny (model prog w) A c' R s'
def LsAt (l : Addr) (items : Array Value) (s : Shared) : Prop := ∃ (dd : Option Addr) (n : Nat) (sl : Array (Option Value)), s.heap.get? l = some { cls := .type "list", dict := dd, data := .seq items n, slots := sl }
variable {R : Result → Shared → Prop}
end
end Ob

namespace Ob
open PySem PySem.Spec PyProof.Rows L2 Fi
abbrev TabE := List (Str × List Str × List Str × Fn)
structure EqR (P : Program) (w : World) (K : PySem.W.Frag) (mg : Str → Option Value) (base : Heap) (k : Nat) (c : Str) (bl ot : List Str) (G : Fn) : Prop where
  ex : ∃ f, PySem.W.findIn K (.ref (He.ga K c)) "__eq__" = some (some (.ref f)) ∧ PySem.W.isFn K (.ref f) = true ∧ Cal P w K mg base k f (spO K 2 G)
  ty : ∀ t ∈ tys, PySem.W.subIn K (.type t) (.ref (He.ga K c)) = some false
  bl : ∀ d ∈ bl, PySem.W.subIn K (.ref (He.ga K d)) (.ref (He.ga K c)) = some true ∧ He.ga K c ≠ He.ga K d
  ot : ∀ d ∈ ot, PySem.W.subIn K (.ref (He.ga K d)) (.ref (He.ga K c)) = some false
def EqT (P : Program) (w : World) (K : PySem.W.Frag) (mg : Str → Option Value) (base : Heap) (k : Nat) (T : TabE) : Prop := ∀ p ∈ T, EqR P w K mg base k p.1 p.2.1 p.2.2.1 p.2.2.2
/-- is the right one asked first? -/
def side (c : Str) (bl ot : List Str) (y : D) (st : Stor) : Option Bool := match y with
  | .py p => if tyD p ∈ tys then some false else none
  | .tup _ => some false
  | .lst _ => some false
  | .obj m => match st[m]? with
    | some (.ins c' _) => if c' = c then some false else if c' ∈ bl then some true else if c' ∈ ot then some false else none
    | _ => none
  | .cls _ => none
def goB (G : Fn) (ds : List D) (st : Stor) : Option (Bool × Stor) := match G ds st with
  | some (.ok (.val (.py (.bool b))) s) => some (b, s)
  | _ => none
def insC (d : D) (st : Stor) : Option Str := match d with
  | .obj n => match st[n]? with
    | some (.ins c _) => some c
    | _ => none
  | _ => none
def eqD (T : TabE) (x y : D) (st : Stor) : Option (Bool × Stor) := (insC x st).bind fun c => (T.lookup c).bind fun q => (side c q.1 q.2.1 y st).bind fun r => if r then (insC y st).bind fun c' => (T.lookup c').bind fun q' => goB q'.2.2 [y, x] st else goB q.2.2 [x, y] st
section
variable {X : Cx} {k : Nat} {T : TabE} {A : Around} {pins : List (Addr × Obj)} {s : Shared} {σ : L2.St} {H Hf : Hp} {ρ : List Addr} {st st' : Stor} {x y : V} {u v : Value} {dx dy : D} {b : Bool}
/-- what an == leaves -/
def EqPost (X : Cx) (pins : List (Addr × Obj)) (σ : L2.St) (ρ : List Addr) (Hf H : Hp) (st' : Stor) (s' : Shared) : Prop := ∃ H' ρ' Hf', Inv X pins σ H' s' ∧ OStp ρ Hf H ρ' Hf' H' ∧ StOk X.K ρ' Hf' H' st'
def rEqO (K : PySem.W.Frag) (T : TabE) : R2 := fun x y H Q => ∃ (ρ : List Addr) (Hf : Hp) (st st' : Stor) (dx dy : D) (b : Bool), StOk K ρ Hf H st ∧ Dq K Hf ρ x dx ∧ Dq K Hf ρ y dy ∧ eqD T dx dy st = some (b, st') ∧ ∀ H' ρ' Hf', OStp ρ Hf H ρ' Hf' H' → StOk K ρ' Hf' H' st' → Q (.bl b) H'
def eEqO (T : TabE) (f g : F D) : F D := bnd f fun x => bnd g fun y _ st => (eqD T x y st).map fun q => .ok (.py (.bool q.1)) q.2
variable {W : WX} {ea eb : Expr} {f g : F D} {pos : Pos}
def objs : List D → Option (List Nat)
  | [] => some []
  | .obj n :: r => (objs r).map (n :: ·)
  | _ => none
def eqN (T : TabE) : List Nat → List Nat → Stor → Option (Bool × Stor)
  | [], [], st => some (true, st)
  | n :: ns, m :: ms, st => if n = m then eqN T ns ms st else match eqD T (.obj n) (.obj m) st with
    | some (true, s) => eqN T ns ms s
    | some (false, s) => some (false, s)
    | none => none
  | _, _, _ => none
def eqLs (T : TabE) (x y : D) (st : Stor) : Option (Bool × Stor) := x.lst?.bind fun xs => y.lst?.bind fun ys => (objs xs).bind fun ns => (objs ys).bind fun ms => if ns.length = ms.length then eqN T ns ms st else some (false, st)
def rEqL (K : PySem.W.Frag) (T : TabE) : R2 := fun x y H Q => ∃ (ρ : List Addr) (Hf : Hp) (st st' : Stor) (dx dy : D) (b : Bool), StOk K ρ Hf H st ∧ Dq K Hf ρ x dx ∧ Dq K Hf ρ y dy ∧ eqLs T dx dy st = some (b, st') ∧ ∀ H' ρ' Hf', OStp ρ Hf H ρ' Hf' H' → StOk K ρ' Hf' H' st' → Q (.bl b) H'
def eEqL (T : TabE) (f g : F D) : F D := bnd f fun x => bnd g fun y _ st => (eqLs T x y st).map fun q => .ok (.py (.bool q.1)) q.2
end
end Ob

namespace Ob
open PySem PySem.Spec PyProof.Rows L2 Fi
structure LenC (P : Program) (w : World) (K : PySem.W.Frag) (mg : Str → Option Value) (base : Heap) (k : Nat) (c : Str) (G : Fn) : Prop where
  ex : ∃ f, PySem.W.findIn K (.ref (He.ga K c)) "__len__" = some (some (.ref f)) ∧ PySem.W.isFn K (.ref f) = true ∧ Cal P w K mg base k f (spO K 1 G)
def lenO (c : Str) (G : Fn) (d : D) (st : Stor) : Option (Rs D) := if insC d st = some c then (match G [d] st with
  | some (.ok (.val (.py (.int n))) s) => if 0 ≤ n ∧ n < 9223372036854775808 then some (.ok (.py (.int n)) s) else none
  | _ => none) else none
def eLenO (c : Str) (G : Fn) (f : F D) : F D := bnd f fun d _ st => lenO c G d st
section
variable {X : Cx} {W : WX} {e : Expr} {f : F D} {p pos : Pos} {c : Str} {G : Fn} {j k : Nat}
/-- C() -/
def eMake0 (G : Fn) (c : Str) : F D := fun _ st => made G c [] st
end
section
variable {P : Program} {w : World} {K : PySem.W.Frag} {mg : Str → Option Value} {base : Heap} {j k : Nat} {c C : Str} {G : Fn} {T : TabE} {bl ot : List Str}
def eqB (K : PySem.W.Frag) (c : Str) (bl ot : List Str) : Bool := (tys.all fun t => decide (PySem.W.subIn K (.type t) (.ref (He.ga K c)) = some false)) && ((bl.all fun d => decide (PySem.W.subIn K (.ref (He.ga K d)) (.ref (He.ga K c)) = some true) && decide (He.ga K c ≠ He.ga K d)) && ((ot.all fun d => decide (PySem.W.subIn K (.ref (He.ga K d)) (.ref (He.ga K c)) = some false)) && (isRef (PySem.W.findIn K (.ref (He.ga K c)) "__eq__") && PySem.W.isFn K (.ref (He.ma K (He.ga K c) "__eq__")))))
def lenB (K : PySem.W.Frag) (c : Str) : Bool := isRef (PySem.W.findIn K (.ref (He.ga K c)) "__len__") && PySem.W.isFn K (.ref (He.ma K (He.ga K c) "__len__"))
end
end Ob

namespace Ob
open PySem PySem.Spec PyProof.Rows L2 Fi
structure StatO (P : Program) (w : World) (K : PySem.W.Frag) (mg : Str → Option Value) (base : Heap) (k : Nat) (c m : Str) (n : Nat) (G : List PyData → Option Fi.Sl) : Prop where
  cls : Cls K (He.ga K c)
  ex : ∃ (p f : Addr) (rest : List Value) (fd : FuncData) (ps : List Str), PySem.W.findIn K (.ref (He.ga K c)) m = some (some (.ref p)) ∧ PySem.W.typeIn K (.ref p) = some (.type "staticmethod") ∧ PySem.W.specialIn K (.ref p) "__get__" = some (some (.builtin "staticmethod.__get__")) ∧ PySem.W.takesIn K (.ref p) = some false ∧
    PySem.W.recIn K p "staticmethod" = some (.ref f :: rest) ∧ FnOk P w K mg base CX0 k f fd ps (spD K n G) ∧ PySem.W.keepIn K (.ref f) = true ∧ Binds K fd ps []
def noF (c m : Str) (d : D) (st : Stor) : Bool := match d with
  | .obj n => match st[n]? with
    | some (.ins c' fs) => decide (c' = c) && (fs.lookup m).isNone
    | _ => false
  | _ => false
def eStatO (c m : Str) (q : FE) (f : F D) : F D := bnd f fun d env st => if noF c m d st = true then pE q env st else none
section
variable {X : Cx} {W : WX} {j k : Nat} {m c : Str} {apos pos : Pos} {e o : Expr} {es : List Expr} {f : F D}
end
def statB (K : PySem.W.Frag) (c m : Str) : Bool := isRef (PySem.W.findIn K (.ref (He.ga K c)) m) && (decide (PySem.W.typeIn K (.ref (He.ma K (He.ga K c) m)) = some (.type "staticmethod")) && (decide (PySem.W.specialIn K (.ref (He.ma K (He.ga K c) m)) "__get__" = some (some (.builtin "staticmethod.__get__"))) && (decide (PySem.W.takesIn K (.ref (He.ma K (He.ga K c) m)) = some false) && isRefs (PySem.W.recIn K (He.ma K (He.ga K c) m) "staticmethod"))))
end Ob
namespace Fi
open PySem PySem.Spec PyProof.Rows L2
def fNotInS : PyData → PyData → Option PyData
  | .str s, .str z => match s.cps.toList with
    | [c] => some (.bool (!decide (c ∈ z.cps.toList)))
    | _ => none
  | _, _ => none
end Fi

namespace Ob
open PySem PySem.Spec PyProof.Rows L2 Fi
def enumO (ds : List D) : List D := List.zipWith (fun (i : Nat) y => mkT [.py (.int (i : Int)), y]) (List.range ds.length) ds
def iEnL (f : F D) : F (List D) := bnd f fun d => lft (d.lst?.map enumO)
section
variable {X : Cx} {W : WX} {e : Expr} {f : F D} {p pos tpos : Pos} {elts : List Expr} {kk : Nat}
end
end Ob
namespace Fi
open PySem PySem.Spec PyProof.Rows L2
/-- xs[::-1] -/
def lRev (f : FE) : FL := fun env => match f env with
  | some (.list l) => some l.reverse
  | _ => none
end Fi

namespace Ob
open PySem PySem.Spec PyProof.Rows L2 Fi
section
variable {M : Model} {A : Around} {E : Value → Shared → Prop} {h : Heap} {g : Array GenState} {d : Drawn} {t : Nat} {os : OsState}
end
section
variable {P : Program} {w : World} {K : PySem.W.Frag} {mg : Str → Option Value} {base : Heap} {file x qual : Str} {params : Arguments} {body : List Stmt} {scope : Scope} {kws : List (Str × V)} {Dc f : Addr} {fd : FuncData} {b : FS} {k : Nat}
end
end Ob

namespace Ob
open PySem PySem.Spec PyProof.Rows L2 Fi
structure CMt (P : Program) (w : World) (K : PySem.W.Frag) (mg : Str → Option Value) (base : Heap) (k : Nat) (C m : Str) (n : Nat) (G : Fn) : Prop where
  g : mg C = some (.ref (He.ga K C))
  ex : ∃ (mc : Value) (p f : Addr), ClX.CRead K (He.ga K C) mc ∧ ClX.CMet K (He.ga K C) mc m p f ∧ Cal P w K mg base k f (spO K (n + 1) G)
def eCM (G : Fn) (C : Str) (n : Nat) (r : F (List D)) : F D := bnd r fun ds _ st => if ds.length = n then goE G (.cls C :: ds) st else none
section
variable {X : Cx} {W : WX} {j k n : Nat} {G : Fn} {C x m : Str} {p pos apos : Pos} {e o : Expr} {es : List Expr} {r : F (List D)} {f g : F D}
theorem run_calM {sp : Sp} {pins : List (Addr × Obj)} {σ : L2.St} {H : Hp} {s : Shared} {Q : VK} {us : List Value} {vs : List V} {E : XK} {q g C : Addr} (F : Cal X.prog X.w X.K X.mg X.base k g sp) (hr : Room k X.A) (hx : PassesAt (L2N.CX X.prog X.w) X σ E) (I : Inv X ((q, PySem.W.methodObj (.ref g) (.ref C)) :: pins) σ H s) (r : Vals vs us) (h : sp (.ref C :: vs) H Q E) :
    wpAny (model X.prog X.w) X.A (call (.ref q) us) (EP X pins σ Q) X.xe s := by
  have z : wpAny (model X.prog X.w) X.A (call (.ref q) us) (EP X ((q, PySem.W.methodObj (.ref g) (.ref C)) :: pins) σ Q) X.xe s := by
    refine wpAny_call (PySem.W.method_call (ClX.pin_at I) (codeAny_mono (F X.A X.stack s H (.ref C :: us) (.ref C :: vs) Q E hr I.env0 (.cons rfl r) h) fun r s' hq => ?_))
    cases r with
    | error e => exact hx _ H s e s' I hq
    | ok fl =>
      cases fl with
      | ret u => exact I.after hq
      | next => exact False.elim hq
      | brk => exact False.elim hq
      | cont => exact False.elim hq
  exact thn z fun _ _ y => ClX.unpinE y
/-- C.m(..), m a class method -/
theorem x_cm {pl : Sem Bool} (c : CMt X.prog X.w X.K X.mg X.base j C m n G) (hr : Room k X.A) (tk : L2N.Takes X W) (ha : PA X (e :: es) (tA X.K W r)) (hg : Gl X C := by rfl) (hjk : j ≤ k := by decide) (hdb : (C == ("__debug__" : Str)) = false := by decide)
    (hst : starEach (e :: es) X.env = (false, eval e X.env) :: starEach es X.env := by rfl) (hpl : (backTo pos (starEach es X.env)).any (·.1) = false := by rfl)
    (ht : eval (.Call (.Attribute (.Name C p) m apos) (e :: es) [] pos) X.env = (do
      let ov ← eval (.Name C p) X.env
      standAt apos.atName
      let (f, first) ← holding [ov] (getMethod ov m pl)
      callWith pos f first (backTo pos (starEach (e :: es) X.env)) (backToKw pos (keywordEach [] X.env))) := by rfl) :
    PE X (.Call (.Attribute (.Name C p) m apos) (e :: es) [] pos) (tE X.K W (eCM G C n r)) := by
  obtain ⟨mc, pp, f, h1, h2, h3⟩ := c.ex
  have hn : PE X (.Name C p) (tC (.ref (He.ga X.K C))) := ⟨fun _ _ _ H _ I h => ld_glob I hg c.g ⟨.ref _, H, I, rfl, h⟩ hdb⟩
  refine ⟨fun pins s σ H Q I ⟨Z, ρ, Hf, env, st, o, R, e, k⟩ => ?_⟩
  refine PySem.W.methodCall_KW (pl := pl) (thn (hn.run pins s σ H (fun x H1 => x = .ref (He.ga X.K C) ∧ H1 = H) I ⟨rfl, rfl⟩) fun u s1 ⟨x, H1, I1, rx, ex, eH⟩ => ?_) ht
  subst ex eH
  obtain rfl : u = Value.ref (He.ga X.K C) := rx
  refine ClX.getmethcm_ok I1 h1 h2 fun s2 I2 => ?_
  refine ClX.callwith_cm I2 (ClX.base_none I1 (Nat.le_refl _)) h2.fi (thn (ha.run pos _ s2 σ H1 _ I2 (bind_at bE R e k (P := fun vs H1 => spO X.K (n + 1) G (.ref (He.ga X.K C) :: vs) H1 Q (WE W σ)) fun vs H1 ρ1 Hf1 s1 ds t1 r1 R1 e1 k1 => ?_)) fun us s3 ⟨vs, H2, I3, rv, q2⟩ => ⟨⟨ClX.pin_at I3, I3.kIn⟩, ?_⟩) hst hpl
  · obtain ⟨hn, e1⟩ := ite_some e1
    exact spO_E R1.ok (.cons .cls r1) (by rw [List.length_cons, hn]) e1 k1
  · exact run_calM h3 (hr.mono hjk) (L2N.passAt tk σ) I3 rv q2
/-- what is called is a class that a variable holds -/
abbrev TabM := List (Str × Fn)
def MkT (P : Program) (w : World) (K : PySem.W.Frag) (mg : Str → Option Value) (base : Heap) (k n : Nat) (T : TabM) : Prop := ∀ p ∈ T, Mkr P w K mg base k p.1 n p.2
theorem mkT_nil {P : Program} {w : World} {K : PySem.W.Frag} {mg : Str → Option Value} {base : Heap} : MkT P w K mg base k n [] := fun _ h => by cases h
theorem mkT_cons {P : Program} {w : World} {K : PySem.W.Frag} {mg : Str → Option Value} {base : Heap} {T : TabM} {c : Str} (h : Mkr P w K mg base k c n G) (t : MkT P w K mg base k n T) : MkT P w K mg base k n ((c, G) :: T) := fun p hp => by
  rcases List.mem_cons.mp hp with e | hp
  · rw [e]; exact h
  · exact t p hp
def eMakeV (T : TabM) (i n : Nat) (r : F (List D)) : F D := fun env st => match env[i]? with
  | some (some (.val (.cls c))) => (T.lookup c).bind fun G => eMake G c n r env st
  | _ => none
theorem x_makeV {T : TabM} {i : Nat} (M : MkT X.prog X.w X.K X.mg X.base j n T) (hr : Room k X.A) (tk : L2N.Takes X W) (ha : PA X (e :: es) (tA X.K W r)) (hN : X.N[i]? = some x := by rfl) (hv : Vis X.env.scope x := by first | exact Or.inl rfl | exact Or.inr (Or.inl rfl) | exact Or.inr (Or.inr rfl)) (hjk : j + 1 ≤ k := by decide)
    (hd : (x == ("__debug__" : Str)) = false := by decide) (hcd : (x == ("__classdict__" : Str)) = false := by decide) (he : starEach (e :: es) X.env = (false, eval e X.env) :: starEach es X.env := by rfl) (hpl : (backTo pos (starEach es X.env)).any (·.1) = false := by rfl) :
    PE X (.Call (.Name x p) (e :: es) [] pos) (tE X.K W (eMakeV T i n r)) := by
  refine ⟨fun pins s σ H Q I ⟨Z, ρ, Hf, env, st, o, R, e, k⟩ => ?_⟩
  unfold eMakeV at e
  split at e
  · rename_i c q
    obtain ⟨G, hG, e⟩ := obind e
    have MM := M _ (lookup_mem hG)
    obtain ⟨f, hM, hF⟩ := MM.ex
    obtain ⟨v, h1, h2⟩ := R.sl i _ q
    cases h2
    refine wpAny_Call_Name_kw (thn ((pe_var hN hv hd hcd).run pins s σ H (fun x H1 => x = .ref (He.ga X.K c) ∧ H1 = H) I ⟨_, h1, rfl, rfl⟩) fun u s1 ⟨x, H1, I1, rx, ex, eH⟩ => ?_)
    subst ex eH
    obtain rfl : u = Value.ref (He.ga X.K c) := rx
    refine PySem.W.callWith_K (h₀ := X.base) I1.ok.mod.kin hM.kp (thn (ha.run pos pins s1 σ H1 _ I1 (bind_at bE R e k (P := fun vs H1 => ∀ x dx, H1 x = none → H1 dx = none → dx ≠ x → spO X.K (n + 1) G (.ref x :: vs) (upd (upd H1 dx (.own x)) x (.ins (He.ga X.K c) dx [])) (fun v H2 => v = .non ∧ Q (.ref x) H2) (WE W σ)) fun vs H1 ρ1 Hf1 s1 ds t1 r1 R1 e1 k1 => ?_)) fun us s1 ⟨vs, H1, I1, rv, q⟩ => ⟨I1.kIn, ?_⟩) he hpl
    · obtain ⟨hn, e1⟩ := ite_some e1
      exact spO_M R1.ok r1 hn e1 k1
    · exact run_mk hM hF (hr.mono hjk) (L2N.passAt tk σ) I1 rv q
  · cases e
/-- x(*y), x a variable that holds the class c -/
def eMakeVS (c : Str) (G : Fn) (i : Nat) (f : F D) : F D := fun env st => match env[i]? with
  | some (some (.val (.cls c'))) => if c' = c then bnd f (fun d _ st => d.seq?.bind fun ds => made G c ds st) env st else none
  | _ => none
theorem x_makeVS {c : Str} {i : Nat} {sp_ : Pos} (M : ∀ n, Mkr X.prog X.w X.K X.mg X.base j c n G) (hr : Room k X.A) (tk : L2N.Takes X W) (ha : PE X e (tE X.K W f)) (hN : X.N[i]? = some x := by rfl) (hv : Vis X.env.scope x := by first | exact Or.inl rfl | exact Or.inr (Or.inl rfl) | exact Or.inr (Or.inr rfl)) (hjk : j + 1 ≤ k := by decide)
    (hd : (x == ("__debug__" : Str)) = false := by decide) (hcd : (x == ("__classdict__" : Str)) = false := by decide) (hst : starEach [.Starred e sp_] X.env = [(true, eval e X.env)] := by rfl) :
    PE X (.Call (.Name x p) [.Starred e sp_] [] pos) (tE X.K W (eMakeVS c G i f)) := by
  refine ⟨fun pins s σ H Q I ⟨Z, ρ, Hf, env, st, o, R, e, k⟩ => ?_⟩
  unfold eMakeVS at e
  split at e
  · rename_i c' q
    obtain ⟨rfl, e⟩ := ite_some e
    obtain ⟨v, h1, h2⟩ := R.sl i _ q
    cases h2
    refine wpAny_Call_Name_kw (thn ((pe_var hN hv hd hcd).run pins s σ H (fun x H1 => x = .ref (He.ga X.K c') ∧ H1 = H) I ⟨_, h1, rfl, rfl⟩) fun u s1 ⟨x, H1, I1, rx, ex, eH⟩ => ?_)
    subst ex eH
    obtain rfl : u = Value.ref (He.ga X.K c') := rx
    obtain ⟨_, hM0, _⟩ := (M 0).ex
    refine PySem.W.callWith_S (h₀ := X.base) I1.ok.mod.kin hM0.kp (thn (ha.run pins s1 σ H1 _ I1 (bind_at bE R e k (P := fun y H1 => ∃ a xs, y = V.ref a ∧ (SqT X.K H1 a xs ∨ SqL X.K H1 a xs) ∧ ∃ n, ∀ x dx, H1 x = none → H1 dx = none → dx ≠ x → spO X.K (n + 1) G (.ref x :: xs) (upd (upd H1 dx (.own x)) x (.ins (He.ga X.K c') dx [])) (fun v H2 => v = .non ∧ Q (.ref x) H2) (WE W σ)) fun y H1 ρ1 Hf1 s1 d t1 r1 R1 e1 k1 => ?_)) fun v s2 ⟨y, H2, I2, ry, a, xs, ey, hxs, n, q⟩ => ?_) hst
    · obtain ⟨ds, hds, e1⟩ := obind e1
      obtain ⟨a, xs, rfl, hq, hdq⟩ := Dq.seq_of r1 hds
      refine ⟨a, xs, rfl, (sq_up R1.ok.i hq).symm, ds.length, ?_⟩
      exact spO_M R1.ok hdq rfl e1 k1
    · subst ey
      obtain rfl : v = Value.ref a := ry
      obtain ⟨f, hM, hF⟩ := (M n).ex
      exact StX.star_any I2 hxs fun us s3 I3 rv => ⟨I3.kIn, run_mk hM hF (hr.mono hjk) (L2N.passAt tk σ) I3 rv q⟩
  · cases e
end
def cmB (K : PySem.W.Frag) (C m : Str) : Bool := readB K (He.ga K C) (mcOf K (He.ga K C)) && ((match PySem.W.findCls K (.ref (He.ga K C)) (mcOf K (He.ga K C)) m with
  | some (.get (.builtin g) (.ref p) .none (.ref C')) => decide (g = "classmethod.__get__") && (decide (p = He.ma K (He.ga K C) m) && decide (C' = He.ga K C))
  | _ => false) && (isRefs (PySem.W.recIn K (He.ma K (He.ga K C) m) "classmethod") && PySem.W.fnIn K (Lo.ad K (.k C m))))
theorem cmt_of {P : Program} {w : World} {K : PySem.W.Frag} {mg : Str → Option Value} {base : Heap} {C m : Str} {j k n : Nat} {G : Fn} (h : cmB K C m = true) (g : mg C = some (.ref (He.ga K C))) (F : Cal P w K mg base j (Lo.ad K (.k C m)) (spO K (n + 1) G)) (hk : j ≤ k := by decide) : CMt P w K mg base k C m n G := by
  obtain ⟨h1, h⟩ := He.ba h
  obtain ⟨h2, h⟩ := He.ba h
  obtain ⟨h3, h4⟩ := He.ba h
  obtain ⟨rest, h5⟩ := isRefs_ok h3
  refine ⟨g, mcOf K (He.ga K C), He.ma K (He.ga K C) m, _, read_of h1, ⟨?_, ⟨rest, h5⟩, h4⟩, F.mono hk⟩
  split at h2
  · rename_i g p C' q
    obtain ⟨a1, a2⟩ := He.ba h2
    obtain ⟨a3, a4⟩ := He.ba a2
    rw [q, of_decide_eq_true a1, of_decide_eq_true a3, of_decide_eq_true a4]
  · cases h2
end Ob
namespace Fi
open PySem PySem.Spec PyProof.Rows L2
def fCount : PyData → PyData → Option PyData
  | .str a, .str b => some (.int (Txt.count a b))
  | _, _ => none
def fSplit : PyData → PyData → Option (List PyData)
  | .str a, .str b => if (b.length == 0) = false ∧ a.length + 2 ≤ sizeLine then some ((Txt.split a b).map .str) else none
  | _, _ => none
def lSplit (f g : FE) : FL := fun env => (f env).bind fun x => (g env).bind fun y => fSplit x y
section
variable {X : Cx} {o e : Expr} {f g : FE} {apos pos : Pos}
theorem strs_dp {K : PySem.W.Frag} {H : Hp} : ∀ zs : List Str, DpAll K H (zs.map V.str) (zs.map .str)
  | [] => .nil
  | z :: zs => .cons (.str z) (strs_dp zs)
theorem x_count (ho : PE X o (tE X.K f)) (he : PE X e (tE X.K g)) (hs : starEach [e] X.env = [(false, eval e X.env)] := by rfl) (hbase : attributeBase o "count" X.env (eval o X.env) = eval o X.env := by rfl) (hline : (apos.endLine == pos.line) = true := by rfl) :
    PE X (.Call (.Attribute o "count" apos) [e] [] pos) (tE X.K (e2 fCount f g)) := pe_le (pe_m1 F.slot_str_count F.type_str_count mt_count ho he hs hbase hline) fun σ H Q ⟨Z, Hf, env, d, R, hf, k⟩ => by
  obtain ⟨x, hx, hf⟩ := Option_bind_some hf
  obtain ⟨y, hy, hf⟩ := Option_bind_some hf
  unfold fCount at hf
  split at hf
  · cases hf
    exact ⟨Z, Hf, env, _, R, hx, fun v H1 Hf1 s1 d1 => ⟨⟨_, d1.str_eq⟩, Z, Hf1, env, _, R.step s1, hy, fun u H2 Hf2 s2 d2 => ⟨_, _, d1.str_eq, by rw [d2.str_eq], k _ H2 Hf2 (s1.trans s2) (.int _)⟩⟩⟩
  · cases hf
theorem l_split (ho : PE X o (tE X.K f)) (he : PE X e (tE X.K g)) (hs : starEach [e] X.env = [(false, eval e X.env)] := by rfl) (hbase : attributeBase o "split" X.env (eval o X.env) = eval o X.env := by rfl) (hline : (apos.endLine == pos.line) = true := by rfl) :
    PE X (.Call (.Attribute o "split" apos) [e] [] pos) (tL X.K (lSplit f g)) := pe_le (pe_m1 F.slot_str_split F.type_str_split mt_split ho he hs hbase hline) fun σ H Q ⟨Z, Hf, env, d, R, hf, k⟩ => by
  obtain ⟨x, hx, hf⟩ := Option_bind_some hf
  obtain ⟨y, hy, hf⟩ := Option_bind_some hf
  unfold fSplit at hf
  split at hf
  · rename_i a b
    split at hf
    · rename_i hc
      cases hf
      refine ⟨Z, Hf, env, _, R, hx, fun v H1 Hf1 s1 d1 => ⟨⟨_, d1.str_eq⟩, Z, Hf1, env, _, R.step s1, hy, fun u H2 Hf2 s2 d2 => ⟨_, _, d1.str_eq, by rw [d2.str_eq], hc.1, hc.2, fun p hp => ?_⟩⟩⟩
      have s12 := s1.trans s2
      exact k p _ _ _ (s12.trans (Stp.hid s2.i hp)) (s12.h.free hp) (s2.i.free hp) upd_same (strs_dp _)
    · cases hf
  · cases hf
def fIntT : List PyData → Option PyData
  | [.str a] => if a.length ≤ 640 then (PySem.intText? a).map .int else none
  | _ => none
theorem cd_intT : CallD X (.type "int") fIntT := by
  intro pins s σ H vs us Q I r ⟨Hf, ds, d, hi, hd, hF, k⟩
  unfold fIntT at hF
  split at hF
  · rename_i a
    split at hF
    · rename_i hl
      obtain ⟨n, hn, rfl⟩ := Option.map_eq_some_iff.mp hF
      obtain ⟨v, rfl, hv⟩ := hd.one
      exact call_int_str pins s σ H _ us Q I r ⟨a, n, by rw [hv.str_eq], hn, hl, k _ H Hf (.refl hi) (.int n)⟩
    · cases hF
  · cases hF
end
end Fi

namespace Ob
open PySem PySem.Spec PyProof.Rows L2 Fi
def prsD : List PyData → Option (List (Str × PyData))
  | [] => some []
  | .tuple [.str k, v] :: l => (prsD l).map ((k, v) :: ·)
  | _ => none
def eDict (f : F D) : F D := bnd f fun d _ st => match d with
  | .py (.list l) => (prsD l).bind fun kvs => if (kvs.map (·.1)).Nodup then some (.ok (.obj st.length) (st ++ [.dct (kvs.map fun p => (p.1, D.py p.2))])) else none
  | _ => none
theorem prs_ok {K : PySem.W.Frag} {H : Hp} : ∀ {vs : List V} {l : List PyData} {kvs : List (Str × PyData)}, DpAll K H vs l → prsD l = some kvs →
    ∃ (ps : List Addr) (ks : List (Key × V)), vs = ps.map V.ref ∧ Paired (fun p kv => SqT K H p [kV kv.1, kv.2]) ps ks ∧ Paired (fun p q => p.1 = Sum.inr q.1 ∧ Dp K H p.2 q.2) ks kvs
  | _, [], _, .nil, e => by
    cases e
    exact ⟨[], [], rfl, .nil, .nil⟩
  | v :: vs, d :: l, kvs, .cons h hs, e => by
    unfold prsD at e
    split at e
    · rename_i hq
      cases hq
    · rename_i k w l' hq
      cases hq
      obtain ⟨r, hr, rfl⟩ := Option.map_eq_some_iff.mp e
      obtain ⟨ps, ks, rfl, h1, h2⟩ := prs_ok hs hr
      obtain ⟨q, xs, rfl, hq, hd⟩ := h.tup_of
      cases hd with
      | cons a b =>
        cases b with
        | cons b c =>
          cases c
          rename_i v1 v2
          have ea : v1 = V.str k := a.str_eq
          subst ea
          exact ⟨q :: ps, (Sum.inr k, v2) :: ks, rfl, .cons hq h1, .cons ⟨rfl, b⟩ h2⟩
    · cases e
theorem merge_nd : ∀ (ks acc : List (Key × V)), ((acc ++ ks).map (·.1)).Nodup → mergeK acc ks = acc ++ ks
  | [], acc, _ => by rw [List.append_nil]; rfl
  | kv :: ks, acc, h => by
    have hk : (acc.any fun x => decide (x.1 = kv.1)) = false := by
      rw [Bool.eq_false_iff]
      intro z
      obtain ⟨x, hx, e⟩ := List.any_eq_true.mp z
      rw [List.map_append, List.nodup_append] at h
      exact h.2.2 x.1 (List.mem_map.mpr ⟨x, hx, rfl⟩) kv.1 (by simp) (of_decide_eq_true e)
    have e1 : putK acc kv.1 kv.2 = acc ++ [kv] := by
      unfold putK
      rw [hk, if_neg Bool.false_ne_true]
    show mergeK (putK acc kv.1 kv.2) ks = _
    rw [e1, merge_nd ks (acc ++ [kv]) (by simpa using h)]
    simp
theorem keys_eq {R : V → PyData → Prop} : ∀ {ks : List (Key × V)} {kvs : List (Str × PyData)}, Paired (fun p q => p.1 = Sum.inr q.1 ∧ R p.2 q.2) ks kvs → ks.map (·.1) = (kvs.map (·.1)).map Sum.inr
  | _, _, .nil => rfl
  | _, _, .cons h t => by rw [List.map_cons, List.map_cons, List.map_cons, h.1, keys_eq t]
theorem ksOk_of {K : PySem.W.Frag} {H Hf : Hp} {ρ : List Addr} (i : Same H Hf) : ∀ {ks : List (Key × V)} {kvs : List (Str × PyData)}, Paired (fun p q => p.1 = Sum.inr q.1 ∧ Dp K H p.2 q.2) ks kvs → KsOk K Hf ρ ks (kvs.map fun p => (p.1, D.py p.2))
  | _, _, .nil => .nil
  | _, _, .cons h t => .cons ⟨h.1, .py (Dp_up i h.2)⟩ (ksOk_of i t)
theorem nodup_map {α β : Type} {f : α → β} (hf : ∀ a b, f a = f b → a = b) : ∀ {l : List α}, l.Nodup → (l.map f).Nodup
  | [], _ => List.nodup_nil
  | a :: l, h => by
    rw [List.nodup_cons] at h
    rw [List.map_cons, List.nodup_cons]
    refine ⟨fun z => ?_, nodup_map hf h.2⟩
    obtain ⟨b, hb, e⟩ := List.mem_map.mp z
    rw [hf _ _ e] at hb
    exact h.1 hb
section
variable {X : Cx} {W : WX} {e o : Expr} {f g : F D} {p pos : Pos}
theorem x_dict (hc : X.calm = true) (hg : Gl X "dict") (hm : X.mg "dict" = none) (he : PE X e (tE X.K W f)) (hs : starEach [e] X.env = (false, eval e X.env) :: starEach [] X.env := by rfl) (hpl : (backTo pos (starEach [] X.env)).any (·.1) = false := by rfl) :
    PE X (.Call (.Name "dict" p) [e] [] pos) (tE X.K W (eDict f)) := pe_le (pe_callTy (call_dictP hc) hg hm (by decide +kernel) (pa_cons he pa_nil hs) (by decide) (by decide) hs hpl) fun σ H Q ⟨Z, ρ, Hf, env, st, o, R, e, k⟩ => by
  refine bind_at bE R e k fun x H1 ρ1 Hf1 s1 d t1 r1 R1 e1 k1 => ?_
  split at e1
  · rename_i l
    obtain ⟨kvs, h1, e1⟩ := obind e1
    obtain ⟨hn, e1⟩ := ite_some e1
    cases e1
    obtain ⟨a, xs, rfl, hq, hd⟩ := (Dq.dp r1).lst_of
    obtain ⟨ps, ks, rfl, h2, h3⟩ := prs_ok hd h1
    have hk : mergeK [] ks = ks := by
      have := merge_nd ks [] (by rw [List.nil_append, keys_eq h3]; exact nodup_map (fun _ _ e => Sum.inr.inj e) hn)
      rwa [List.nil_append] at this
    have up : ∀ {ps : List Addr} {ks : List (Key × V)}, Paired (fun p kv => SqT X.K Hf1 p [kV kv.1, kv.2]) ps ks → Paired (fun p kv => SqT X.K H1 p [kV kv.1, kv.2]) ps ks := fun h => by
      induction h with
      | nil => exact .nil
      | cons h t ih => exact .cons (sqT_up R1.ok.i h) ih
    refine ⟨a, ps, ks, rfl, R1.ok.i.seq hq, up h2, fun q hq => ?_⟩
    rw [hk]
    exact k1 (.ref q) _ (ρ1 ++ [q]) Hf1 (.push R1.ok.i hq (same_new hq)) (R1.ok.push hq (fun b u e => same_new hq b u (R1.ok.i b u e)) (same_new hq) ⟨ks, upd_same, ksOk_of (Same.refl _) h3⟩) (.obj (by rw [← R1.ok.len, List.getElem?_append_right (Nat.le_refl _), Nat.sub_self]; rfl))
  · cases e1
def eDGet (f g : F D) : F D := bnd f fun x => bnd g fun y _ st => match x, y with
  | .obj n, .py (.str k) => (match st[n]? with
    | some (.dct ks) => (ks.lookup k).map fun d => .ok d st
    | _ => none)
  | _, _ => none
theorem ks_get {K : PySem.W.Frag} {Hf : Hp} {ρ : List Addr} {k : Str} {d : D} : ∀ {vs : List (Key × V)} {ks : List (Str × D)}, KsOk K Hf ρ vs ks → ks.lookup k = some d → ∃ v, valV vs (Sum.inr k) = some v ∧ Dq K Hf ρ v d
  | _, _, .nil, e => by cases e
  | p :: vs, q :: ks, .cons h t, e => by
    rw [List.lookup_cons] at e
    by_cases hk : q.1 = k
    · have : (k == q.1) = true := by simp [hk]
      rw [this] at e
      cases e
      exact ⟨p.2, valV_pos (by rw [h.1, hk]), h.2⟩
    · have : (k == q.1) = false := by
        rw [beq_eq_false_iff_ne]
        exact Ne.symm hk
      rw [this] at e
      obtain ⟨v, h1, h2⟩ := ks_get t e
      exact ⟨v, by rw [valV_neg (by rw [h.1]; exact fun z => hk (Sum.inr.inj z))]; exact h1, h2⟩
theorem x_dget (hu : X.A.units + 1 < cLine) (ho : PE X o (tE X.K W f)) (hi : PE X e (tE X.K W g)) (hs : NoSl e) : PE X (.Subscript o e pos) (tE X.K W (eDGet f g)) := pe_le (pe_dget hu ho hi hs) fun σ H Q ⟨Z, ρ, Hf, env, st, o, R, e, k⟩ => by
  refine bind_at bE R e k fun x H1 ρ1 Hf1 s1 d t1 r1 R1 e1 k1 => ?_
  refine bind_at bE R1 e1 k1 fun y H2 ρ2 Hf2 s2 dy t2 r2 R2 e2 k2 => ?_
  split at e2
  · rename_i n kk
    split at e2
    · rename_i ks hst
      obtain ⟨dv, hl, rfl⟩ := map_ok e2
      cases Dq.up t2.up r1 with
      | obj ha =>
        obtain ⟨vs, h1, h2⟩ := R2.ok.ob n _ _ ha hst
        obtain ⟨v, h3, h4⟩ := ks_get h2 hl
        have ey : y = V.str kk := (Dq.dp r2).str_eq
        subst ey
        exact ⟨_, v, rfl, by rw [← h3]; exact DGet.k (k := Sum.inr kk) h1, k2.now R2 h4⟩
    · cases e2
  · cases e2
end
end Ob
namespace Fi
open PySem PySem.Spec PyProof.Rows L2
/-- s[i] of a text -/
def fIxS : PyData → PyData → Option PyData
  | .str z, .int i => if 0 ≤ i ∧ i < z.length ∧ i < 2 ^ 63 then z.cps[i.toNat]?.map fun c => .str ⟨#[c]⟩ else none
  | _, _ => none
theorem x_ixS {X : Cx} {a b : Expr} {f g : FE} {pos : Pos} (ha : PE X a (tE X.K f)) (hb : PE X b (tE X.K g)) (hs : PlainIxT b) : PE X (.Subscript a b pos) (tE X.K (e2 fIxS f g)) := pe_le (pe_item_str ha hb hs) fun σ H Q ⟨Z, Hf, env, d, R, hf, k⟩ => by
  obtain ⟨x, hx, hf⟩ := Option_bind_some hf
  obtain ⟨y, hy, hf⟩ := Option_bind_some hf
  unfold fIxS at hf
  split at hf
  · skip
    split at hf
    · rename_i hc
      obtain ⟨c, h1, rfl⟩ := Option.map_eq_some_iff.mp hf
      exact ⟨Z, Hf, env, _, R, hx, fun v H1 Hf1 s1 d1 => ⟨Z, Hf1, env, _, R.step s1, hy, fun u H2 Hf2 s2 d2 => ⟨_, _, c, d1.str_eq, d2.int_eq, hc.1, hc.2.2, hc.2.1, h1, k _ H2 Hf2 (s1.trans s2) (.str _)⟩⟩⟩
    · cases hf
  · cases hf
end Fi

namespace Lw
open PySem PySem.Spec PyProof.Rows L2 Fi
abbrev PW : Program := PySem.Challenge.pw_fillorder_k11_whole_moved_envelopes
def top (i : Nat) : Stmt := PW.main.body.getD i (.Pass ⟨0, 0, 0, 0⟩)
def file : Str := "/claim/cut.py"
abbrev s__law_told : Stmt := top 27
abbrev N__law_told : List Str := ["call", "e"]
theorem sc__law_told : FnScope N__law_told ["call"] (defScope s__law_told) := ⟨rfl, rfl, rfl, by decide +kernel, rfl, by decide +kernel, by decide +kernel⟩
abbrev s__law_error : Stmt := top 26
abbrev N__law_error : List Str := ["e", "classes", "words", "word", "good"]
theorem sc__law_error : FnScope N__law_error ["e"] (defScope s__law_error) := ⟨rfl, rfl, rfl, by decide +kernel, rfl, by decide +kernel, by decide +kernel⟩
abbrev s__law_cell : Stmt := top 24
abbrev N__law_cell : List Str := ["script", "index"]
theorem sc__law_cell : FnScope N__law_cell ["script", "index"] (defScope s__law_cell) := ⟨rfl, rfl, rfl, by decide +kernel, rfl, by decide +kernel, by decide +kernel⟩
abbrev s__law_names : Stmt := top 29
abbrev N__law_names : List Str := []
theorem sc__law_names : FnScope N__law_names [] (defScope s__law_names) := ⟨rfl, rfl, rfl, by decide +kernel, rfl, by decide +kernel, by decide +kernel⟩
abbrev s_Envelope_name : Stmt := Ob.member (top 20) 4
abbrev N_Envelope_name : List Str := ["self"]
theorem sc_Envelope_name : FnScope N_Envelope_name ["self"] (defScope s_Envelope_name) := ⟨rfl, rfl, rfl, by decide +kernel, rfl, by decide +kernel, by decide +kernel⟩
abbrev s_Envelope_is_name : Stmt := Ob.member (top 20) 2
abbrev N_Envelope_is_name : List Str := ["value", "sign"]
theorem sc_Envelope_is_name : FnScope N_Envelope_is_name ["value"] (defScope s_Envelope_is_name) := ⟨rfl, rfl, rfl, by decide +kernel, rfl, by decide +kernel, by decide +kernel⟩
abbrev s_is_integer : Stmt := top 17
abbrev N_is_integer : List Str := ["value", "low", "high"]
theorem sc_is_integer : FnScope N_is_integer ["value", "low", "high"] (defScope s_is_integer) := ⟨rfl, rfl, rfl, by decide +kernel, rfl, by decide +kernel, by decide +kernel⟩
abbrev s_Envelope_level : Stmt := Ob.member (top 20) 5
abbrev N_Envelope_level : List Str := ["self"]
theorem sc_Envelope_level : FnScope N_Envelope_level ["self"] (defScope s_Envelope_level) := ⟨rfl, rfl, rfl, by decide +kernel, rfl, by decide +kernel, by decide +kernel⟩
abbrev s_Envelope_free : Stmt := Ob.member (top 20) 11
abbrev N_Envelope_free : List Str := ["self"]
theorem sc_Envelope_free : FnScope N_Envelope_free ["self"] (defScope s_Envelope_free) := ⟨rfl, rfl, rfl, by decide +kernel, rfl, by decide +kernel, by decide +kernel⟩
abbrev s_Plan_lost : Stmt := Ob.member (top 22) 7
abbrev N_Plan_lost : List Str := ["self"]
theorem sc_Plan_lost : FnScope N_Plan_lost ["self"] (defScope s_Plan_lost) := ⟨rfl, rfl, rfl, by decide +kernel, rfl, by decide +kernel, by decide +kernel⟩
abbrev s_is_number_text : Stmt := top 18
abbrev N_is_number_text : List Str := ["text", "sign"]
theorem sc_is_number_text : FnScope N_is_number_text ["text"] (defScope s_is_number_text) := ⟨rfl, rfl, rfl, by decide +kernel, rfl, by decide +kernel, by decide +kernel⟩
abbrev s__law_digits : Stmt := top 25
abbrev N__law_digits : List Str := ["script", "index", "count", "base", "primes", "cell", "rest", "digits", "k", "mixed"]
theorem sc__law_digits : FnScope N__law_digits ["script", "index", "count", "base"] (defScope s__law_digits) := ⟨rfl, rfl, rfl, by decide +kernel, rfl, by decide +kernel, by decide +kernel⟩
abbrev s_Envelope___init__ : Stmt := Ob.member (top 20) 1
abbrev N_Envelope___init__ : List Str := ["self", "name", "cap", "level"]
theorem sc_Envelope___init__ : FnScope N_Envelope___init__ ["self", "name", "cap", "level"] (defScope s_Envelope___init__) := ⟨rfl, rfl, rfl, by decide +kernel, rfl, by decide +kernel, by decide +kernel⟩
abbrev s_check_amount : Stmt := top 19
abbrev N_check_amount : List Str := ["amount"]
theorem sc_check_amount : FnScope N_check_amount ["amount"] (defScope s_check_amount) := ⟨rfl, rfl, rfl, by decide +kernel, rfl, by decide +kernel, by decide +kernel⟩
abbrev s_Plan___init__ : Stmt := Ob.member (top 22) 1
abbrev N_Plan___init__ : List Str := ["self", "envelopes", "names", "one"]
theorem sc_Plan___init__ : FnScope N_Plan___init__ ["self", "envelopes"] (defScope s_Plan___init__) := ⟨rfl, rfl, rfl, by decide +kernel, rfl, by decide +kernel, by decide +kernel⟩
abbrev s_Plan_names : Stmt := Ob.member (top 22) 3
abbrev N_Plan_names : List Str := ["self", "one"]
theorem sc_Plan_names : FnScope N_Plan_names ["self"] (defScope s_Plan_names) := ⟨rfl, rfl, rfl, by decide +kernel, rfl, by decide +kernel, by decide +kernel⟩
abbrev s_Plan_envelope : Stmt := Ob.member (top 22) 8
abbrev N_Plan_envelope : List Str := ["self", "name", "one"]
theorem sc_Plan_envelope : FnScope N_Plan_envelope ["self", "name"] (defScope s_Plan_envelope) := ⟨rfl, rfl, rfl, by decide +kernel, rfl, by decide +kernel, by decide +kernel⟩
abbrev s_Plan_levels : Stmt := Ob.member (top 22) 4
abbrev N_Plan_levels : List Str := ["self", "one"]
theorem sc_Plan_levels : FnScope N_Plan_levels ["self"] (defScope s_Plan_levels) := ⟨rfl, rfl, rfl, by decide +kernel, rfl, by decide +kernel, by decide +kernel⟩
abbrev s_Envelope_put : Stmt := Ob.member (top 20) 12
abbrev N_Envelope_put : List Str := ["self", "amount", "taken"]
theorem sc_Envelope_put : FnScope N_Envelope_put ["self", "amount"] (defScope s_Envelope_put) := ⟨rfl, rfl, rfl, by decide +kernel, rfl, by decide +kernel, by decide +kernel⟩
abbrev s_Envelope_take : Stmt := Ob.member (top 20) 13
abbrev N_Envelope_take : List Str := ["self", "amount"]
theorem sc_Envelope_take : FnScope N_Envelope_take ["self", "amount"] (defScope s_Envelope_take) := ⟨rfl, rfl, rfl, by decide +kernel, rfl, by decide +kernel, by decide +kernel⟩
abbrev s_Plan_total : Stmt := Ob.member (top 22) 5
abbrev N_Plan_total : List Str := ["self", "one"]
theorem sc_Plan_total : FnScope N_Plan_total ["self"] (defScope s_Plan_total) := ⟨rfl, rfl, rfl, by decide +kernel, rfl, by decide +kernel, by decide +kernel⟩
abbrev s_Plan_move : Stmt := Ob.member (top 22) 12
abbrev N_Plan_move : List Str := ["self", "name", "place", "one", "rest", "other"]
theorem sc_Plan_move : FnScope N_Plan_move ["self", "name", "place"] (defScope s_Plan_move) := ⟨rfl, rfl, rfl, by decide +kernel, rfl, by decide +kernel, by decide +kernel⟩
abbrev s_Plan_pour : Stmt := Ob.member (top 22) 9
abbrev N_Plan_pour : List Str := ["self", "amounts", "amount", "before", "one"]
theorem sc_Plan_pour : FnScope N_Plan_pour ["self", "amounts"] (defScope s_Plan_pour) := ⟨rfl, rfl, rfl, by decide +kernel, rfl, by decide +kernel, by decide +kernel⟩
abbrev s_Envelope_read : Stmt := Ob.member (top 20) 3
abbrev N_Envelope_read : List Str := ["cls", "text", "parts", "name", "numbers", "cap", "level", "part"]
theorem sc_Envelope_read : FnScope N_Envelope_read ["cls", "text"] (defScope s_Envelope_read) := ⟨rfl, rfl, rfl, by decide +kernel, rfl, by decide +kernel, by decide +kernel⟩
abbrev s__law_plan : Stmt := top 28
abbrev N__law_plan : List Str := ["some"]
theorem sc__law_plan : FnScope N__law_plan ["some"] (defScope s__law_plan) := ⟨rfl, rfl, rfl, by decide +kernel, rfl, by decide +kernel, by decide +kernel⟩
abbrev s_Plan_read : Stmt := Ob.member (top 22) 2
abbrev N_Plan_read : List Str := ["cls", "text", "envelopes", "names", "part", "one"]
theorem sc_Plan_read : FnScope N_Plan_read ["cls", "text"] (defScope s_Plan_read) := ⟨rfl, rfl, rfl, by decide +kernel, rfl, by decide +kernel, by decide +kernel⟩
abbrev s__law_exchanged_alike : Stmt := top 30
abbrev N__law_exchanged_alike : List Str := ["digits", "names", "rows", "at", "one", "other", "k", "name", "digit", "cap", "level"]
theorem sc__law_exchanged_alike : FnScope N__law_exchanged_alike ["digits", "names", "rows"] (defScope s__law_exchanged_alike) := ⟨rfl, rfl, rfl, by decide +kernel, rfl, by decide +kernel, by decide +kernel⟩
abbrev s_law : Stmt := top 31
abbrev N_law : List Str := ["script", "index", "plan", "digits", "names", "rows", "k", "name", "cap", "place", "rest", "before", "odd", "one", "level"]
theorem sc_law : FnScope N_law ["script"] (defScope s_law) := ⟨rfl, rfl, rfl, by decide +kernel, rfl, by decide +kernel, by decide +kernel⟩
def dd__law_told : Ob.Df := ⟨.g "_law_told", "_law_told", "_law_told", s__law_told, [], [], none⟩
def dd__law_error : Ob.Df := ⟨.g "_law_error", "_law_error", "_law_error", s__law_error, [], [], none⟩
def dd__law_cell : Ob.Df := ⟨.g "_law_cell", "_law_cell", "_law_cell", s__law_cell, [], [], none⟩
def dd__law_names : Ob.Df := ⟨.g "_law_names", "_law_names", "_law_names", s__law_names, [], [], none⟩
def dd_Envelope_name : Ob.Df := ⟨.p "Envelope" "name", "name", "Envelope.name", s_Envelope_name, [], [], none⟩
def dd_Envelope_is_name : Ob.Df := ⟨.s "Envelope" "is_name", "is_name", "Envelope.is_name", s_Envelope_is_name, [], [], none⟩
def dd_is_integer : Ob.Df := ⟨.g "is_integer", "is_integer", "is_integer", s_is_integer, [], [], none⟩
def dd_Envelope_level : Ob.Df := ⟨.p "Envelope" "level", "level", "Envelope.level", s_Envelope_level, [], [], none⟩
def dd_Envelope_free : Ob.Df := ⟨.m "Envelope" "free", "free", "Envelope.free", s_Envelope_free, [], [], none⟩
def dd_Plan_lost : Ob.Df := ⟨.p "Plan" "lost", "lost", "Plan.lost", s_Plan_lost, [], [], none⟩
def dd_is_number_text : Ob.Df := ⟨.g "is_number_text", "is_number_text", "is_number_text", s_is_number_text, [], [], none⟩
def dd__law_digits : Ob.Df := ⟨.g "_law_digits", "_law_digits", "_law_digits", s__law_digits, [], [], none⟩
def dd_Envelope___init__ : Ob.Df := ⟨.m "Envelope" "__init__", "__init__", "Envelope.__init__", s_Envelope___init__, [.int 0], [], none⟩
def dd_check_amount : Ob.Df := ⟨.g "check_amount", "check_amount", "check_amount", s_check_amount, [], [], none⟩
def dd_Plan___init__ : Ob.Df := ⟨.m "Plan" "__init__", "__init__", "Plan.__init__", s_Plan___init__, [], [], none⟩
def dd_Plan_names : Ob.Df := ⟨.p "Plan" "names", "names", "Plan.names", s_Plan_names, [], [], none⟩
def dd_Plan_envelope : Ob.Df := ⟨.m "Plan" "envelope", "envelope", "Plan.envelope", s_Plan_envelope, [], [], none⟩
def dd_Plan_levels : Ob.Df := ⟨.p "Plan" "levels", "levels", "Plan.levels", s_Plan_levels, [], [], none⟩
def dd_Envelope_put : Ob.Df := ⟨.m "Envelope" "put", "put", "Envelope.put", s_Envelope_put, [], [], none⟩
def dd_Envelope_take : Ob.Df := ⟨.m "Envelope" "take", "take", "Envelope.take", s_Envelope_take, [], [], none⟩
def dd_Plan_total : Ob.Df := ⟨.p "Plan" "total", "total", "Plan.total", s_Plan_total, [], [], none⟩
def dd_Plan_move : Ob.Df := ⟨.m "Plan" "move", "move", "Plan.move", s_Plan_move, [], [], none⟩
def dd_Plan_pour : Ob.Df := ⟨.m "Plan" "pour", "pour", "Plan.pour", s_Plan_pour, [], [], none⟩
def dd_Envelope_read : Ob.Df := ⟨.k "Envelope" "read", "read", "Envelope.read", s_Envelope_read, [], [], none⟩
def dd__law_plan : Ob.Df := ⟨.g "_law_plan", "_law_plan", "_law_plan", s__law_plan, [], [], none⟩
def dd_Plan_read : Ob.Df := ⟨.k "Plan" "read", "read", "Plan.read", s_Plan_read, [], [], none⟩
def dd__law_exchanged_alike : Ob.Df := ⟨.g "_law_exchanged_alike", "_law_exchanged_alike", "_law_exchanged_alike", s__law_exchanged_alike, [], [], none⟩
def dd_law : Ob.Df := ⟨.g "law", "law", "law", s_law, [], [], none⟩
/-! ### what the top has left -/
structure Tx (K : PySem.W.Frag) (mg : Str → Option Value) (base : Heap) : Prop where
  n_ValueError : mg "ValueError" = none
  n_all : mg "all" = none
  n_bool : mg "bool" = none
  n_dict : mg "dict" = none
  n_enumerate : mg "enumerate" = none
  n_int : mg "int" = none
  n_isinstance : mg "isinstance" = none
  n_len : mg "len" = none
  n_list : mg "list" = none
  n_min : mg "min" = none
  n_range : mg "range" = none
  n_set : mg "set" = none
  n_str : mg "str" = none
  n_sum : mg "sum" = none
  n_tuple : mg "tuple" = none
  n_zip : mg "zip" = none
  g__law_told : mg "_law_told" = some (.ref (He.ga K "_law_told"))
  g__law_error : mg "_law_error" = some (.ref (He.ga K "_law_error"))
  g__law_cell : mg "_law_cell" = some (.ref (He.ga K "_law_cell"))
  g__law_names : mg "_law_names" = some (.ref (He.ga K "_law_names"))
  g_is_integer : mg "is_integer" = some (.ref (He.ga K "is_integer"))
  g_is_number_text : mg "is_number_text" = some (.ref (He.ga K "is_number_text"))
  g__law_digits : mg "_law_digits" = some (.ref (He.ga K "_law_digits"))
  g_check_amount : mg "check_amount" = some (.ref (He.ga K "check_amount"))
  g__law_plan : mg "_law_plan" = some (.ref (He.ga K "_law_plan"))
  g__law_exchanged_alike : mg "_law_exchanged_alike" = some (.ref (He.ga K "_law_exchanged_alike"))
  g_law : mg "law" = some (.ref (He.ga K "law"))
  g_Envelope : mg "Envelope" = some (.ref (He.ga K "Envelope"))
  g_FillError : mg "FillError" = some (.ref (He.ga K "FillError"))
  g_InvalidAmount : mg "InvalidAmount" = some (.ref (He.ga K "InvalidAmount"))
  g_InvalidCap : mg "InvalidCap" = some (.ref (He.ga K "InvalidCap"))
  g_InvalidDeed : mg "InvalidDeed" = some (.ref (He.ga K "InvalidDeed"))
  g_InvalidEnvelopes : mg "InvalidEnvelopes" = some (.ref (He.ga K "InvalidEnvelopes"))
  g_InvalidFloor : mg "InvalidFloor" = some (.ref (He.ga K "InvalidFloor"))
  g_InvalidLevel : mg "InvalidLevel" = some (.ref (He.ga K "InvalidLevel"))
  g_InvalidName : mg "InvalidName" = some (.ref (He.ga K "InvalidName"))
  g_InvalidPlace : mg "InvalidPlace" = some (.ref (He.ga K "InvalidPlace"))
  g_InvalidText : mg "InvalidText" = some (.ref (He.ga K "InvalidText"))
  g_NotEnough : mg "NotEnough" = some (.ref (He.ga K "NotEnough"))
  g_Plan : mg "Plan" = some (.ref (He.ga K "Plan"))
  g_UnknownEnvelope : mg "UnknownEnvelope" = some (.ref (He.ga K "UnknownEnvelope"))
  c_FIGURES : ∃ t, mg "FIGURES" = some (.str "0123456789" t)
  c_LETTERS : ∃ t, mg "LETTERS" = some (.str "abcdefghijklmnopqrstuvwxyz" t)
  l_Envelope : (Ob.Ck.fa (.cls "Envelope")).ok K = true
  l_Plan : (Ob.Ck.fa (.cls "Plan")).ok K = true
  m_Envelope_free : (Ob.Ck.fa (.meth "Envelope" "free")).ok K = true
  m_Envelope_put : (Ob.Ck.fa (.meth "Envelope" "put")).ok K = true
  m_Envelope_take : (Ob.Ck.fa (.meth "Envelope" "take")).ok K = true
  m_Plan_envelope : (Ob.Ck.fa (.meth "Plan" "envelope")).ok K = true
  m_Plan_move : (Ob.Ck.fa (.meth "Plan" "move")).ok K = true
  m_Plan_pour : (Ob.Ck.fa (.meth "Plan" "pour")).ok K = true
  p_Envelope_level : (Ob.Ck.prop "Envelope" "level").ok K = true
  p_Envelope_name : (Ob.Ck.prop "Envelope" "name").ok K = true
  p_Plan_levels : (Ob.Ck.prop "Plan" "levels").ok K = true
  p_Plan_lost : (Ob.Ck.prop "Plan" "lost").ok K = true
  p_Plan_names : (Ob.Ck.prop "Plan" "names").ok K = true
  p_Plan_total : (Ob.Ck.prop "Plan" "total").ok K = true
  y_Envelope___init__ : Ob.samB K "Envelope" "__init__" "Envelope" = true
  y_Envelope_free : Ob.samB K "Envelope" "free" "Envelope" = true
  y_Envelope_level : Ob.samB K "Envelope" "level" "Envelope" = true
  y_Envelope_name : Ob.samB K "Envelope" "name" "Envelope" = true
  y_Envelope_put : Ob.samB K "Envelope" "put" "Envelope" = true
  y_Envelope_take : Ob.samB K "Envelope" "take" "Envelope" = true
  y_Plan___init__ : Ob.samB K "Plan" "__init__" "Plan" = true
  y_Plan_envelope : Ob.samB K "Plan" "envelope" "Plan" = true
  y_Plan_levels : Ob.samB K "Plan" "levels" "Plan" = true
  y_Plan_lost : Ob.samB K "Plan" "lost" "Plan" = true
  y_Plan_move : Ob.samB K "Plan" "move" "Plan" = true
  y_Plan_names : Ob.samB K "Plan" "names" "Plan" = true
  y_Plan_pour : Ob.samB K "Plan" "pour" "Plan" = true
  y_Plan_total : Ob.samB K "Plan" "total" "Plan" = true
  x_InvalidPlace : Ht.excB K "InvalidPlace" = true
  r_InvalidPlace : Ht.rowB K "InvalidPlace" [("InvalidName", false), ("InvalidCap", false), ("InvalidLevel", false), ("InvalidFloor", false), ("InvalidAmount", false), ("InvalidText", false), ("InvalidEnvelopes", false), ("InvalidPlace", true), ("InvalidDeed", false), ("UnknownEnvelope", false), ("NotEnough", false)] = true
  rt_InvalidPlace : Ht.rowT K "InvalidPlace" "ValueError" true = true
  x_UnknownEnvelope : Ht.excB K "UnknownEnvelope" = true
  r_UnknownEnvelope : Ht.rowB K "UnknownEnvelope" [("InvalidName", false), ("InvalidCap", false), ("InvalidLevel", false), ("InvalidFloor", false), ("InvalidAmount", false), ("InvalidText", false), ("InvalidEnvelopes", false), ("InvalidPlace", false), ("InvalidDeed", false), ("UnknownEnvelope", true), ("NotEnough", false)] = true
  rt_UnknownEnvelope : Ht.rowT K "UnknownEnvelope" "ValueError" true = true
  z_InvalidPlace_FillError : (Ob.Ck.exm "InvalidPlace" "FillError" true).ok K = true
  z_UnknownEnvelope_FillError : (Ob.Ck.exm "UnknownEnvelope" "FillError" true).ok K = true
  k_Envelope : (Ob.Ck.fa (.mkr "Envelope")).ok K = true
  k_Plan : (Ob.Ck.fa (.mkr "Plan")).ok K = true
  e_InvalidAmount : Ob.Err K mg "InvalidAmount"
  e_InvalidCap : Ob.Err K mg "InvalidCap"
  e_InvalidEnvelopes : Ob.Err K mg "InvalidEnvelopes"
  e_InvalidLevel : Ob.Err K mg "InvalidLevel"
  e_InvalidName : Ob.Err K mg "InvalidName"
  e_InvalidPlace : Ob.Err K mg "InvalidPlace"
  e_InvalidText : Ob.Err K mg "InvalidText"
  e_NotEnough : Ob.Err K mg "NotEnough"
  e_UnknownEnvelope : Ob.Err K mg "UnknownEnvelope"
  v_Envelope_LARGEST : Ob.ClsC K mg "Envelope" "LARGEST" 1000000
  v_Plan_MOST : Ob.ClsC K mg "Plan" "MOST" 6
  t_Envelope_is_name : (Ob.Ck.stat "Envelope" "is_name").ok K = true
  cm_Envelope_read : Ob.cmB K "Envelope" "read" = true
  cm_Plan_read : Ob.cmB K "Plan" "read" = true
  a_Env_held : Ob.NoA K ["Envelope"] "held"
  a_Env_label : Ob.NoA K ["Envelope"] "label"
  a_Env_limit : Ob.NoA K ["Envelope"] "limit"
  a_Plan_gone : Ob.NoA K ["Plan"] "gone"
  a_Plan_row : Ob.NoA K ["Plan"] "row"
  i_Envelope : Ob.IsC K mg "Envelope" [("Envelope", true), ("Plan", false)]
  d__law_told : ∃ fd, FunD K "_law_told" "_law_told" (defArgs s__law_told) (defBody s__law_told) (defScope s__law_told) [] [] (Ob.Lo.ad K (.g "_law_told")) fd
  d__law_error : ∃ fd, FunD K "_law_error" "_law_error" (defArgs s__law_error) (defBody s__law_error) (defScope s__law_error) [] [] (Ob.Lo.ad K (.g "_law_error")) fd
  d__law_cell : ∃ fd, FunD K "_law_cell" "_law_cell" (defArgs s__law_cell) (defBody s__law_cell) (defScope s__law_cell) [] [] (Ob.Lo.ad K (.g "_law_cell")) fd
  d__law_names : ∃ fd, FunD K "_law_names" "_law_names" (defArgs s__law_names) (defBody s__law_names) (defScope s__law_names) [] [] (Ob.Lo.ad K (.g "_law_names")) fd
  d_Envelope_name : ∃ fd, FunD K "name" "Envelope.name" (defArgs s_Envelope_name) (defBody s_Envelope_name) (defScope s_Envelope_name) [] [] (Ob.Lo.ad K (.p "Envelope" "name")) fd
  d_Envelope_is_name : ∃ fd, FunD K "is_name" "Envelope.is_name" (defArgs s_Envelope_is_name) (defBody s_Envelope_is_name) (defScope s_Envelope_is_name) [] [] (Ob.Lo.ad K (.s "Envelope" "is_name")) fd
  d_is_integer : ∃ fd, FunD K "is_integer" "is_integer" (defArgs s_is_integer) (defBody s_is_integer) (defScope s_is_integer) [] [] (Ob.Lo.ad K (.g "is_integer")) fd
  d_Envelope_level : ∃ fd, FunD K "level" "Envelope.level" (defArgs s_Envelope_level) (defBody s_Envelope_level) (defScope s_Envelope_level) [] [] (Ob.Lo.ad K (.p "Envelope" "level")) fd
  d_Envelope_free : ∃ fd, FunD K "free" "Envelope.free" (defArgs s_Envelope_free) (defBody s_Envelope_free) (defScope s_Envelope_free) [] [] (Ob.Lo.ad K (.m "Envelope" "free")) fd
  d_Plan_lost : ∃ fd, FunD K "lost" "Plan.lost" (defArgs s_Plan_lost) (defBody s_Plan_lost) (defScope s_Plan_lost) [] [] (Ob.Lo.ad K (.p "Plan" "lost")) fd
  d_is_number_text : ∃ fd, FunD K "is_number_text" "is_number_text" (defArgs s_is_number_text) (defBody s_is_number_text) (defScope s_is_number_text) [] [] (Ob.Lo.ad K (.g "is_number_text")) fd
  d__law_digits : ∃ fd, FunD K "_law_digits" "_law_digits" (defArgs s__law_digits) (defBody s__law_digits) (defScope s__law_digits) [] [] (Ob.Lo.ad K (.g "_law_digits")) fd
  d_Envelope___init__ : ∃ fd, FunD K "__init__" "Envelope.__init__" (defArgs s_Envelope___init__) (defBody s_Envelope___init__) (defScope s_Envelope___init__) [.int 0] [] (Ob.Lo.ad K (.m "Envelope" "__init__")) fd
  d_check_amount : ∃ fd, FunD K "check_amount" "check_amount" (defArgs s_check_amount) (defBody s_check_amount) (defScope s_check_amount) [] [] (Ob.Lo.ad K (.g "check_amount")) fd
  d_Plan___init__ : ∃ fd, FunD K "__init__" "Plan.__init__" (defArgs s_Plan___init__) (defBody s_Plan___init__) (defScope s_Plan___init__) [] [] (Ob.Lo.ad K (.m "Plan" "__init__")) fd
  d_Plan_names : ∃ fd, FunD K "names" "Plan.names" (defArgs s_Plan_names) (defBody s_Plan_names) (defScope s_Plan_names) [] [] (Ob.Lo.ad K (.p "Plan" "names")) fd
  d_Plan_envelope : ∃ fd, FunD K "envelope" "Plan.envelope" (defArgs s_Plan_envelope) (defBody s_Plan_envelope) (defScope s_Plan_envelope) [] [] (Ob.Lo.ad K (.m "Plan" "envelope")) fd
  d_Plan_levels : ∃ fd, FunD K "levels" "Plan.levels" (defArgs s_Plan_levels) (defBody s_Plan_levels) (defScope s_Plan_levels) [] [] (Ob.Lo.ad K (.p "Plan" "levels")) fd
  d_Envelope_put : ∃ fd, FunD K "put" "Envelope.put" (defArgs s_Envelope_put) (defBody s_Envelope_put) (defScope s_Envelope_put) [] [] (Ob.Lo.ad K (.m "Envelope" "put")) fd
  d_Envelope_take : ∃ fd, FunD K "take" "Envelope.take" (defArgs s_Envelope_take) (defBody s_Envelope_take) (defScope s_Envelope_take) [] [] (Ob.Lo.ad K (.m "Envelope" "take")) fd
  d_Plan_total : ∃ fd, FunD K "total" "Plan.total" (defArgs s_Plan_total) (defBody s_Plan_total) (defScope s_Plan_total) [] [] (Ob.Lo.ad K (.p "Plan" "total")) fd
  d_Plan_move : ∃ fd, FunD K "move" "Plan.move" (defArgs s_Plan_move) (defBody s_Plan_move) (defScope s_Plan_move) [] [] (Ob.Lo.ad K (.m "Plan" "move")) fd
  d_Plan_pour : ∃ fd, FunD K "pour" "Plan.pour" (defArgs s_Plan_pour) (defBody s_Plan_pour) (defScope s_Plan_pour) [] [] (Ob.Lo.ad K (.m "Plan" "pour")) fd
  d_Envelope_read : ∃ fd, FunD K "read" "Envelope.read" (defArgs s_Envelope_read) (defBody s_Envelope_read) (defScope s_Envelope_read) [] [] (Ob.Lo.ad K (.k "Envelope" "read")) fd
  d__law_plan : ∃ fd, FunD K "_law_plan" "_law_plan" (defArgs s__law_plan) (defBody s__law_plan) (defScope s__law_plan) [] [] (Ob.Lo.ad K (.g "_law_plan")) fd
  d_Plan_read : ∃ fd, FunD K "read" "Plan.read" (defArgs s_Plan_read) (defBody s_Plan_read) (defScope s_Plan_read) [] [] (Ob.Lo.ad K (.k "Plan" "read")) fd
  d__law_exchanged_alike : ∃ fd, FunD K "_law_exchanged_alike" "_law_exchanged_alike" (defArgs s__law_exchanged_alike) (defBody s__law_exchanged_alike) (defScope s__law_exchanged_alike) [] [] (Ob.Lo.ad K (.g "_law_exchanged_alike")) fd
  d_law : ∃ fd, FunD K "law" "law" (defArgs s_law) (defBody s_law) (defScope s_law) [] [] (Ob.Lo.ad K (.g "law")) fd
  TB : ∀ x ∈ (["law"] : List Str), LamX.TabB base mg (Ob.codeA K x) (Ob.tabA K x)
def df : List Ob.Df := [dd__law_told, dd__law_error, dd__law_cell, dd__law_names, dd_Envelope_name, dd_Envelope_is_name, dd_is_integer, dd_Envelope_level, dd_Envelope_free, dd_Plan_lost, dd_is_number_text, dd__law_digits, dd_Envelope___init__, dd_check_amount, dd_Plan___init__, dd_Plan_names, dd_Plan_envelope, dd_Plan_levels, dd_Envelope_put, dd_Envelope_take, dd_Plan_total, dd_Plan_move, dd_Plan_pour, dd_Envelope_read, dd__law_plan, dd_Plan_read, dd__law_exchanged_alike, dd_law]
def ck : List Ob.Ck := [.fa (.free "ValueError"),
  .fa (.free "all"),
  .fa (.free "bool"),
  .fa (.free "dict"),
  .fa (.free "enumerate"),
  .fa (.free "int"),
  .fa (.free "isinstance"),
  .fa (.free "len"),
  .fa (.free "list"),
  .fa (.free "min"),
  .fa (.free "range"),
  .fa (.free "set"),
  .fa (.free "str"),
  .fa (.free "sum"),
  .fa (.free "tuple"),
  .fa (.free "zip"),
  .fa (.glo "_law_told"),
  .fa (.glo "_law_error"),
  .fa (.glo "_law_cell"),
  .fa (.glo "_law_names"),
  .fa (.glo "is_integer"),
  .fa (.glo "is_number_text"),
  .fa (.glo "_law_digits"),
  .fa (.glo "check_amount"),
  .fa (.glo "_law_plan"),
  .fa (.glo "_law_exchanged_alike"),
  .fa (.glo "law"),
  .fa (.glo "Envelope"),
  .fa (.glo "FillError"),
  .fa (.glo "InvalidAmount"),
  .fa (.glo "InvalidCap"),
  .fa (.glo "InvalidDeed"),
  .fa (.glo "InvalidEnvelopes"),
  .fa (.glo "InvalidFloor"),
  .fa (.glo "InvalidLevel"),
  .fa (.glo "InvalidName"),
  .fa (.glo "InvalidPlace"),
  .fa (.glo "InvalidText"),
  .fa (.glo "NotEnough"),
  .fa (.glo "Plan"),
  .fa (.glo "UnknownEnvelope"),
  .fa (.str "FIGURES" "0123456789"),
  .fa (.str "LETTERS" "abcdefghijklmnopqrstuvwxyz"),
  .fa (.cls "Envelope"),
  .fa (.cls "Plan"),
  .fa (.meth "Envelope" "free"),
  .fa (.meth "Envelope" "put"),
  .fa (.meth "Envelope" "take"),
  .fa (.meth "Plan" "envelope"),
  .fa (.meth "Plan" "move"),
  .fa (.meth "Plan" "pour"),
  .prop "Envelope" "level",
  .prop "Envelope" "name",
  .prop "Plan" "levels",
  .prop "Plan" "lost",
  .prop "Plan" "names",
  .prop "Plan" "total",
  .bo (fun K => Ob.samB K "Envelope" "__init__" "Envelope"),
  .bo (fun K => Ob.samB K "Envelope" "free" "Envelope"),
  .bo (fun K => Ob.samB K "Envelope" "level" "Envelope"),
  .bo (fun K => Ob.samB K "Envelope" "name" "Envelope"),
  .bo (fun K => Ob.samB K "Envelope" "put" "Envelope"),
  .bo (fun K => Ob.samB K "Envelope" "take" "Envelope"),
  .bo (fun K => Ob.samB K "Plan" "__init__" "Plan"),
  .bo (fun K => Ob.samB K "Plan" "envelope" "Plan"),
  .bo (fun K => Ob.samB K "Plan" "levels" "Plan"),
  .bo (fun K => Ob.samB K "Plan" "lost" "Plan"),
  .bo (fun K => Ob.samB K "Plan" "move" "Plan"),
  .bo (fun K => Ob.samB K "Plan" "names" "Plan"),
  .bo (fun K => Ob.samB K "Plan" "pour" "Plan"),
  .bo (fun K => Ob.samB K "Plan" "total" "Plan"),
  .bo (fun K => Ht.excB K "InvalidPlace"),
  .bo (fun K => Ht.rowB K "InvalidPlace" [("InvalidName", false), ("InvalidCap", false), ("InvalidLevel", false), ("InvalidFloor", false), ("InvalidAmount", false), ("InvalidText", false), ("InvalidEnvelopes", false), ("InvalidPlace", true), ("InvalidDeed", false), ("UnknownEnvelope", false), ("NotEnough", false)]),
  .bo (fun K => Ht.rowT K "InvalidPlace" "ValueError" true),
  .bo (fun K => Ht.excB K "UnknownEnvelope"),
  .bo (fun K => Ht.rowB K "UnknownEnvelope" [("InvalidName", false), ("InvalidCap", false), ("InvalidLevel", false), ("InvalidFloor", false), ("InvalidAmount", false), ("InvalidText", false), ("InvalidEnvelopes", false), ("InvalidPlace", false), ("InvalidDeed", false), ("UnknownEnvelope", true), ("NotEnough", false)]),
  .bo (fun K => Ht.rowT K "UnknownEnvelope" "ValueError" true),
  .exm "InvalidPlace" "FillError" true,
  .exm "UnknownEnvelope" "FillError" true,
  .fa (.mkr "Envelope"),
  .fa (.mkr "Plan"),
  .fa (.exc "InvalidAmount"),
  .fa (.exc "InvalidCap"),
  .fa (.exc "InvalidEnvelopes"),
  .fa (.exc "InvalidLevel"),
  .fa (.exc "InvalidName"),
  .fa (.exc "InvalidPlace"),
  .fa (.exc "InvalidText"),
  .fa (.exc "NotEnough"),
  .fa (.exc "UnknownEnvelope"),
  .cval "Envelope" "LARGEST" 1000000,
  .cval "Plan" "MOST" 6,
  .stat "Envelope" "is_name",
  .bo (fun K => Ob.cmB K "Envelope" "read"),
  .bo (fun K => Ob.cmB K "Plan" "read"),
  .fa (.noat "Envelope" "held"),
  .fa (.noat "Envelope" "label"),
  .fa (.noat "Envelope" "limit"),
  .fa (.noat "Plan" "gone"),
  .fa (.noat "Plan" "row"),
  .obc,
  .ist "Envelope",
  .isc "Envelope" "Envelope" true,
  .isc "Plan" "Envelope" false,
  .bo (fun K => decide ((["law"] : List Str).map (Ob.tabA K)).Nodup)]
abbrev R : PySem.W.OpenRow := PySem.W.OpenLaw.row PySem.Challenge.rw_fillorder_k11_whole_moved_envelopes
abbrev hk : PySem.W.Hook := Ht.hookL 6 file ck df ["law"]
def ob (s : PySem.W.SharedT) : Ht.AlL := Ht.obsL 6 file ck df ["law"] (HandSHeadRun.getT s)
theorem ob_eq (s : PySem.W.SharedT) : ob s = hk.obs s.abs := Ht.obsL_eq (HandSHeadRun.getT_eq s)
abbrev loose : List Str := ["_wall", "FillError", "InvalidName", "InvalidCap", "InvalidLevel", "InvalidFloor", "InvalidAmount", "InvalidText", "InvalidEnvelopes", "InvalidPlace", "InvalidDeed", "UnknownEnvelope", "NotEnough", "LETTERS", "FIGURES", "is_integer", "is_number_text", "check_amount", "Envelope", "Plan", "_law_cell", "_law_digits", "_law_error", "_law_told", "_law_plan", "_law_names", "_law_exchanged_alike"]
theorem run (w : World) : HandSHeadRun.RunEq R (PySem.W.view R.prog [31]) hk ob 20000 loose w := by
  intro os
  kernel_rfl
end Lw
namespace Lw
open PySem L2 Fi
/-! ### what each def computes -/
def b__law_cell : FS := (sSeq (sIf (asB (e2 fLt (eVar 1) (eCall fLen (aCons (eVar 0) aNil)))) (sRet (e2 fIx (eVar 0) (eVar 1))) sNext)
    (sSeq (sIf (asB (e2 fEq (eCall fLen (aCons (eVar 0) aNil)) (eC (.int 0)))) (sRet (e2 fAdd (e2 fMul (eC (.int 7919)) (eVar 1)) (eC (.int 101)))) sNext)
    (sRet (e2 fAdd (e2 fMod (e2 fIx (eVar 0) (e2 fMod (eVar 1) (eCall fLen (aCons (eVar 0) aNil)))) (eC (.int 1000003))) (e2 fMul (eC (.int 7919)) (eVar 1))))))
def F__law_cell : List PyData → Option Sl := fnD 2 b__law_cell
def b__law_names : FS := (sRetL (lLst (aCons (eC (.str "rent")) (aCons (eC (.str "food")) (aCons (eC (.str "fun")) (aCons (eC (.str "trip")) (aCons (eC (.str "car")) (aCons (eC (.str "gift")) aNil))))))))
def F__law_names : List PyData → Option Sl := fnD 0 b__law_names
def b_Envelope_name : Ob.FS := (Ob.sRet (Ob.eFld ["Envelope"] "label" (Ob.eVar 0)))
def F_Envelope_name : Ob.Fn := Ob.fnO 1 b_Envelope_name
def b_Envelope_is_name : FS := (sRet (eAnd (eIsI "str" (eVar 0)) (eAnd (eChain fLe fLe (eC (.int 1)) (eCall fLenS (aCons (eVar 0) aNil)) (eC (.int 8))) (eCall fAll (aCons (eL (lLc (iS (eVar 0)) (gSet 1) pYes (e2 fInS (eVar 1) (eC (.str "abcdefghijklmnopqrstuvwxyz"))) [1])) aNil)))))
def F_Envelope_is_name : List PyData → Option Sl := fnD 2 b_Envelope_is_name
def b_is_integer : FS := (sRet (eAnd (eIsI "int" (eVar 0)) (eAnd (eNot (eIsI "bool" (eVar 0))) (eChain fLe fLe (eVar 1) (eVar 0) (eVar 2)))))
def F_is_integer : List PyData → Option Sl := fnD 3 b_is_integer
def b_Envelope_level : Ob.FS := (Ob.sRet (Ob.eFld ["Envelope"] "held" (Ob.eVar 0)))
def F_Envelope_level : Ob.Fn := Ob.fnO 1 b_Envelope_level
def b_Envelope_free : Ob.FS := (Ob.sRet (Ob.eFld ["Envelope"] "held" (Ob.eVar 0)))
def F_Envelope_free : Ob.Fn := Ob.fnO 1 b_Envelope_free
def b_Plan_lost : Ob.FS := (Ob.sRet (Ob.eFld ["Plan"] "gone" (Ob.eVar 0)))
def F_Plan_lost : Ob.Fn := Ob.fnO 1 b_Plan_lost
def b_is_number_text : FS := (sSeq (sIf (tOrF (asB (e2 fEq (eVar 0) (eC (.str "")))) (tOrF (asB (e2 fGt (eCall fLenS (aCons (eVar 0) aNil)) (eC (.int 9)))) (tNotF (asB (eCall fAll (aCons (eL (lLc (iS (eVar 0)) (gSet 1) pYes (e2 fInS (eVar 1) (eC (.str "0123456789"))) [1])) aNil)))))) (sRet (eC (.bool false))) sNext)
    (sRet (eOr (e2 fEq (eVar 0) (eC (.str "0"))) (e2 fNe (e2 fIxS (eVar 0) (eC (.int 0))) (eC (.str "0"))))))
def F_is_number_text : List PyData → Option Sl := fnD 2 b_is_number_text
def lp__law_digits_0 : FS := (sSeq (sSet 9 (e2 fMul (e2 fMod (eVar 5) (e2 fIx (eVar 4) (e2 fMod (eVar 8) (eC (.int 8))))) (e2 fAdd (eC (.int 48271)) (e2 fMul (e2 fMul (eC (.int 2)) (eVar 8)) (eVar 8)))))
    (sSeq (sSet 9 (e2 fAdd (e2 fAdd (eVar 9) (e2 fMul (e2 fMul (eC (.int 7919)) (e2 fAdd (eVar 8) (eC (.int 1)))) (e2 fAdd (eVar 8) (eC (.int 1))))) (e2 fMul (eC (.int 104729)) (eVar 1))))
    (sSeq (sSet 9 (e2 fMod (eVar 9) (e2 fIx (eVar 4) (e2 fMod (e2 fAdd (e2 fMul (eC (.int 3)) (eVar 8)) (eVar 1)) (eC (.int 8))))))
    (sSeq (sSet 9 (e2 fMod (e2 fMul (e2 fMul (eVar 9) (eVar 9)) (eVar 9)) (e2 fIx (eVar 4) (e2 fMod (e2 fAdd (eVar 8) (eC (.int 5))) (eC (.int 8))))))
    (sSeq (sIf (asB (e2 fGt (eVar 6) (eC (.int 0)))) (sSet 9 (eVar 6)) sNext)
    (sSeq (sApp 7 (e2 fMod (eVar 9) (eVar 3)))
    (sSet 6 (e2 fDiv (eVar 6) (eVar 3)))))))))
def b__law_digits : FS := (sSeq (sSet 4 (eTup (aCons (eC (.int 2147483647)) (aCons (eC (.int 2147483629)) (aCons (eC (.int 2147483587)) (aCons (eC (.int 2147483579)) (aCons (eC (.int 2147483563)) (aCons (eC (.int 2147483549)) (aCons (eC (.int 2147483543)) (aCons (eC (.int 2147483497)) aNil))))))))))
    (sSeq (sSet 5 (eCallF F__law_cell (aCons (eVar 0) (aCons (eVar 1) aNil))))
    (sSeq (sSet 6 (eIf (asB (e2 fGe (eVar 5) (e2 fPow (eC (.int 10)) (eC (.int 18))))) (eVar 5) (eC (.int 0))))
    (sSeq (sOwn 7 (lLst aNil))
    (sSeq (sFor (iR1 (aCons (eVar 2) aNil)) (gSet 8) lp__law_digits_0)
    (sRetO 7))))))
def F__law_digits : List PyData → Option Sl := fnD 10 b__law_digits
def b_Envelope___init__ : Ob.FS := (Ob.sSeq (Ob.sIf (Ob.pT (tNotF (asB (eCallF F_Envelope_is_name (aCons (eVar 1) aNil))))) (Ob.sRaise "InvalidName") Ob.sNext)
    (Ob.sSeq (Ob.sIf (Ob.pT (tNotF (asB (eCallF F_is_integer (aCons (eVar 2) (aCons (eC (.int 1)) (aCons (eC (.int 1000000)) aNil))))))) (Ob.sRaise "InvalidCap") Ob.sNext)
    (Ob.sSeq (Ob.sIf (Ob.pT (tNotF (asB (eCallF F_is_integer (aCons (eVar 3) (aCons (eC (.int 0)) (aCons (eVar 2) aNil))))))) (Ob.sRaise "InvalidLevel") Ob.sNext)
    (Ob.sSeq (Ob.sFld ["Envelope"] "label" (Ob.pE (eVar 1)) (Ob.eVar 0))
    (Ob.sSeq (Ob.sFld ["Envelope"] "limit" (Ob.pE (eVar 2)) (Ob.eVar 0))
    (Ob.sFld ["Envelope"] "held" (Ob.pE (eVar 3)) (Ob.eVar 0)))))))
def F_Envelope___init__ : Ob.Fn := Ob.fnO 4 b_Envelope___init__
def b_check_amount : Ob.FS := (Ob.sIf (Ob.pT (tNotF (asB (eCallF F_is_integer (aCons (eVar 0) (aCons (eC (.int 0)) (aCons (eC (.int 1000000000)) aNil))))))) (Ob.sRaise "InvalidAmount") Ob.sNext)
def F_check_amount : Ob.Fn := Ob.fnO 1 b_check_amount
def lc_Plan___init___0 : Ob.F (List Ob.D) := (Ob.lLc (Ob.iT (Ob.eVar 1)) (Ob.gSet 3) Ob.pYes (Ob.eIsC [("Envelope", true), ("Plan", false)] (Ob.eVar 3)) [3])
def lc_Plan___init___1 : Ob.F (List Ob.D) := (Ob.lLc (Ob.iT (Ob.eVar 1)) (Ob.gSet 3) Ob.pYes (Ob.eProp [("Envelope", F_Envelope_name)] (Ob.eVar 3)) [3])
def b_Plan___init__ : Ob.FS := (Ob.sSeq (Ob.sIf (Ob.tOrF (Ob.tNotF (Ob.asB (Ob.eChain fLe fLe (Ob.pE (eC (.int 1))) (Ob.eLenD (Ob.eVar 1)) (Ob.pE (eC (.int 6)))))) (Ob.tNotF (Ob.asB (Ob.eCall fAll (Ob.aCons (Ob.eL lc_Plan___init___0) Ob.aNil))))) (Ob.sRaise "InvalidEnvelopes") Ob.sNext)
    (Ob.sSeq (Ob.sOwn 2 lc_Plan___init___1) (Ob.sFrz 2 (Ob.sSeq (Ob.sIf (Ob.asB (Ob.e2 fLt (Ob.eLenSetS (Ob.pE (eVar 2))) (Ob.pE (eCall fLen (aCons (eVar 2) aNil))))) (Ob.sRaise "InvalidEnvelopes") Ob.sNext)
    (Ob.sSeq (Ob.sFld ["Plan"] "row" (Ob.eL (Ob.lListD (Ob.eVar 1))) (Ob.eVar 0))
    (Ob.sFld ["Plan"] "gone" (Ob.pE (eC (.int 0))) (Ob.eVar 0)))))))
def F_Plan___init__ : Ob.Fn := Ob.fnStar 4 b_Plan___init__
def lc_Plan_names_0 : Ob.F (List Ob.D) := (Ob.lLc (Ob.iL (Ob.eFld ["Plan"] "row" (Ob.eVar 0))) (Ob.gSet 1) Ob.pYes (Ob.eProp [("Envelope", F_Envelope_name)] (Ob.eVar 1)) [1])
def b_Plan_names : Ob.FS := (Ob.sRet (Ob.eCall fTuple (Ob.aCons (Ob.eL lc_Plan_names_0) Ob.aNil)))
def F_Plan_names : Ob.Fn := Ob.fnO 2 b_Plan_names
def lp_Plan_envelope_0 : Ob.FS := (Ob.sIf (Ob.tAndF (Ob.pT (asB (eIsI "str" (eVar 1)))) (Ob.asB (Ob.e2 fEq (Ob.eProp [("Envelope", F_Envelope_name)] (Ob.eVar 2)) (Ob.pE (eVar 1))))) (Ob.sRet (Ob.eVar 2)) Ob.sNext)
def b_Plan_envelope : Ob.FS := (Ob.sSeq (Ob.sFor (Ob.iL (Ob.eFld ["Plan"] "row" (Ob.eVar 0))) (Ob.gSet 2) lp_Plan_envelope_0)
    (Ob.sRaise "UnknownEnvelope"))
def F_Plan_envelope : Ob.Fn := Ob.fnO 3 b_Plan_envelope
def lc_Plan_levels_0 : Ob.F (List Ob.D) := (Ob.lLc (Ob.iL (Ob.eFld ["Plan"] "row" (Ob.eVar 0))) (Ob.gSet 1) Ob.pYes (Ob.eProp [("Envelope", F_Envelope_level)] (Ob.eVar 1)) [1])
def b_Plan_levels : Ob.FS := (Ob.sRet (Ob.eCall fTuple (Ob.aCons (Ob.eL lc_Plan_levels_0) Ob.aNil)))
def F_Plan_levels : Ob.Fn := Ob.fnO 2 b_Plan_levels
def b_Envelope_put : Ob.FS := (Ob.sSeq (Ob.sDrop (Ob.eG F_check_amount 1 (Ob.pL (aCons (eVar 1) aNil))))
    (Ob.sSeq (Ob.sSet 2 (Ob.eCall fMin (Ob.aCons (Ob.pE (eVar 1)) (Ob.aCons (Ob.e2 fSub (Ob.eFld ["Envelope"] "limit" (Ob.eVar 0)) (Ob.eFld ["Envelope"] "held" (Ob.eVar 0))) Ob.aNil))))
    (Ob.sSeq (Ob.sFldAug ["Envelope"] "held" (fun i j => i + j) (Ob.eVar 0) (Ob.pE (eVar 2)))
    (Ob.sRet (Ob.pE (e2 fSub (eVar 1) (eVar 2)))))))
def F_Envelope_put : Ob.Fn := Ob.fnO 3 b_Envelope_put
def b_Envelope_take : Ob.FS := (Ob.sSeq (Ob.sDrop (Ob.eG F_check_amount 1 (Ob.pL (aCons (eVar 1) aNil))))
    (Ob.sSeq (Ob.sIf (Ob.asB (Ob.e2 fGt (Ob.pE (eVar 1)) (Ob.eMeth0 [("Envelope", F_Envelope_free)] "free" (Ob.eVar 0)))) (Ob.sRaise "NotEnough") Ob.sNext)
    (Ob.sFldAug ["Envelope"] "held" (fun i j => i - j) (Ob.eVar 0) (Ob.pE (eVar 1)))))
def F_Envelope_take : Ob.Fn := Ob.fnO 2 b_Envelope_take
def lc_Plan_total_0 : Ob.F (List Ob.D) := (Ob.lLc (Ob.iL (Ob.eFld ["Plan"] "row" (Ob.eVar 0))) (Ob.gSet 1) Ob.pYes (Ob.eProp [("Envelope", F_Envelope_level)] (Ob.eVar 1)) [1])
def b_Plan_total : Ob.FS := (Ob.sRet (Ob.eCall fSum (Ob.aCons (Ob.eL lc_Plan_total_0) Ob.aNil)))
def F_Plan_total : Ob.Fn := Ob.fnO 2 b_Plan_total
def lc_Plan_move_0 : Ob.F (List Ob.D) := (Ob.lLc (Ob.iL (Ob.eFld ["Plan"] "row" (Ob.eVar 0))) (Ob.gSet 5) (Ob.asB (Ob.e2 fNe (Ob.eProp [("Envelope", F_Envelope_name)] (Ob.eVar 5)) (Ob.pE (eVar 1)))) (Ob.eVar 5) [5])
def b_Plan_move : Ob.FS := (Ob.sSeq (Ob.sSet 3 (Ob.eMeth [("Plan", F_Plan_envelope)] "envelope" 1 (Ob.eVar 0) (Ob.pL (aCons (eVar 1) aNil))))
    (Ob.sSeq (Ob.sIf (Ob.tNotF (Ob.asB (Ob.eP F_is_integer 3 (Ob.aCons (Ob.pE (eVar 2)) (Ob.aCons (Ob.pE (eC (.int 0))) (Ob.aCons (Ob.e2 fSub (Ob.eLenD (Ob.eFld ["Plan"] "row" (Ob.eVar 0))) (Ob.pE (eC (.int 1)))) Ob.aNil)))))) (Ob.sRaise "InvalidPlace") Ob.sNext)
    (Ob.sSeq (Ob.sOwn 4 lc_Plan_move_0) (Ob.sFrz 4 (Ob.sFld ["Plan"] "row" (Ob.eL (Ob.lCatD (Ob.eL (Ob.lCatD (Ob.eL (Ob.lSlD (Ob.eVar 4) (Ob.lft (some none)) (Ob.oInt (Ob.pE (eVar 2))))) (Ob.eL (Ob.lLst (Ob.aCons (Ob.eVar 3) Ob.aNil))))) (Ob.eL (Ob.lSlD (Ob.eVar 4) (Ob.oInt (Ob.pE (eVar 2))) (Ob.lft (some none)))))) (Ob.eVar 0))))))
def F_Plan_move : Ob.Fn := Ob.fnO 6 b_Plan_move
def lp_Plan_pour_0 : Ob.FS := (Ob.sDrop (Ob.eG F_check_amount 1 (Ob.pL (aCons (eVar 2) aNil))))
def lp_Plan_pour_1 : Ob.FS := (Ob.sSet 2 (Ob.eMeth [("Envelope", F_Envelope_put)] "put" 1 (Ob.eVar 4) (Ob.pL (aCons (eVar 2) aNil))))
def lp_Plan_pour_2 : Ob.FS := (Ob.sSeq (Ob.sFor (Ob.iL (Ob.eFld ["Plan"] "row" (Ob.eVar 0))) (Ob.gSet 4) lp_Plan_pour_1)
    (Ob.sFldAug ["Plan"] "gone" (fun i j => i + j) (Ob.eVar 0) (Ob.pE (eVar 2))))
def b_Plan_pour : Ob.FS := (Ob.sSeq (Ob.sFor (Ob.pL (iT (eVar 1))) (Ob.gSet 2) lp_Plan_pour_0)
    (Ob.sSeq (Ob.sSet 3 (Ob.eFld ["Plan"] "gone" (Ob.eVar 0)))
    (Ob.sSeq (Ob.sFor (Ob.pL (iT (eVar 1))) (Ob.gSet 2) lp_Plan_pour_2)
    (Ob.sRet (Ob.e2 fSub (Ob.eFld ["Plan"] "gone" (Ob.eVar 0)) (Ob.pE (eVar 3)))))))
def F_Plan_pour : Ob.Fn := Ob.fnStar 5 b_Plan_pour
def b_Envelope_read : Ob.FS := (Ob.sSeq (Ob.sIf (Ob.pT (tOrF (tNotF (asB (eIsI "str" (eVar 1)))) (tOrF (asB (e2 fNe (e2 fCount (eVar 1) (eC (.str ":"))) (eC (.int 1)))) (asB (e2 fGt (e2 fCount (eVar 1) (eC (.str "/"))) (eC (.int 1))))))) (Ob.sRaise "InvalidText") Ob.sNext)
    (Ob.sSeq (Ob.sAsg (Ob.pE (eL (lSplit (eVar 1) (eC (.str ":"))))) (Ob.gLst 2 (Ob.gsCons (Ob.gSet 3) (Ob.gsCons (Ob.gSet 4) Ob.gsNil))))
    (Ob.sSeq (Ob.sSet 2 (Ob.pE (eL (lSplit (eVar 4) (eC (.str "/"))))))
    (Ob.sSeq (Ob.sIf (Ob.pT (tOrF (tNotF (asB (eCallF F_Envelope_is_name (aCons (eVar 3) aNil)))) (tNotF (asB (eCall fAll (aCons (eL (lLc (iL (eVar 2)) (gSet 7) pYes (eCallF F_is_number_text (aCons (eVar 7) aNil)) [7])) aNil)))))) (Ob.sRaise "InvalidText") Ob.sNext)
    (Ob.sSeq (Ob.sPar 5 6 (Ob.pL (aCons (eCall fIntT (aCons (e2 fIx (eVar 2) (e1 fNeg (eC (.int 1)))) aNil)) (aCons (eIf (asB (e2 fEq (eCall fLen (aCons (eVar 2) aNil)) (eC (.int 2)))) (eCall fIntT (aCons (e2 fIx (eVar 2) (eC (.int 0))) aNil)) (eC (.int 0))) aNil))))
    (Ob.sSeq (Ob.sIf (Ob.pT (tOrF (tNotF (asB (eChain fLe fLe (eC (.int 1)) (eVar 5) (eC (.int 1000000))))) (asB (e2 fGt (eVar 6) (eVar 5))))) (Ob.sRaise "InvalidText") Ob.sNext)
    (Ob.sRet (Ob.eMakeV [("Envelope", F_Envelope___init__)] 0 3 (Ob.pL (aCons (eVar 3) (aCons (eVar 5) (aCons (eVar 6) aNil))))))))))))
def F_Envelope_read : Ob.Fn := Ob.fnO 8 b_Envelope_read
def b__law_plan : Ob.FS := (Ob.sSeq (Ob.sIf (Ob.asB (Ob.e2 fEq (Ob.eLenD (Ob.eVar 0)) (Ob.pE (eC (.int 1))))) (Ob.sRet (Ob.eMake F_Plan___init__ "Plan" 1 (Ob.aCons (Ob.eIx Ob.D.lst? (Ob.eVar 0) (Ob.pE (eC (.int 0)))) Ob.aNil))) Ob.sNext)
    (Ob.sSeq (Ob.sIf (Ob.asB (Ob.e2 fEq (Ob.eLenD (Ob.eVar 0)) (Ob.pE (eC (.int 2))))) (Ob.sRet (Ob.eMake F_Plan___init__ "Plan" 2 (Ob.aCons (Ob.eIx Ob.D.lst? (Ob.eVar 0) (Ob.pE (eC (.int 0)))) (Ob.aCons (Ob.eIx Ob.D.lst? (Ob.eVar 0) (Ob.pE (eC (.int 1)))) Ob.aNil)))) Ob.sNext)
    (Ob.sSeq (Ob.sIf (Ob.asB (Ob.e2 fEq (Ob.eLenD (Ob.eVar 0)) (Ob.pE (eC (.int 3))))) (Ob.sRet (Ob.eMake F_Plan___init__ "Plan" 3 (Ob.aCons (Ob.eIx Ob.D.lst? (Ob.eVar 0) (Ob.pE (eC (.int 0)))) (Ob.aCons (Ob.eIx Ob.D.lst? (Ob.eVar 0) (Ob.pE (eC (.int 1)))) (Ob.aCons (Ob.eIx Ob.D.lst? (Ob.eVar 0) (Ob.pE (eC (.int 2)))) Ob.aNil))))) Ob.sNext)
    (Ob.sSeq (Ob.sIf (Ob.asB (Ob.e2 fEq (Ob.eLenD (Ob.eVar 0)) (Ob.pE (eC (.int 4))))) (Ob.sRet (Ob.eMake F_Plan___init__ "Plan" 4 (Ob.aCons (Ob.eIx Ob.D.lst? (Ob.eVar 0) (Ob.pE (eC (.int 0)))) (Ob.aCons (Ob.eIx Ob.D.lst? (Ob.eVar 0) (Ob.pE (eC (.int 1)))) (Ob.aCons (Ob.eIx Ob.D.lst? (Ob.eVar 0) (Ob.pE (eC (.int 2)))) (Ob.aCons (Ob.eIx Ob.D.lst? (Ob.eVar 0) (Ob.pE (eC (.int 3)))) Ob.aNil)))))) Ob.sNext)
    (Ob.sSeq (Ob.sIf (Ob.asB (Ob.e2 fEq (Ob.eLenD (Ob.eVar 0)) (Ob.pE (eC (.int 5))))) (Ob.sRet (Ob.eMake F_Plan___init__ "Plan" 5 (Ob.aCons (Ob.eIx Ob.D.lst? (Ob.eVar 0) (Ob.pE (eC (.int 0)))) (Ob.aCons (Ob.eIx Ob.D.lst? (Ob.eVar 0) (Ob.pE (eC (.int 1)))) (Ob.aCons (Ob.eIx Ob.D.lst? (Ob.eVar 0) (Ob.pE (eC (.int 2)))) (Ob.aCons (Ob.eIx Ob.D.lst? (Ob.eVar 0) (Ob.pE (eC (.int 3)))) (Ob.aCons (Ob.eIx Ob.D.lst? (Ob.eVar 0) (Ob.pE (eC (.int 4)))) Ob.aNil))))))) Ob.sNext)
    (Ob.sRet (Ob.eMake F_Plan___init__ "Plan" 6 (Ob.aCons (Ob.eIx Ob.D.lst? (Ob.eVar 0) (Ob.pE (eC (.int 0)))) (Ob.aCons (Ob.eIx Ob.D.lst? (Ob.eVar 0) (Ob.pE (eC (.int 1)))) (Ob.aCons (Ob.eIx Ob.D.lst? (Ob.eVar 0) (Ob.pE (eC (.int 2)))) (Ob.aCons (Ob.eIx Ob.D.lst? (Ob.eVar 0) (Ob.pE (eC (.int 3)))) (Ob.aCons (Ob.eIx Ob.D.lst? (Ob.eVar 0) (Ob.pE (eC (.int 4)))) (Ob.aCons (Ob.eIx Ob.D.lst? (Ob.eVar 0) (Ob.pE (eC (.int 5)))) Ob.aNil)))))))))))))
def F__law_plan : Ob.Fn := Ob.fnO 1 b__law_plan
def lc_Plan_read_0 : Ob.F (List Ob.D) := (Ob.lLc (Ob.pL (iL (eL (lSplit (eVar 1) (eC (.str ", ")))))) (Ob.gSet 4) Ob.pYes (Ob.eCM F_Envelope_read "Envelope" 1 (Ob.pL (aCons (eVar 4) aNil))) [4])
def lc_Plan_read_1 : Ob.F (List Ob.D) := (Ob.lLc (Ob.iL (Ob.eVar 2)) (Ob.gSet 5) Ob.pYes (Ob.eProp [("Envelope", F_Envelope_name)] (Ob.eVar 5)) [5])
def b_Plan_read : Ob.FS := (Ob.sSeq (Ob.sIf (Ob.pT (tNotF (asB (eIsI "str" (eVar 1))))) (Ob.sRaise "InvalidText") Ob.sNext)
    (Ob.sSeq (Ob.sOwn 2 lc_Plan_read_0) (Ob.sFrz 2 (Ob.sSeq (Ob.sOwn 3 lc_Plan_read_1) (Ob.sFrz 3 (Ob.sSeq (Ob.sIf (Ob.tOrF (Ob.asB (Ob.e2 fGt (Ob.eLenD (Ob.eVar 2)) (Ob.pE (eC (.int 6))))) (Ob.asB (Ob.e2 fLt (Ob.eLenSetS (Ob.pE (eVar 3))) (Ob.pE (eCall fLen (aCons (eVar 3) aNil)))))) (Ob.sRaise "InvalidText") Ob.sNext)
    (Ob.sRet (Ob.eMakeVS "Plan" F_Plan___init__ 0 (Ob.eVar 2)))))))))
def F_Plan_read : Ob.Fn := Ob.fnO 6 b_Plan_read
def lc__law_exchanged_alike_0 : Ob.F (List Ob.D) := (Ob.lLc (Ob.pL (iL (eVar 2))) (Ob.gTup 3 (Ob.gsCons (Ob.gSet 7) (Ob.gsCons (Ob.gSet 9) (Ob.gsCons (Ob.gSet 10) Ob.gsNil)))) Ob.pYes (Ob.eMake F_Envelope___init__ "Envelope" 3 (Ob.pL (aCons (eVar 7) (aCons (eVar 9) (aCons (eVar 10) aNil))))) [7, 9, 10])
def lc__law_exchanged_alike_1 : Ob.F (List Ob.D) := (Ob.lLc (Ob.pL (iL (eVar 2))) (Ob.gTup 3 (Ob.gsCons (Ob.gSet 7) (Ob.gsCons (Ob.gSet 9) (Ob.gsCons (Ob.gSet 10) Ob.gsNil)))) Ob.pYes (Ob.eMake F_Envelope___init__ "Envelope" 3 (Ob.pL (aCons (eVar 7) (aCons (eVar 9) (aCons (eVar 10) aNil))))) [7, 9, 10])
def q__law_exchanged_alike_0 : Ob.FS := (Ob.sDrop (Ob.eMeth [("Plan", F_Plan_move)] "move" 2 (Ob.eVar 5) (Ob.pL (aCons (e2 fIx (eVar 1) (eVar 3)) (aCons (e2 fAdd (eVar 3) (eC (.int 1))) aNil)))))
def q__law_exchanged_alike_1 : Ob.FS := (Ob.sIf (Ob.asB (Ob.e2 fNe (Ob.eMeth [("Plan", F_Plan_pour)] "pour" 1 (Ob.eVar 4) (Ob.pL (aCons (eVar 8) aNil))) (Ob.eMeth [("Plan", F_Plan_pour)] "pour" 1 (Ob.eVar 5) (Ob.pL (aCons (eVar 8) aNil))))) (Ob.sRet (Ob.pE (eC (.bool false)))) Ob.sNext)
def q__law_exchanged_alike_2 : Ob.FS := (Ob.sSet 8 (Ob.e2 fMod (Ob.pE (eVar 8)) (Ob.e2 fAdd (Ob.pE (eC (.int 1))) (Ob.eCall fMin (Ob.aCons (Ob.eProp [("Envelope", F_Envelope_level)] (Ob.eMeth [("Plan", F_Plan_envelope)] "envelope" 1 (Ob.eVar 4) (Ob.pL (aCons (eVar 7) aNil)))) (Ob.aCons (Ob.eProp [("Envelope", F_Envelope_level)] (Ob.eMeth [("Plan", F_Plan_envelope)] "envelope" 1 (Ob.eVar 5) (Ob.pL (aCons (eVar 7) aNil)))) Ob.aNil))))))
def q__law_exchanged_alike_3 : Ob.FS := (Ob.sDrop (Ob.eMeth [("Envelope", F_Envelope_take)] "take" 1 (Ob.eMeth [("Plan", F_Plan_envelope)] "envelope" 1 (Ob.eVar 4) (Ob.pL (aCons (eVar 7) aNil))) (Ob.pL (aCons (eVar 8) aNil))))
def q__law_exchanged_alike_4 : Ob.FS := (Ob.sDrop (Ob.eMeth [("Envelope", F_Envelope_take)] "take" 1 (Ob.eMeth [("Plan", F_Plan_envelope)] "envelope" 1 (Ob.eVar 5) (Ob.pL (aCons (eVar 7) aNil))) (Ob.pL (aCons (eVar 8) aNil))))
def q__law_exchanged_alike_5 : Ob.FS := (Ob.sIf (Ob.pT (asB (e2 fEq (e2 fMod (e2 fDiv (e2 fIx (eVar 0) (e2 fAdd (eC (.int 50)) (eVar 6))) (eC (.int 7))) (eC (.int 2))) (eC (.int 0))))) q__law_exchanged_alike_1 (Ob.sSeq q__law_exchanged_alike_2
    (Ob.sSeq q__law_exchanged_alike_3
    q__law_exchanged_alike_4)))
def q__law_exchanged_alike_6 : Ob.FS := (Ob.sIf (Ob.asB (Ob.e2 fNe (Ob.eProp [("Envelope", F_Envelope_level)] (Ob.eMeth [("Plan", F_Plan_envelope)] "envelope" 1 (Ob.eVar 4) (Ob.pL (aCons (eVar 7) aNil)))) (Ob.eProp [("Envelope", F_Envelope_level)] (Ob.eMeth [("Plan", F_Plan_envelope)] "envelope" 1 (Ob.eVar 5) (Ob.pL (aCons (eVar 7) aNil)))))) (Ob.sRet (Ob.pE (eC (.bool false)))) Ob.sNext)
def lp__law_exchanged_alike_0 : Ob.FS := q__law_exchanged_alike_6
def q__law_exchanged_alike_7 : Ob.FS := (Ob.sFor (Ob.pL (iL (eL (lCat (eL (lSl (eVar 1) oNone (oSome (eVar 3)))) (eL (lSl (eVar 1) (oSome (e2 fAdd (eVar 3) (eC (.int 2)))) oNone)))))) (Ob.gSet 7) lp__law_exchanged_alike_0)
def q__law_exchanged_alike_8 : Ob.FS := (Ob.sIf (Ob.tOrF (Ob.asB (Ob.e2 fNe (Ob.eProp [("Plan", F_Plan_total)] (Ob.eVar 4)) (Ob.eProp [("Plan", F_Plan_total)] (Ob.eVar 5)))) (Ob.asB (Ob.e2 fNe (Ob.eProp [("Plan", F_Plan_lost)] (Ob.eVar 4)) (Ob.eProp [("Plan", F_Plan_lost)] (Ob.eVar 5))))) (Ob.sRet (Ob.pE (eC (.bool false)))) Ob.sNext)
def lp__law_exchanged_alike_1 : Ob.FS := (Ob.sSeq (Ob.sSet 7 (Ob.pE (e2 fIx (eVar 1) (e2 fMod (e2 fIx (eVar 0) (e2 fAdd (eC (.int 50)) (eVar 6))) (eCall fLen (aCons (eVar 1) aNil))))))
    (Ob.sSeq (Ob.sSet 8 (Ob.pE (e2 fMod (e2 fIx (eVar 0) (e2 fAdd (eC (.int 65)) (eVar 6))) (eC (.int 120)))))
    (Ob.sSeq q__law_exchanged_alike_5
    (Ob.sSeq q__law_exchanged_alike_7
    q__law_exchanged_alike_8))))
def b__law_exchanged_alike : Ob.FS := (Ob.sSeq (Ob.sSet 3 (Ob.pE (e2 fMod (e2 fIx (eVar 0) (eC (.int 40))) (e2 fSub (eCall fLen (aCons (eVar 1) aNil)) (eC (.int 1))))))
    (Ob.sSeq (Ob.sSet 4 (Ob.eG F__law_plan 1 (Ob.aCons (Ob.eL lc__law_exchanged_alike_0) Ob.aNil)))
    (Ob.sSeq (Ob.sSet 5 (Ob.eG F__law_plan 1 (Ob.aCons (Ob.eL lc__law_exchanged_alike_1) Ob.aNil)))
    (Ob.sSeq q__law_exchanged_alike_0
    (Ob.sSeq (Ob.sFor (Ob.pL (iR1 (aCons (eC (.int 12)) aNil))) (Ob.gSet 6) lp__law_exchanged_alike_1)
    (Ob.sRet (Ob.pE (eC (.bool true)))))))))
def F__law_exchanged_alike : Ob.Fn := Ob.fnO 11 b__law_exchanged_alike
def q_law_0 : Ob.FS := (Ob.sSet 4 (Ob.pE (eL (lSl (eL (lCallF F__law_names aNil)) oNone (oSome (e2 fAdd (eC (.int 2)) (e2 fMod (e2 fIx (eVar 3) (eC (.int 0))) (eC (.int 5)))))))))
def q_law_1 : Ob.FS := (Ob.sApp 5 (Ob.pE (eTup (aCons (eVar 7) (aCons (eVar 8) (aCons (e2 fMod (e2 fIx (eVar 3) (e2 fAdd (eC (.int 10)) (eVar 6))) (e2 fAdd (eVar 8) (eC (.int 1)))) aNil))))))
def lp_law_0 : Ob.FS := (Ob.sSeq (Ob.sSet 8 (Ob.pE (e2 fAdd (eC (.int 1)) (e2 fMod (e2 fIx (eVar 3) (e2 fAdd (eC (.int 1)) (eVar 6))) (eC (.int 90))))))
    q_law_1)
def lc_law_0 : Ob.F (List Ob.D) := (Ob.lLc (Ob.pL (iL (eVar 5))) (Ob.gTup 3 (Ob.gsCons (Ob.gSet 7) (Ob.gsCons (Ob.gSet 8) (Ob.gsCons (Ob.gSet 14) Ob.gsNil)))) Ob.pYes (Ob.eMake F_Envelope___init__ "Envelope" 3 (Ob.pL (aCons (eVar 7) (aCons (eVar 8) (aCons (eVar 14) aNil))))) [7, 8, 14])
def lc_law_1 : Ob.F (List Ob.D) := (Ob.lLc (Ob.iT (Ob.eProp [("Plan", F_Plan_names)] (Ob.eVar 2))) (Ob.gSet 13) (Ob.pT (asB (e2 fNe (eVar 13) (eVar 7)))) (Ob.pE (eVar 13)) [13])
def lc_law_2 : Ob.F (List Ob.D) := (Ob.lLc (Ob.pL (iL (eVar 4))) (Ob.gSet 13) Ob.pYes (Ob.eTup (Ob.aCons (Ob.pE (eVar 13)) (Ob.aCons (Ob.eProp [("Envelope", F_Envelope_level)] (Ob.eMeth [("Plan", F_Plan_envelope)] "envelope" 1 (Ob.eVar 2) (Ob.pL (aCons (eVar 13) aNil)))) Ob.aNil))) [13])
def q_law_2 : Ob.FS := (Ob.sIf (Ob.tOrF (Ob.asB (Ob.e2 fIsNot (Ob.eMeth [("Plan", F_Plan_move)] "move" 2 (Ob.eVar 2) (Ob.pL (aCons (eVar 7) (aCons (eVar 9) aNil)))) (Ob.pE (eC .none)))) (Ob.asB (Ob.e2 fNe (Ob.eL (Ob.lListD (Ob.eProp [("Plan", F_Plan_names)] (Ob.eVar 2)))) (Ob.pE (eL (lCat (eL (lCat (eL (lSl (eVar 10) oNone (oSome (eVar 9)))) (eL (lLst (aCons (eVar 7) aNil))))) (eL (lSl (eVar 10) (oSome (eVar 9)) oNone)))))))) (Ob.sRet (Ob.pE (eC (.bool false)))) Ob.sNext)
def lc_law_3 : Ob.F (List Ob.D) := (Ob.lLc (Ob.iT (Ob.eProp [("Plan", F_Plan_names)] (Ob.eVar 2))) (Ob.gSet 13) Ob.pYes (Ob.eDGet (Ob.eVar 11) (Ob.pE (eVar 13))) [13])
def q_law_3 : Ob.FS := (Ob.sIf (Ob.asB (Ob.e2 fNe (Ob.eProp [("Plan", F_Plan_levels)] (Ob.eVar 2)) (Ob.eCall fTuple (Ob.aCons (Ob.eL lc_law_3) Ob.aNil)))) (Ob.sRet (Ob.pE (eC (.bool false)))) Ob.sNext)
def q_law_4 : Ob.FS := (Ob.sIf (Ob.asB (Ob.e2 fNe (Ht.eTold 0 "law" [("InvalidPlace", "place value"), ("UnknownEnvelope", "unknown value")] (Ob.eMeth [("Plan", F_Plan_move)] "move" 2 (Ob.eVar 2) (Ob.pL (aCons (eVar 7) (aCons (eVar 12) aNil))))) (Ob.pE (eTup (aCons (eC .none) (aCons (eC (.str "place value")) aNil)))))) (Ob.sRet (Ob.pE (eC (.bool false)))) Ob.sNext)
def lp_law_1 : Ob.FS := q_law_4
def q_law_5 : Ob.FS := (Ob.sFor (Ob.pL (iT (eTup (aCons (e2 fSub (eC (.int 0)) (eC (.int 1))) (aCons (eCall fLen (aCons (eVar 4) aNil)) (aCons (eC .none) (aCons (eC (.bool true)) (aCons (eC (.str "0")) aNil)))))))) (Ob.gSet 12) lp_law_1)
def q_law_6 : Ob.FS := (Ob.sIf (Ob.asB (Ob.e2 fNe (Ht.eTold 0 "law" [("InvalidPlace", "place value"), ("UnknownEnvelope", "unknown value")] (Ob.eMeth [("Plan", F_Plan_move)] "move" 2 (Ob.eVar 2) (Ob.pL (aCons (eC (.str "zoe")) (aCons (eC .none) aNil))))) (Ob.pE (eTup (aCons (eC .none) (aCons (eC (.str "unknown value")) aNil)))))) (Ob.sRet (Ob.pE (eC (.bool false)))) Ob.sNext)
def lp_law_2 : Ob.FS := (Ob.sSeq (Ob.sSet 7 (Ob.pE (e2 fIx (eVar 4) (e2 fMod (e2 fIx (eVar 3) (e2 fAdd (eC (.int 20)) (eVar 6))) (eCall fLen (aCons (eVar 4) aNil))))))
    (Ob.sSeq (Ob.sSet 9 (Ob.pE (e2 fMod (e2 fIx (eVar 3) (e2 fAdd (eC (.int 30)) (eVar 6))) (eCall fLen (aCons (eVar 4) aNil)))))
    (Ob.sSeq (Ob.sOwn 10 lc_law_1) (Ob.sFrz 10 (Ob.sSeq (Ob.sSet 11 (Ob.eDict (Ob.eL lc_law_2)))
    (Ob.sSeq q_law_2
    (Ob.sSeq q_law_3
    (Ob.sSeq q_law_5
    q_law_6))))))))
def q_law_7 : Ob.FS := (Ob.sIf (Ob.tNotF (Ob.asB (Ob.eG F__law_exchanged_alike 3 (Ob.pL (aCons (eVar 3) (aCons (eVar 4) (aCons (eVar 5) aNil))))))) (Ob.sRet (Ob.pE (eC (.bool false)))) Ob.sNext)
def lp_law_3 : Ob.FS := (Ob.sSeq (Ob.sSet 3 (Ob.pE (eL (lCallF F__law_digits (aCons (eVar 0) (aCons (eVar 1) (aCons (eC (.int 90)) (aCons (eC (.int 27720)) aNil))))))))
    (Ob.sSeq q_law_0
    (Ob.sSeq (Ob.sOwn 5 (Ob.pL (lLst aNil)))
    (Ob.sSeq (Ob.sFor (Ob.pL (iEn .l (aCons (eVar 4) aNil))) (Ob.gTup 2 (Ob.gsCons (Ob.gSet 6) (Ob.gsCons (Ob.gSet 7) Ob.gsNil))) lp_law_0)
    (Ob.sFrz 5 (Ob.sSeq (Ob.sSet 2 (Ob.eG F__law_plan 1 (Ob.aCons (Ob.eL lc_law_0) Ob.aNil)))
    (Ob.sSeq (Ob.sFor (Ob.pL (iR1 (aCons (eC (.int 6)) aNil))) (Ob.gSet 6) lp_law_2)
    q_law_7)))))))
def q_law_8 : Ob.FS := (Ob.sRet (Ob.e2 fEq (Ob.eProp [("Plan", F_Plan_names)] (Ob.eVar 2)) (Ob.pE (eTup (aCons (eC (.str "fun")) (aCons (eC (.str "rent")) (aCons (eC (.str "food")) aNil)))))))
def b_law : Ob.FS := (Ob.sSeq (Ob.sFor (Ob.pL (iR1 (aCons (eC (.int 8)) aNil))) (Ob.gSet 1) lp_law_3)
    (Ob.sSeq (Ob.sSet 2 (Ob.eCM F_Plan_read "Plan" 1 (Ob.pL (aCons (eC (.str "rent:50, food:30, fun:9")) aNil))))
    (Ob.sSeq (Ob.sDrop (Ob.eMeth [("Plan", F_Plan_move)] "move" 2 (Ob.eVar 2) (Ob.pL (aCons (eC (.str "fun")) (aCons (eC (.int 0)) aNil)))))
    q_law_8)))
def F_law : Ob.Fn := Ob.fnO 15 b_law
end Lw
namespace Lw
open PySem L2 Fi
/-! ### evaluation -/
theorem forD_step {g : PyData → En → Option En} {fb : FS} {d : PyData} {ds : List PyData} {env e1 e2 : En} {o : Option Out} (hg : g d env = some e1) (hb : fb e1 = some (.next e2)) (h : forD g fb ds e2 = o) : forD g fb (d :: ds) env = o := by
  simp only [forD, hg, hb, Option.bind_some, h]
/-- a loop by an invariant -/
theorem forD_inv {g : PyData → En → Option En} {fb : FS} (P : Nat → En → Prop) : ∀ (ds : List PyData) (k : Nat) (env : En), P k env →
    (∀ (i : Nat) (d : PyData) (e : En), ds[i]? = some d → P (k + i) e → ∃ e1 e2, g d e = some e1 ∧ fb e1 = some (.next e2) ∧ P (k + i + 1) e2) → ∃ e, forD g fb ds env = some (.next e) ∧ P (k + ds.length) e
  | [], k, env, h, _ => ⟨env, rfl, h⟩
  | d :: ds, k, env, h, hs => by
    obtain ⟨e1, e2, h1, h2, h3⟩ := hs 0 d env rfl h
    obtain ⟨e, q1, q2⟩ := forD_inv P ds (k + 1) e2 h3 fun i d' e hd hp => by
      have e0 : k + 1 + i = k + (i + 1) := by omega
      rw [e0] at hp ⊢
      exact hs (i + 1) d' e (by simpa using hd) hp
    refine ⟨e, forD_step h1 h2 q1, ?_⟩
    have e0 : k + (d :: ds).length = k + 1 + ds.length := by rw [List.length_cons]; omega
    rw [e0]
    exact q2
theorem fn_ret {n : Nat} {b : FS} {ds : List PyData} {d : PyData} (h : b (entry n ds) = some (.ret d)) : fnD n b ds = some (.val d) := by
  simp only [fnD, h]
theorem fn_retL {n : Nat} {b : FS} {ds l : List PyData} (h : b (entry n ds) = some (.retL l)) : fnD n b ds = some (.own l) := by
  simp only [fnD, h]
theorem fAdd_int (a b : Int) : fAdd (.int a) (.int b) = some (.int (a + b)) := rfl
theorem fMul_l {a b : Int} (h1 : -18446744073709551616 < a) (h2 : a < 18446744073709551616) : fMul (.int a) (.int b) = some (.int (a * b)) := by
  show (if _ then _ else _) = _
  exact if_pos (.inl ⟨h1, h2⟩)
theorem fMul_r {a b : Int} (h1 : -18446744073709551616 < b) (h2 : b < 18446744073709551616) : fMul (.int a) (.int b) = some (.int (a * b)) := by
  show (if _ then _ else _) = _
  exact if_pos (.inr ⟨h1, h2⟩)
theorem fDiv_ok {a b : Int} (h1 : 0 < b) (h2 : b < 1073741824) : fDiv (.int a) (.int b) = some (.int (a / b)) := by
  show (if _ then _ else _) = _
  exact if_pos ⟨h1, h2⟩
theorem fMod_ok {a b : Int} (h1 : 0 < b) : fMod (.int a) (.int b) = some (.int (a % b)) := by
  show (if _ then _ else _) = _
  exact if_pos h1
theorem fPow_ok {a b : Int} (h1 : 0 ≤ b) (h2 : b ≤ 1000000) (h3 : a.natAbs < 18446744073709551616) : fPow (.int a) (.int b) = some (.int (a ^ b.toNat)) := by
  show (if _ then _ else _) = _
  exact if_pos ⟨h1, h2, h3⟩
theorem fEq_int (a b : Int) : fEq (.int a) (.int b) = some (.bool (decide (a = b))) := rfl
theorem fEq_str (a b : Str) : fEq (.str a) (.str b) = some (.bool (decide (a = b))) := rfl
theorem fEq_bool (a b : Bool) : fEq (.bool a) (.bool b) = some (.bool (decide (a = b))) := rfl
theorem fNe_int (a b : Int) : fNe (.int a) (.int b) = some (.bool (!decide (a = b))) := rfl
theorem fNe_str (a b : Str) : fNe (.str a) (.str b) = some (.bool (!decide (a = b))) := rfl
theorem fNe_bool (a b : Bool) : fNe (.bool a) (.bool b) = some (.bool (!decide (a = b))) := rfl
theorem eqv_self {d : PyData} (h : SeqAt.shaped d = true) : PyData.eqv d d = true := SeqAt.eqv_refl d (SeqAt.canLay_of_shaped h)
theorem fNe_self {d : PyData} (h : SeqAt.shaped d = true) : fNe d d = some (.bool false) := by
  have e := eqv_self h
  cases d <;> simp_all [fNe]
theorem fEq_self {d : PyData} (h : SeqAt.shaped d = true) : fEq d d = some (.bool true) := by
  have e := eqv_self h
  cases d <;> simp_all [fEq]
theorem at_0 {x : PyData} {l : List PyData} : atI (x :: l) 0 = some x := atI_nat (j := 0) rfl
theorem at_1 {x y : PyData} {l : List PyData} : atI (x :: y :: l) 1 = some y := atI_nat (j := 1) rfl
theorem at_2 {x y z : PyData} {l : List PyData} : atI (x :: y :: z :: l) 2 = some z := atI_nat (j := 2) rfl
theorem at_get {l : List Int} {k : Nat} (h : k < l.length) : atI (l.map PyData.int) (k : Int) = some (.int (l.getD k 0)) := by
  refine atI_nat ?_
  rw [List.getElem?_map, List.getElem?_eq_getElem h, List.getD_eq_getElem?_getD, List.getElem?_eq_getElem h]
  rfl
theorem at_getZ {l : List Int} {z : Int} (h0 : 0 ≤ z) (h : z < l.length) : atI (l.map PyData.int) z = some (.int (l.getD z.toNat 0)) := by
  obtain ⟨k, rfl⟩ : ∃ k : Nat, z = k := ⟨z.toNat, by omega⟩
  rw [at_get (by omega), Int.toNat_natCast]
theorem cut_to {l : List PyData} {b : Nat} : cutD l none (some (b : Int)) = l.take b := by
  unfold cutD
  rw [HT.sIx_none, HT.sIx_nat, List.drop_zero, Nat.sub_zero]
  by_cases h : b ≤ l.length
  · rw [Nat.min_eq_left h]
  · rw [Nat.min_eq_right (by omega), List.take_length, List.take_of_length_le (by omega)]
theorem cut_from {l : List PyData} {a : Nat} : cutD l (some (a : Int)) none = l.drop a := by
  unfold cutD
  rw [HT.sIx_none, HT.sIx_nat]
  by_cases h : a ≤ l.length
  · rw [Nat.min_eq_left h, List.take_of_length_le (by rw [List.length_drop]; exact Nat.le_refl _)]
  · rw [Nat.min_eq_right (by omega), List.drop_of_length_le (Nat.le_refl _), List.drop_of_length_le (by omega), List.take_nil]
/-! ### rows -/
inductive Step where
  | pour (a : Int)
  | spend (i : Nat) (a : Int)
abbrev eT (l : List Int) : PyData := .tuple (l.map .int)
abbrev eStep (s : Step) : PyData := match s with
  | .pour a => .tuple [.str "pour", .int a]
  | .spend i a => .tuple [.str "spend", .int (i : Int), .int a]
abbrev eS (s : List Step) : PyData := .tuple (s.map eStep)
def eR : Option (List Int × Int) → PyData
  | none => .none
  | some r => .tuple [eT r.1, .int r.2]
theorem pour_spend : (("pour" : Str) = "spend") = False := by
  have : ¬ (("pour" : Str) = "spend") := by decide +kernel
  simp [this]
theorem spend_pour : (("spend" : Str) = "pour") = False := by
  have : ¬ (("spend" : Str) = "pour") := by decide +kernel
  simp [this]
def pourM : List Int → List Int → Int → List Int × Int
  | c :: cs, l :: ls, a => ((l + min a (c - l)) :: (pourM cs ls (a - min a (c - l))).1, (pourM cs ls (a - min a (c - l))).2)
  | _, _, a => ([], a)
def stepM (caps lv : List Int) : Step → Option (List Int × Int)
  | .pour a => some (pourM caps lv a)
  | .spend i a => if lv.getD i 0 < a then none else some (lv.set i (lv.getD i 0 - a), 0)
def runA (caps : List Int) : List Int → Int → List Step → Option (List Int × Int)
  | lv, x, [] => some (lv, x)
  | lv, x, s :: r => match stepM caps lv s with
    | none => none
    | some p => runA caps p.1 (x + p.2) r
abbrev runM (caps lv : List Int) (s : List Step) : Option (List Int × Int) := runA caps lv 0 s
/-- the levels fit the caps -/
def Lv : List Int → List Int → Prop
  | [], [] => True
  | c :: cs, l :: ls => 0 ≤ l ∧ l ≤ c ∧ Lv cs ls
  | _, _ => False
def StOk (n : Nat) : Step → Prop
  | .pour a => 0 ≤ a
  | .spend i a => i < n ∧ 0 ≤ a
theorem Lv.len : ∀ {cs ls : List Int}, Lv cs ls → cs.length = ls.length
  | [], [], _ => rfl
  | _ :: _, _ :: _, h => by rw [List.length_cons, List.length_cons, h.2.2.len]
  | [], _ :: _, h => h.elim
  | _ :: _, [], h => h.elim
theorem Lv.get : ∀ {cs ls : List Int} {i : Nat}, Lv cs ls → i < ls.length → 0 ≤ ls.getD i 0 ∧ ls.getD i 0 ≤ cs.getD i 0
  | c :: cs, l :: ls, 0, h, _ => ⟨h.1, h.2.1⟩
  | c :: cs, l :: ls, i + 1, h, hi => by
    have := h.2.2.get (i := i) (by simpa using hi)
    simpa using this
  | [], [], i, _, h => by simp at h
  | [], _ :: _, _, h, _ => h.elim
  | _ :: _, [], _, h, _ => h.elim
theorem Lv.set : ∀ {cs ls : List Int} {i : Nat} {v : Int}, Lv cs ls → 0 ≤ v → v ≤ cs.getD i 0 → Lv cs (ls.set i v)
  | c :: cs, l :: ls, 0, v, h, h0, h1 => ⟨h0, by simpa using h1, h.2.2⟩
  | c :: cs, l :: ls, i + 1, v, h, h0, h1 => ⟨h.1, h.2.1, h.2.2.set h0 (by simpa using h1)⟩
  | [], [], i, v, h, _, _ => h
  | [], _ :: _, _, _, h, _, _ => h.elim
  | _ :: _, [], _, _, h, _, _ => h.elim
theorem Lv.pour : ∀ {cs ls : List Int} {a : Int}, Lv cs ls → 0 ≤ a → Lv cs (pourM cs ls a).1 ∧ 0 ≤ (pourM cs ls a).2
  | [], [], a, h, h0 => ⟨trivial, h0⟩
  | c :: cs, l :: ls, a, h, h0 => by
    obtain ⟨h1, h2, h3⟩ := h
    have ih := h3.pour (a := a - min a (c - l)) (by omega)
    exact ⟨⟨by omega, by omega, ih.1⟩, ih.2⟩
  | [], _ :: _, _, h, _ => h.elim
  | _ :: _, [], _, h, _ => h.elim
theorem Lv.step {caps lv : List Int} {s : Step} {p : List Int × Int} (h : Lv caps lv) (hs : StOk caps.length s) (e : stepM caps lv s = some p) : Lv caps p.1 ∧ 0 ≤ p.2 := by
  cases s with
  | pour a =>
    cases e
    exact h.pour hs
  | spend i a =>
    simp only [stepM] at e
    split at e
    · cases e
    · cases e
      obtain ⟨h1, h2⟩ := h.get (i := i) (by rw [← h.len]; exact hs.1)
      have h3 : 0 ≤ a := hs.2
      exact ⟨h.set (by omega) (by omega), Int.le_refl _⟩
theorem Lv.run : ∀ {s : List Step} {caps lv : List Int} {x : Int} {p : List Int × Int}, Lv caps lv → (∀ t ∈ s, StOk caps.length t) → runA caps lv x s = some p → Lv caps p.1 ∧ x ≤ p.2
  | [], _, _, _, _, h, _, e => by
    cases e
    exact ⟨h, Int.le_refl _⟩
  | t :: s, caps, lv, x, p, h, hs, e => by
    unfold runA at e
    split at e
    · cases e
    · rename_i q hq
      obtain ⟨h1, h2⟩ := h.step (hs t (by simp)) hq
      obtain ⟨h3, h4⟩ := Lv.run h1 (fun u hu => hs u (by simp [hu])) e
      exact ⟨h3, by omega⟩
/-! ### data that are compared -/
end Lw

namespace Lw
open PySem L2 Fi
theorem cell_ok (ns : List Int) (k : Nat) (hk : k ≤ 1000) (hl : ns.length ≤ 63) : ∃ c : Int, F__law_cell [.list (ns.map .int), .int k] = some (.val (.int c)) := by
  by_cases h1 : (k : Int) < (ns.length : Int)
  · have hg := at_get (l := ns) (k := k) (by omega)
    refine ⟨ns.getD k 0, fn_ret ?_⟩
    unfold b__law_cell
    simp only [sSeq, sSet, sOwn, sPar, sParL,  sIf, sRet, sRetL, sRetO, sDrop, sAug, sApp, sFrz, frz, sAsg, gSet, gsNil, gsCons, gTupF, Fi.gSub, sFor, iL, iT, iR1, iR2, iZ, iEn, itemsK, eVar, eC, Fi.e2, Fi.e1, asB, eChain, tAndF, tOrF, tNotF, eAnd, eOr, eNot, eIf, aNil, aCons, eTup, lLst, eL, eCall, lCall, eCallF, lCallF, eSlT, lSl, oNone, oSome, ownIx, ownLen, lLc, wipeE, pYes, sNext, fnD, entry, fAdd_int, fSub, fMul_l, fMul_r, fDiv_ok, fMod_ok, fPow_ok, fLt, fLe, fGt, fGe, fEq_int, fEq_str, fEq_bool, fNe_int, fNe_str, fNe_bool, isN, fIs, fIsNot, fIx, fNeg, fLen, fMin, fMax, fTuple, fList, fIntB, fSum, fAll, fAny, at_0, at_1, at_2, eT, eS, eStep, eR, getInts_map, Option.bind_some, Option.map_some, List.getElem?_cons_succ, List.getElem?_cons_zero, List.set_cons_succ, List.set_cons_zero, List.length_cons, List.length_nil, List.length_map, List.map_cons, List.map_nil, List.nil_append, List.cons_append, List.replicate, Nat.zero_add, Nat.reduceAdd, Nat.reduceSub, decide_true, decide_false, reduceIte, Nat.reduceLeDiff, Nat.reduceLT, Int.reduceLT, Int.reduceLE, Int.reduceNeg, Int.reducePow, and_self, or_self, and_true, true_and, or_true, true_or, Bool.not_true, Bool.not_false, pour_spend, spend_pour, h1, hg]
  · by_cases h2 : (ns.length : Int) = 0
    · have e : ns = [] := List.eq_nil_of_length_eq_zero (by omega)
      subst e
      have h3 : ¬ ((k : Int) < ((0 : Nat) : Int)) := by omega
      have h4 : (((0 : Nat) : Int) = 0) = True := by simp
      refine ⟨7919 * k + 101, fn_ret ?_⟩
      unfold b__law_cell
      simp only [sSeq, sSet, sOwn, sPar, sParL,  sIf, sRet, sRetL, sRetO, sDrop, sAug, sApp, sFrz, frz, sAsg, gSet, gsNil, gsCons, gTupF, Fi.gSub, sFor, iL, iT, iR1, iR2, iZ, iEn, itemsK, eVar, eC, Fi.e2, Fi.e1, asB, eChain, tAndF, tOrF, tNotF, eAnd, eOr, eNot, eIf, aNil, aCons, eTup, lLst, eL, eCall, lCall, eCallF, lCallF, eSlT, lSl, oNone, oSome, ownIx, ownLen, lLc, wipeE, pYes, sNext, fnD, entry, fAdd_int, fSub, fMul_l, fMul_r, fDiv_ok, fMod_ok, fPow_ok, fLt, fLe, fGt, fGe, fEq_int, fEq_str, fEq_bool, fNe_int, fNe_str, fNe_bool, isN, fIs, fIsNot, fIx, fNeg, fLen, fMin, fMax, fTuple, fList, fIntB, fSum, fAll, fAny, at_0, at_1, at_2, eT, eS, eStep, eR, getInts_map, Option.bind_some, Option.map_some, List.getElem?_cons_succ, List.getElem?_cons_zero, List.set_cons_succ, List.set_cons_zero, List.length_cons, List.length_nil, List.length_map, List.map_cons, List.map_nil, List.nil_append, List.cons_append, List.replicate, Nat.zero_add, Nat.reduceAdd, Nat.reduceSub, decide_true, decide_false, reduceIte, Nat.reduceLeDiff, Nat.reduceLT, Int.reduceLT, Int.reduceLE, Int.reduceNeg, Int.reducePow, and_self, or_self, and_true, true_and, or_true, true_or, Bool.not_true, Bool.not_false, pour_spend, spend_pour, h3, h4]
    · have hpos : 0 < (ns.length : Int) := by omega
      have hm0 := Int.emod_nonneg (k : Int) h2
      have hm1 := Int.emod_lt_of_pos (k : Int) hpos
      have hg := at_getZ (l := ns) hm0 hm1
      refine ⟨ns.getD ((k : Int) % (ns.length : Int)).toNat 0 % 1000003 + 7919 * k, fn_ret ?_⟩
      unfold b__law_cell
      simp only [sSeq, sSet, sOwn, sPar, sParL,  sIf, sRet, sRetL, sRetO, sDrop, sAug, sApp, sFrz, frz, sAsg, gSet, gsNil, gsCons, gTupF, Fi.gSub, sFor, iL, iT, iR1, iR2, iZ, iEn, itemsK, eVar, eC, Fi.e2, Fi.e1, asB, eChain, tAndF, tOrF, tNotF, eAnd, eOr, eNot, eIf, aNil, aCons, eTup, lLst, eL, eCall, lCall, eCallF, lCallF, eSlT, lSl, oNone, oSome, ownIx, ownLen, lLc, wipeE, pYes, sNext, fnD, entry, fAdd_int, fSub, fMul_l, fMul_r, fDiv_ok, fMod_ok, fPow_ok, fLt, fLe, fGt, fGe, fEq_int, fEq_str, fEq_bool, fNe_int, fNe_str, fNe_bool, isN, fIs, fIsNot, fIx, fNeg, fLen, fMin, fMax, fTuple, fList, fIntB, fSum, fAll, fAny, at_0, at_1, at_2, eT, eS, eStep, eR, getInts_map, Option.bind_some, Option.map_some, List.getElem?_cons_succ, List.getElem?_cons_zero, List.set_cons_succ, List.set_cons_zero, List.length_cons, List.length_nil, List.length_map, List.map_cons, List.map_nil, List.nil_append, List.cons_append, List.replicate, Nat.zero_add, Nat.reduceAdd, Nat.reduceSub, decide_true, decide_false, reduceIte, Nat.reduceLeDiff, Nat.reduceLT, Int.reduceLT, Int.reduceLE, Int.reduceNeg, Int.reducePow, and_self, or_self, and_true, true_and, or_true, true_or, Bool.not_true, Bool.not_false, pour_spend, spend_pour, h1, h2, hpos, hg]
def primesL : List PyData := [.int 2147483647, .int 2147483629, .int 2147483587, .int 2147483579, .int 2147483563, .int 2147483549, .int 2147483543, .int 2147483497]
theorem prime_at (m : Int) : ∃ p : Int, atI primesL (m % 8) = some (.int p) ∧ 0 < p ∧ p < 2147483648 := by
  have h0 := Int.emod_nonneg m (show (8 : Int) ≠ 0 by decide)
  have h1 := Int.emod_lt_of_pos m (show (0 : Int) < 8 by decide)
  generalize m % 8 = r at h0 h1
  have : r = 0 ∨ r = 1 ∨ r = 2 ∨ r = 3 ∨ r = 4 ∨ r = 5 ∨ r = 6 ∨ r = 7 := by omega
  rcases this with rfl | rfl | rfl | rfl | rfl | rfl | rfl | rfl
  · exact ⟨_, atI_nat (j := 0) rfl, by decide, by decide⟩
  · exact ⟨_, atI_nat (j := 1) rfl, by decide, by decide⟩
  · exact ⟨_, atI_nat (j := 2) rfl, by decide, by decide⟩
  · exact ⟨_, atI_nat (j := 3) rfl, by decide, by decide⟩
  · exact ⟨_, atI_nat (j := 4) rfl, by decide, by decide⟩
  · exact ⟨_, atI_nat (j := 5) rfl, by decide, by decide⟩
  · exact ⟨_, atI_nat (j := 6) rfl, by decide, by decide⟩
  · exact ⟨_, atI_nat (j := 7) rfl, by decide, by decide⟩
theorem digits_eval1 (S C x9 : Option Sl) (idx base cell rest p1 p2 p3 M k : Int) (acc prs : List PyData)
    (g1 : atI prs (k % 8) = some (.int p1)) (g2 : atI prs ((3 * k + idx) % 8) = some (.int p2)) (g3 : atI prs ((k + 5) % 8) = some (.int p3)) (a1 : 0 < p1) (a2 : 0 < p2) (a3 : 0 < p3)
    (m1 : -18446744073709551616 < cell % p1) (n1 : cell % p1 < 18446744073709551616) (m2 : -18446744073709551616 < k) (n2 : k < 18446744073709551616) (m3 : -18446744073709551616 < k + 1) (n3 : k + 1 < 18446744073709551616)
    (hM : (cell % p1 * (48271 + 2 * k * k) + 7919 * (k + 1) * (k + 1) + 104729 * idx) % p2 = M) (m4 : -18446744073709551616 < M) (m5 : M < 18446744073709551616) (ha : acc.length < 100000) (hb : 0 < base ∧ base < 1073741824) (hr : 0 < rest) :
    lp__law_digits_0 [S, some (.val (.int idx)), C, some (.val (.int base)), some (.val (.tuple prs)), some (.val (.int cell)), some (.val (.int rest)), some (.own acc), some (.val (.int k)), x9] = some (.next [S, some (.val (.int idx)), C, some (.val (.int base)), some (.val (.tuple prs)), some (.val (.int cell)), some (.val (.int (rest / base))), some (.own (acc ++ [.int (rest % base)])), some (.val (.int k)), some (.val (.int (rest)))]) := by
  simp only [sSeq, sSet, sOwn, sPar, sParL,  sIf, sRet, sRetL, sRetO, sDrop, sAug, sApp, sFrz, frz, sAsg, gSet, gsNil, gsCons, gTupF, Fi.gSub, sFor, iL, iT, iR1, iR2, iZ, iEn, itemsK, eVar, eC, Fi.e2, Fi.e1, asB, eChain, tAndF, tOrF, tNotF, eAnd, eOr, eNot, eIf, aNil, aCons, eTup, lLst, eL, eCall, lCall, eCallF, lCallF, eSlT, lSl, oNone, oSome, ownIx, ownLen, lLc, wipeE, pYes, sNext, fnD, entry, fAdd_int, fSub, fMul_l, fMul_r, fDiv_ok, fMod_ok, fPow_ok, fLt, fLe, fGt, fGe, fEq_int, fEq_str, fEq_bool, fNe_int, fNe_str, fNe_bool, isN, fIs, fIsNot, fIx, fNeg, fLen, fMin, fMax, fTuple, fList, fIntB, fSum, fAll, fAny, at_0, at_1, at_2, eT, eS, eStep, eR, getInts_map, Option.bind_some, Option.map_some, List.getElem?_cons_succ, List.getElem?_cons_zero, List.set_cons_succ, List.set_cons_zero, List.length_cons, List.length_nil, List.length_map, List.map_cons, List.map_nil, List.nil_append, List.cons_append, List.replicate, Nat.zero_add, Nat.reduceAdd, Nat.reduceSub, decide_true, decide_false, reduceIte, Nat.reduceLeDiff, Nat.reduceLT, Int.reduceLT, Int.reduceLE, Int.reduceNeg, Int.reducePow, and_self, or_self, and_true, true_and, or_true, true_or, Bool.not_true, Bool.not_false, pour_spend, spend_pour, lp__law_digits_0, g1, g2, g3, a1, a2, a3, m1, n1, m2, n2, m3, n3, hM, m4, m5, hr, ha, hb]
theorem digits_eval2 (S C x9 : Option Sl) (idx base cell rest p1 p2 p3 M k : Int) (acc prs : List PyData)
    (g1 : atI prs (k % 8) = some (.int p1)) (g2 : atI prs ((3 * k + idx) % 8) = some (.int p2)) (g3 : atI prs ((k + 5) % 8) = some (.int p3)) (a1 : 0 < p1) (a2 : 0 < p2) (a3 : 0 < p3)
    (m1 : -18446744073709551616 < cell % p1) (n1 : cell % p1 < 18446744073709551616) (m2 : -18446744073709551616 < k) (n2 : k < 18446744073709551616) (m3 : -18446744073709551616 < k + 1) (n3 : k + 1 < 18446744073709551616)
    (hM : (cell % p1 * (48271 + 2 * k * k) + 7919 * (k + 1) * (k + 1) + 104729 * idx) % p2 = M) (m4 : -18446744073709551616 < M) (m5 : M < 18446744073709551616) (ha : acc.length < 100000) (hb : 0 < base ∧ base < 1073741824) (hr : ¬ 0 < rest) :
    lp__law_digits_0 [S, some (.val (.int idx)), C, some (.val (.int base)), some (.val (.tuple prs)), some (.val (.int cell)), some (.val (.int rest)), some (.own acc), some (.val (.int k)), x9] = some (.next [S, some (.val (.int idx)), C, some (.val (.int base)), some (.val (.tuple prs)), some (.val (.int cell)), some (.val (.int (rest / base))), some (.own (acc ++ [.int (M * M * M % p3 % base)])), some (.val (.int k)), some (.val (.int (M * M * M % p3)))]) := by
  simp only [sSeq, sSet, sOwn, sPar, sParL,  sIf, sRet, sRetL, sRetO, sDrop, sAug, sApp, sFrz, frz, sAsg, gSet, gsNil, gsCons, gTupF, Fi.gSub, sFor, iL, iT, iR1, iR2, iZ, iEn, itemsK, eVar, eC, Fi.e2, Fi.e1, asB, eChain, tAndF, tOrF, tNotF, eAnd, eOr, eNot, eIf, aNil, aCons, eTup, lLst, eL, eCall, lCall, eCallF, lCallF, eSlT, lSl, oNone, oSome, ownIx, ownLen, lLc, wipeE, pYes, sNext, fnD, entry, fAdd_int, fSub, fMul_l, fMul_r, fDiv_ok, fMod_ok, fPow_ok, fLt, fLe, fGt, fGe, fEq_int, fEq_str, fEq_bool, fNe_int, fNe_str, fNe_bool, isN, fIs, fIsNot, fIx, fNeg, fLen, fMin, fMax, fTuple, fList, fIntB, fSum, fAll, fAny, at_0, at_1, at_2, eT, eS, eStep, eR, getInts_map, Option.bind_some, Option.map_some, List.getElem?_cons_succ, List.getElem?_cons_zero, List.set_cons_succ, List.set_cons_zero, List.length_cons, List.length_nil, List.length_map, List.map_cons, List.map_nil, List.nil_append, List.cons_append, List.replicate, Nat.zero_add, Nat.reduceAdd, Nat.reduceSub, decide_true, decide_false, reduceIte, Nat.reduceLeDiff, Nat.reduceLT, Int.reduceLT, Int.reduceLE, Int.reduceNeg, Int.reducePow, and_self, or_self, and_true, true_and, or_true, true_or, Bool.not_true, Bool.not_false, pour_spend, spend_pour, lp__law_digits_0, g1, g2, g3, a1, a2, a3, m1, n1, m2, n2, m3, n3, hM, m4, m5, hr, ha, hb]
theorem digits_body (S C x9 : Option Sl) (idx base cell rest : Int) (k : Nat) (acc : List PyData) (hk : k ≤ 1000) (hi : 0 ≤ idx ∧ idx ≤ 1000) (hb : 0 < base ∧ base < 1073741824) (ha : acc.length < 100000) : ∃ (d r : Int) (y9 : Option Sl), 0 ≤ d ∧ d < base ∧
    lp__law_digits_0 [S, some (.val (.int idx)), C, some (.val (.int base)), some (.val (.tuple primesL)), some (.val (.int cell)), some (.val (.int rest)), some (.own acc), some (.val (.int k)), x9]
      = some (.next [S, some (.val (.int idx)), C, some (.val (.int base)), some (.val (.tuple primesL)), some (.val (.int cell)), some (.val (.int r)), some (.own (acc ++ [.int d])), some (.val (.int k)), y9]) := by
  obtain ⟨p1, g1, a1, b1⟩ := prime_at k
  obtain ⟨p2, g2, a2, b2⟩ := prime_at (3 * k + idx)
  obtain ⟨p3, g3, a3, b3⟩ := prime_at ((k : Int) + 5)
  have c1 := Int.emod_nonneg cell (show p1 ≠ 0 by omega)
  have c2 := Int.emod_lt_of_pos cell a1
  have m1 : -18446744073709551616 < cell % p1 := by omega
  have n1 : cell % p1 < 18446744073709551616 := by omega
  have m2 : -18446744073709551616 < (k : Int) := by omega
  have n2 : (k : Int) < 18446744073709551616 := by omega
  have m3 : -18446744073709551616 < (k : Int) + 1 := by omega
  have n3 : (k : Int) + 1 < 18446744073709551616 := by omega
  generalize hM : (cell % p1 * (48271 + 2 * (k : Int) * k) + 7919 * ((k : Int) + 1) * ((k : Int) + 1) + 104729 * idx) % p2 = M
  have d1 : 0 ≤ M := by rw [← hM]; exact Int.emod_nonneg _ (by omega)
  have d2 : M < p2 := by rw [← hM]; exact Int.emod_lt_of_pos _ a2
  have m4 : -18446744073709551616 < M := by omega
  have m5 : M < 18446744073709551616 := by omega
  by_cases hr : 0 < rest
  · exact ⟨rest % base, rest / base, some (.val (.int rest)), Int.emod_nonneg _ (by omega), Int.emod_lt_of_pos _ hb.1, digits_eval1 S C x9 idx base cell rest p1 p2 p3 M k acc primesL g1 g2 g3 a1 a2 a3 m1 n1 m2 n2 m3 n3 hM m4 m5 ha hb hr⟩
  · exact ⟨M * M * M % p3 % base, rest / base, some (.val (.int (M * M * M % p3))), Int.emod_nonneg _ (by omega), Int.emod_lt_of_pos _ hb.1, digits_eval2 S C x9 idx base cell rest p1 p2 p3 M k acc primesL g1 g2 g3 a1 a2 a3 m1 n1 m2 n2 m3 n3 hM m4 m5 ha hb hr⟩
theorem range_get {n i : Nat} {d : PyData} (h : ((List.range n).map fun (i : Nat) => PyData.int (i : Int))[i]? = some d) : i < n ∧ d = .int (i : Int) := by
  rw [List.getElem?_map] at h
  by_cases hi : i < n
  · rw [List.getElem?_range hi] at h
    exact ⟨hi, (Option.some.inj h).symm⟩
  · rw [List.getElem?_eq_none (by rw [List.length_range]; omega)] at h
    cases h
theorem digits_ok (ns : List Int) (hl : ns.length ≤ 63) (k : Nat) (hk : k ≤ 1000) (n : Nat) (hn : n ≤ 1000) (base : Int) (hb : 0 < base ∧ base < 1073741824) : ∃ ds : List Int, ds.length = n ∧ (∀ d ∈ ds, 0 ≤ d ∧ d < base) ∧ F__law_digits [.list (ns.map .int), .int k, .int n, .int base] = some (.own (ds.map .int)) := by
  obtain ⟨cell, hcell⟩ := cell_ok ns k hk hl
  let S : Option Sl := some (.val (.list (ns.map .int)))
  let P : Nat → En → Prop := fun i e => ∃ (ds : List Int) (r : Int) (y8 y9 : Option Sl), ds.length = i ∧ (∀ d ∈ ds, 0 ≤ d ∧ d < base) ∧
    e = [S, some (.val (.int k)), some (.val (.int n)), some (.val (.int base)), some (.val (.tuple primesL)), some (.val (.int cell)), some (.val (.int r)), some (.own (ds.map .int)), y8, y9]
  have key : ∀ rest : Int, ∃ e, forD (gSet 8) lp__law_digits_0 ((List.range n).map fun (i : Nat) => PyData.int (i : Int)) [S, some (.val (.int k)), some (.val (.int n)), some (.val (.int base)), some (.val (.tuple primesL)), some (.val (.int cell)), some (.val (.int rest)), some (.own []), none, none] = some (.next e) ∧ P (0 + ((List.range n).map fun (i : Nat) => PyData.int (i : Int)).length) e := fun rest => by
    refine forD_inv P _ 0 _ ⟨[], rest, none, none, rfl, by simp, rfl⟩ fun i d e hd hp => ?_
    obtain ⟨hi, rfl⟩ := range_get hd
    obtain ⟨ds, r, y8, y9, h1, h2, rfl⟩ := hp
    obtain ⟨d, r', z9, q1, q2, q3⟩ := digits_body S (some (.val (.int n))) y9 k base cell r i (ds.map .int) (by omega) ⟨by omega, by omega⟩ hb (by rw [List.length_map]; omega)
    refine ⟨_, _, rfl, q3, ds ++ [d], r', _, z9, by rw [List.length_append, h1]; simp, fun x hx => ?_, by rw [List.map_append]; rfl⟩
    rcases List.mem_append.mp hx with h | h
    · exact h2 x h
    · rw [List.mem_singleton.mp h]
      exact ⟨q1, q2⟩
  have hn2 : -100000 < (n : Int) ∧ (n : Int) < 100000 := ⟨by omega, by omega⟩
  obtain ⟨e, f1, ds, r, y8, y9, h1, h2, rfl⟩ := key (if 1000000000000000000 ≤ cell then cell else 0)
  refine ⟨ds, by simpa using h1, h2, fn_retL ?_⟩
  unfold b__law_digits
  by_cases hc : 1000000000000000000 ≤ cell
  · rw [if_pos hc] at f1
    simp only [sSeq, sSet, sOwn, sPar, sParL,  sIf, sRet, sRetL, sRetO, sDrop, sAug, sApp, sFrz, frz, sAsg, gSet, gsNil, gsCons, gTupF, Fi.gSub, sFor, iL, iT, iR1, iR2, iZ, iEn, itemsK, eVar, eC, Fi.e2, Fi.e1, asB, eChain, tAndF, tOrF, tNotF, eAnd, eOr, eNot, eIf, aNil, aCons, eTup, lLst, eL, eCall, lCall, eCallF, lCallF, eSlT, lSl, oNone, oSome, ownIx, ownLen, lLc, wipeE, pYes, sNext, fnD, entry, fAdd_int, fSub, fMul_l, fMul_r, fDiv_ok, fMod_ok, fPow_ok, fLt, fLe, fGt, fGe, fEq_int, fEq_str, fEq_bool, fNe_int, fNe_str, fNe_bool, isN, fIs, fIsNot, fIx, fNeg, fLen, fMin, fMax, fTuple, fList, fIntB, fSum, fAll, fAny, at_0, at_1, at_2, eT, eS, eStep, eR, getInts_map, Option.bind_some, Option.map_some, List.getElem?_cons_succ, List.getElem?_cons_zero, List.set_cons_succ, List.set_cons_zero, List.length_cons, List.length_nil, List.length_map, List.map_cons, List.map_nil, List.nil_append, List.cons_append, List.replicate, Nat.zero_add, Nat.reduceAdd, Nat.reduceSub, decide_true, decide_false, reduceIte, Nat.reduceLeDiff, Nat.reduceLT, Int.reduceLT, Int.reduceLE, Int.reduceNeg, Int.reducePow, and_self, or_self, and_true, true_and, or_true, true_or, Bool.not_true, Bool.not_false, pour_spend, spend_pour, hcell, hc, hn2, Int.toNat_natCast, show ((10 : Int) ^ (18 : Int).toNat) = 1000000000000000000 from rfl, show (10 : Int).natAbs < 18446744073709551616 from by decide]
    simp only [primesL, S] at f1
    rw [f1]
    rfl
  · rw [if_neg hc] at f1
    simp only [sSeq, sSet, sOwn, sPar, sParL,  sIf, sRet, sRetL, sRetO, sDrop, sAug, sApp, sFrz, frz, sAsg, gSet, gsNil, gsCons, gTupF, Fi.gSub, sFor, iL, iT, iR1, iR2, iZ, iEn, itemsK, eVar, eC, Fi.e2, Fi.e1, asB, eChain, tAndF, tOrF, tNotF, eAnd, eOr, eNot, eIf, aNil, aCons, eTup, lLst, eL, eCall, lCall, eCallF, lCallF, eSlT, lSl, oNone, oSome, ownIx, ownLen, lLc, wipeE, pYes, sNext, fnD, entry, fAdd_int, fSub, fMul_l, fMul_r, fDiv_ok, fMod_ok, fPow_ok, fLt, fLe, fGt, fGe, fEq_int, fEq_str, fEq_bool, fNe_int, fNe_str, fNe_bool, isN, fIs, fIsNot, fIx, fNeg, fLen, fMin, fMax, fTuple, fList, fIntB, fSum, fAll, fAny, at_0, at_1, at_2, eT, eS, eStep, eR, getInts_map, Option.bind_some, Option.map_some, List.getElem?_cons_succ, List.getElem?_cons_zero, List.set_cons_succ, List.set_cons_zero, List.length_cons, List.length_nil, List.length_map, List.map_cons, List.map_nil, List.nil_append, List.cons_append, List.replicate, Nat.zero_add, Nat.reduceAdd, Nat.reduceSub, decide_true, decide_false, reduceIte, Nat.reduceLeDiff, Nat.reduceLT, Int.reduceLT, Int.reduceLE, Int.reduceNeg, Int.reducePow, and_self, or_self, and_true, true_and, or_true, true_or, Bool.not_true, Bool.not_false, pour_spend, spend_pour, hcell, hc, hn2, Int.toNat_natCast, show ((10 : Int) ^ (18 : Int).toNat) = 1000000000000000000 from rfl, show (10 : Int).natAbs < 18446744073709551616 from by decide]
    simp only [primesL, S] at f1
    rw [f1]
    rfl
end Lw

namespace Lw
open PySem L2 Fi
/-! ### objects -/
abbrev cI (i : Int) : Ob.D := .py (.int i)
abbrev cB (b : Bool) : Ob.D := .py (.bool b)
abbrev cT (z : Str) : Ob.D := .py (.str z)
theorem bq_label_limit : (("label" : Str) == "limit") = false := by decide +kernel
theorem qe_label_limit : (("label" : Str) = "limit") = False := eq_false (by decide +kernel)
theorem bq_label_held : (("label" : Str) == "held") = false := by decide +kernel
theorem qe_label_held : (("label" : Str) = "held") = False := eq_false (by decide +kernel)
theorem bq_limit_label : (("limit" : Str) == "label") = false := by decide +kernel
theorem qe_limit_label : (("limit" : Str) = "label") = False := eq_false (by decide +kernel)
theorem bq_limit_held : (("limit" : Str) == "held") = false := by decide +kernel
theorem qe_limit_held : (("limit" : Str) = "held") = False := eq_false (by decide +kernel)
theorem bq_held_label : (("held" : Str) == "label") = false := by decide +kernel
theorem qe_held_label : (("held" : Str) = "label") = False := eq_false (by decide +kernel)
theorem bq_held_limit : (("held" : Str) == "limit") = false := by decide +kernel
theorem qe_held_limit : (("held" : Str) = "limit") = False := eq_false (by decide +kernel)
theorem bq_put_label : (("put" : Str) == "label") = false := by decide +kernel
theorem qe_put_label : (("put" : Str) = "label") = False := eq_false (by decide +kernel)
theorem bq_put_limit : (("put" : Str) == "limit") = false := by decide +kernel
theorem qe_put_limit : (("put" : Str) = "limit") = False := eq_false (by decide +kernel)
theorem bq_put_held : (("put" : Str) == "held") = false := by decide +kernel
theorem qe_put_held : (("put" : Str) = "held") = False := eq_false (by decide +kernel)
theorem bq_free_label : (("free" : Str) == "label") = false := by decide +kernel
theorem qe_free_label : (("free" : Str) = "label") = False := eq_false (by decide +kernel)
theorem bq_free_limit : (("free" : Str) == "limit") = false := by decide +kernel
theorem qe_free_limit : (("free" : Str) = "limit") = False := eq_false (by decide +kernel)
theorem bq_free_held : (("free" : Str) == "held") = false := by decide +kernel
theorem qe_free_held : (("free" : Str) = "held") = False := eq_false (by decide +kernel)
theorem bq_take_label : (("take" : Str) == "label") = false := by decide +kernel
theorem qe_take_label : (("take" : Str) = "label") = False := eq_false (by decide +kernel)
theorem bq_take_limit : (("take" : Str) == "limit") = false := by decide +kernel
theorem qe_take_limit : (("take" : Str) = "limit") = False := eq_false (by decide +kernel)
theorem bq_take_held : (("take" : Str) == "held") = false := by decide +kernel
theorem qe_take_held : (("take" : Str) = "held") = False := eq_false (by decide +kernel)
abbrev kinds4 : List Str := ["Envelope"]
theorem mE : ("Envelope" : Str) ∈ kinds4 := by simp
theorem get_lt {st : Ob.Stor} {n : Nat} {o : Ob.Oj} (h : st[n]? = some o) : n < st.length := (List.getElem?_eq_some_iff.mp h).1
theorem set_get {st : Ob.Stor} {n : Nat} {o u : Ob.Oj} (h : st[n]? = some o) : (st.set n u)[n]? = some u := List.getElem?_set_self (get_lt h)
theorem set_ne {st : Ob.Stor} {n m : Nat} {u : Ob.Oj} (h : n ≠ m) : (st.set n u)[m]? = st[m]? := List.getElem?_set_ne h
theorem isint_ok {a lo hi : Int} (h1 : lo ≤ a) (h2 : a ≤ hi) : F_is_integer [.int a, .int lo, .int hi] = some (.val (.bool true)) := by
  simp only [sSeq, sSet, sOwn, sPar, sParL,  sIf, sRet, sRetL, sRetO, sDrop, sAug, sApp, sFrz, frz, sAsg, gSet, gsNil, gsCons, gTupF, Fi.gSub, sFor, iL, iT, iR1, iR2, iZ, iEn, itemsK, eVar, eC, Fi.e2, Fi.e1, asB, eChain, tAndF, tOrF, tNotF, eAnd, eOr, eNot, eIf, aNil, aCons, eTup, lLst, eL, eCall, lCall, eCallF, lCallF, eSlT, lSl, oNone, oSome, ownIx, ownLen, lLc, wipeE, pYes, sNext, fnD, entry, fAdd_int, fSub, fMul_l, fMul_r, fDiv_ok, fMod_ok, fPow_ok, fLt, fLe, fGt, fGe, fEq_int, fEq_str, fEq_bool, fNe_int, fNe_str, fNe_bool, isN, fIs, fIsNot, fIx, fNeg, fLen, fMin, fMax, fTuple, fList, fIntB, fSum, fAll, fAny, at_0, at_1, at_2, eT, eS, eStep, eR, getInts_map, Option.bind_some, Option.map_some, List.getElem?_cons_succ, List.getElem?_cons_zero, List.set_cons_succ, List.set_cons_zero, List.length_cons, List.length_nil, List.length_map, List.map_cons, List.map_nil, List.nil_append, List.cons_append, List.replicate, Nat.zero_add, Nat.reduceAdd, Nat.reduceSub, decide_true, decide_false, reduceIte, Nat.reduceLeDiff, Nat.reduceLT, Int.reduceLT, Int.reduceLE, Int.reduceNeg, Int.reducePow, and_self, or_self, and_true, true_and, or_true, true_or, Bool.not_true, Bool.not_false, pour_spend, spend_pour, F_is_integer, b_is_integer, eIsI, h1, h2]
  rfl
theorem amount_ok {a : Int} {st : Ob.Stor} (h1 : 0 ≤ a) (h2 : a ≤ 1000000000) : F_check_amount [cI a] st = some (.ok (.val (.py .none)) st) := by
  simp only [sSeq, sSet, sOwn, sPar, sParL,  sIf, sRet, sRetL, sRetO, sDrop, sAug, sApp, sFrz, frz, sAsg, gSet, gsNil, gsCons, gTupF, Fi.gSub, sFor, iL, iT, iR1, iR2, iZ, iEn, itemsK, eVar, eC, Fi.e2, Fi.e1, asB, eChain, tAndF, tOrF, tNotF, eAnd, eOr, eNot, eIf, aNil, aCons, eTup, lLst, eL, eCall, lCall, eCallF, lCallF, eSlT, lSl, oNone, oSome, ownIx, ownLen, lLc, wipeE, pYes, sNext, fnD, entry, fAdd_int, fSub, fMul_l, fMul_r, fDiv_ok, fMod_ok, fPow_ok, fLt, fLe, fGt, fGe, fEq_int, fEq_str, fEq_bool, fNe_int, fNe_str, fNe_bool, isN, fIs, fIsNot, fIx, fNeg, fLen, fMin, fMax, fTuple, fList, fIntB, fSum, fAll, fAny, at_0, at_1, at_2, eT, eS, eStep, eR, getInts_map, Option.bind_some, Option.map_some, List.getElem?_cons_succ, List.getElem?_cons_zero, List.set_cons_succ, List.set_cons_zero, List.length_cons, List.length_nil, List.length_map, List.map_cons, List.map_nil, List.nil_append, List.cons_append, List.replicate, Nat.zero_add, Nat.reduceAdd, Nat.reduceSub, decide_true, decide_false, reduceIte, Nat.reduceLeDiff, Nat.reduceLT, Int.reduceLT, Int.reduceLE, Int.reduceNeg, Int.reducePow, and_self, or_self, and_true, true_and, or_true, true_or, Bool.not_true, Bool.not_false, pour_spend, spend_pour, Ob.sSeq, Ob.sSet, Ob.sOwn, Ob.sIf, Ob.sRet, Ob.sRetL, Ob.sRetO, Ob.sRetN, Ob.sDrop, Ob.sApp, Ob.sAug, Ob.sFrz, Ob.frz, Ob.sAsg, Ob.sPar, Ob.sE, Ob.bnd, Ob.lft, Ob.gSet, Ob.gsNil, Ob.gsCons, Ob.gTup, Ob.gLst, Ob.sFor, Ob.iL, Ob.iT, Ob.eVar, Ob.e2, Ob.op2, Ob.asB, Ob.truD, Ob.eChain, Ob.tAndF, Ob.tOrF, Ob.tNotF, Ob.eAnd, Ob.eOr, Ob.eNot, Ob.eIf, Ob.aNil, Ob.aCons, Ob.eTup, Ob.mkT, Ob.lLst, Ob.eL, Ob.mkL, Ob.eCall, Ob.pyAll, Ob.pE, Ob.pL, Ob.pT, Ob.pv, Ob.pvS, Ob.eIx, Ob.ixD, Ob.D.lst?, Ob.D.tup?, Ob.lLc, Ob.lcD, Ob.wipeE, Ob.pYes, Ob.sNext, Ob.fnO, Ob.entry, Ob.goE, Ob.goL, Ob.goN, Ob.eG, Ob.lG, Ob.eP, Ob.eFld, Ob.fld, Ob.sFld, Ob.setFld, Ob.putD, Ob.sFldAug, Ob.clsOf, Ob.eMeth, Ob.eMeth0, Ob.pick, Ob.eProp, Ob.pickP, Ob.eMake, Ob.eMakeK, Ob.made, Ob.eSup, Ob.eSup0, Ob.eSupK, Ob.Mr.list, Ob.eIsC, Ob.isC, Ob.sRaise, Ob.eLenSet, Ob.lenSet, List.lookup_cons, List.lookup_nil, Bool.false_eq_true, List.set_set, beq_self_eq_true, Option.isNone_none, Option.map_none, Option.bind_none, F_check_amount, b_check_amount, isint_ok h1 h2]
section
variable {c : Str} (hc : c ∈ kinds4) {st : Ob.Stor} {n : Nat} {L : Ob.D} {cap h a g : Int} {r : List (Str × Ob.D)}
include hc
theorem put_ok (hs : st[n]? = some (.ins c (("label", L) :: ("limit", cI cap) :: ("held", cI h) :: r))) (hr : r.length < 900) (h1 : 0 ≤ a) (h2 : a ≤ 1000000000) (hm : h ≤ cap) :
    F_Envelope_put [.obj n, cI a] st = some (.ok (.val (cI (a - min a (cap - h)))) (st.set n (.ins c (("label", L) :: ("limit", cI cap) :: ("held", cI (h + min a (cap - h))) :: r)))) := by
  have hl : r.length + 1 + 1 + 1 < 1000 := by omega
  simp only [sSeq, sSet, sOwn, sPar, sParL,  sIf, sRet, sRetL, sRetO, sDrop, sAug, sApp, sFrz, frz, sAsg, gSet, gsNil, gsCons, gTupF, Fi.gSub, sFor, iL, iT, iR1, iR2, iZ, iEn, itemsK, eVar, eC, Fi.e2, Fi.e1, asB, eChain, tAndF, tOrF, tNotF, eAnd, eOr, eNot, eIf, aNil, aCons, eTup, lLst, eL, eCall, lCall, eCallF, lCallF, eSlT, lSl, oNone, oSome, ownIx, ownLen, lLc, wipeE, pYes, sNext, fnD, entry, fAdd_int, fSub, fMul_l, fMul_r, fDiv_ok, fMod_ok, fPow_ok, fLt, fLe, fGt, fGe, fEq_int, fEq_str, fEq_bool, fNe_int, fNe_str, fNe_bool, isN, fIs, fIsNot, fIx, fNeg, fLen, fMin, fMax, fTuple, fList, fIntB, fSum, fAll, fAny, at_0, at_1, at_2, eT, eS, eStep, eR, getInts_map, Option.bind_some, Option.map_some, List.getElem?_cons_succ, List.getElem?_cons_zero, List.set_cons_succ, List.set_cons_zero, List.length_cons, List.length_nil, List.length_map, List.map_cons, List.map_nil, List.nil_append, List.cons_append, List.replicate, Nat.zero_add, Nat.reduceAdd, Nat.reduceSub, decide_true, decide_false, reduceIte, Nat.reduceLeDiff, Nat.reduceLT, Int.reduceLT, Int.reduceLE, Int.reduceNeg, Int.reducePow, and_self, or_self, and_true, true_and, or_true, true_or, Bool.not_true, Bool.not_false, pour_spend, spend_pour, Ob.sSeq, Ob.sSet, Ob.sOwn, Ob.sIf, Ob.sRet, Ob.sRetL, Ob.sRetO, Ob.sRetN, Ob.sDrop, Ob.sApp, Ob.sAug, Ob.sFrz, Ob.frz, Ob.sAsg, Ob.sPar, Ob.sE, Ob.bnd, Ob.lft, Ob.gSet, Ob.gsNil, Ob.gsCons, Ob.gTup, Ob.gLst, Ob.sFor, Ob.iL, Ob.iT, Ob.eVar, Ob.e2, Ob.op2, Ob.asB, Ob.truD, Ob.eChain, Ob.tAndF, Ob.tOrF, Ob.tNotF, Ob.eAnd, Ob.eOr, Ob.eNot, Ob.eIf, Ob.aNil, Ob.aCons, Ob.eTup, Ob.mkT, Ob.lLst, Ob.eL, Ob.mkL, Ob.eCall, Ob.pyAll, Ob.pE, Ob.pL, Ob.pT, Ob.pv, Ob.pvS, Ob.eIx, Ob.ixD, Ob.D.lst?, Ob.D.tup?, Ob.lLc, Ob.lcD, Ob.wipeE, Ob.pYes, Ob.sNext, Ob.fnO, Ob.entry, Ob.goE, Ob.goL, Ob.goN, Ob.eG, Ob.lG, Ob.eP, Ob.eFld, Ob.fld, Ob.sFld, Ob.setFld, Ob.putD, Ob.sFldAug, Ob.clsOf, Ob.eMeth, Ob.eMeth0, Ob.pick, Ob.eProp, Ob.pickP, Ob.eMake, Ob.eMakeK, Ob.made, Ob.eSup, Ob.eSup0, Ob.eSupK, Ob.Mr.list, Ob.eIsC, Ob.isC, Ob.sRaise, Ob.eLenSet, Ob.lenSet, List.lookup_cons, List.lookup_nil, Bool.false_eq_true, List.set_set, beq_self_eq_true, Option.isNone_none, Option.map_none, Option.bind_none, F_Envelope_put, b_Envelope_put, amount_ok h1 h2, hs, hc, hl, set_get hs, bq_held_label, qe_held_label, bq_held_limit, qe_held_limit, bq_limit_label, qe_limit_label, bq_limit_held, qe_limit_held, bq_label_limit, qe_label_limit, bq_label_held, qe_label_held]
theorem free_ok (hs : st[n]? = some (.ins c (("label", L) :: ("limit", cI cap) :: ("held", cI h) :: r))) : F_Envelope_free [.obj n] st = some (.ok (.val (cI h)) st) := by
  simp only [sSeq, sSet, sOwn, sPar, sParL,  sIf, sRet, sRetL, sRetO, sDrop, sAug, sApp, sFrz, frz, sAsg, gSet, gsNil, gsCons, gTupF, Fi.gSub, sFor, iL, iT, iR1, iR2, iZ, iEn, itemsK, eVar, eC, Fi.e2, Fi.e1, asB, eChain, tAndF, tOrF, tNotF, eAnd, eOr, eNot, eIf, aNil, aCons, eTup, lLst, eL, eCall, lCall, eCallF, lCallF, eSlT, lSl, oNone, oSome, ownIx, ownLen, lLc, wipeE, pYes, sNext, fnD, entry, fAdd_int, fSub, fMul_l, fMul_r, fDiv_ok, fMod_ok, fPow_ok, fLt, fLe, fGt, fGe, fEq_int, fEq_str, fEq_bool, fNe_int, fNe_str, fNe_bool, isN, fIs, fIsNot, fIx, fNeg, fLen, fMin, fMax, fTuple, fList, fIntB, fSum, fAll, fAny, at_0, at_1, at_2, eT, eS, eStep, eR, getInts_map, Option.bind_some, Option.map_some, List.getElem?_cons_succ, List.getElem?_cons_zero, List.set_cons_succ, List.set_cons_zero, List.length_cons, List.length_nil, List.length_map, List.map_cons, List.map_nil, List.nil_append, List.cons_append, List.replicate, Nat.zero_add, Nat.reduceAdd, Nat.reduceSub, decide_true, decide_false, reduceIte, Nat.reduceLeDiff, Nat.reduceLT, Int.reduceLT, Int.reduceLE, Int.reduceNeg, Int.reducePow, and_self, or_self, and_true, true_and, or_true, true_or, Bool.not_true, Bool.not_false, pour_spend, spend_pour, Ob.sSeq, Ob.sSet, Ob.sOwn, Ob.sIf, Ob.sRet, Ob.sRetL, Ob.sRetO, Ob.sRetN, Ob.sDrop, Ob.sApp, Ob.sAug, Ob.sFrz, Ob.frz, Ob.sAsg, Ob.sPar, Ob.sE, Ob.bnd, Ob.lft, Ob.gSet, Ob.gsNil, Ob.gsCons, Ob.gTup, Ob.gLst, Ob.sFor, Ob.iL, Ob.iT, Ob.eVar, Ob.e2, Ob.op2, Ob.asB, Ob.truD, Ob.eChain, Ob.tAndF, Ob.tOrF, Ob.tNotF, Ob.eAnd, Ob.eOr, Ob.eNot, Ob.eIf, Ob.aNil, Ob.aCons, Ob.eTup, Ob.mkT, Ob.lLst, Ob.eL, Ob.mkL, Ob.eCall, Ob.pyAll, Ob.pE, Ob.pL, Ob.pT, Ob.pv, Ob.pvS, Ob.eIx, Ob.ixD, Ob.D.lst?, Ob.D.tup?, Ob.lLc, Ob.lcD, Ob.wipeE, Ob.pYes, Ob.sNext, Ob.fnO, Ob.entry, Ob.goE, Ob.goL, Ob.goN, Ob.eG, Ob.lG, Ob.eP, Ob.eFld, Ob.fld, Ob.sFld, Ob.setFld, Ob.putD, Ob.sFldAug, Ob.clsOf, Ob.eMeth, Ob.eMeth0, Ob.pick, Ob.eProp, Ob.pickP, Ob.eMake, Ob.eMakeK, Ob.made, Ob.eSup, Ob.eSup0, Ob.eSupK, Ob.Mr.list, Ob.eIsC, Ob.isC, Ob.sRaise, Ob.eLenSet, Ob.lenSet, List.lookup_cons, List.lookup_nil, Bool.false_eq_true, List.set_set, beq_self_eq_true, Option.isNone_none, Option.map_none, Option.bind_none, F_Envelope_free, b_Envelope_free, hs, hc, bq_held_label, qe_held_label, bq_held_limit, qe_held_limit]
theorem level_ok (hs : st[n]? = some (.ins c (("label", L) :: ("limit", cI cap) :: ("held", cI h) :: r))) : F_Envelope_level [.obj n] st = some (.ok (.val (cI h)) st) := by
  simp only [sSeq, sSet, sOwn, sPar, sParL,  sIf, sRet, sRetL, sRetO, sDrop, sAug, sApp, sFrz, frz, sAsg, gSet, gsNil, gsCons, gTupF, Fi.gSub, sFor, iL, iT, iR1, iR2, iZ, iEn, itemsK, eVar, eC, Fi.e2, Fi.e1, asB, eChain, tAndF, tOrF, tNotF, eAnd, eOr, eNot, eIf, aNil, aCons, eTup, lLst, eL, eCall, lCall, eCallF, lCallF, eSlT, lSl, oNone, oSome, ownIx, ownLen, lLc, wipeE, pYes, sNext, fnD, entry, fAdd_int, fSub, fMul_l, fMul_r, fDiv_ok, fMod_ok, fPow_ok, fLt, fLe, fGt, fGe, fEq_int, fEq_str, fEq_bool, fNe_int, fNe_str, fNe_bool, isN, fIs, fIsNot, fIx, fNeg, fLen, fMin, fMax, fTuple, fList, fIntB, fSum, fAll, fAny, at_0, at_1, at_2, eT, eS, eStep, eR, getInts_map, Option.bind_some, Option.map_some, List.getElem?_cons_succ, List.getElem?_cons_zero, List.set_cons_succ, List.set_cons_zero, List.length_cons, List.length_nil, List.length_map, List.map_cons, List.map_nil, List.nil_append, List.cons_append, List.replicate, Nat.zero_add, Nat.reduceAdd, Nat.reduceSub, decide_true, decide_false, reduceIte, Nat.reduceLeDiff, Nat.reduceLT, Int.reduceLT, Int.reduceLE, Int.reduceNeg, Int.reducePow, and_self, or_self, and_true, true_and, or_true, true_or, Bool.not_true, Bool.not_false, pour_spend, spend_pour, Ob.sSeq, Ob.sSet, Ob.sOwn, Ob.sIf, Ob.sRet, Ob.sRetL, Ob.sRetO, Ob.sRetN, Ob.sDrop, Ob.sApp, Ob.sAug, Ob.sFrz, Ob.frz, Ob.sAsg, Ob.sPar, Ob.sE, Ob.bnd, Ob.lft, Ob.gSet, Ob.gsNil, Ob.gsCons, Ob.gTup, Ob.gLst, Ob.sFor, Ob.iL, Ob.iT, Ob.eVar, Ob.e2, Ob.op2, Ob.asB, Ob.truD, Ob.eChain, Ob.tAndF, Ob.tOrF, Ob.tNotF, Ob.eAnd, Ob.eOr, Ob.eNot, Ob.eIf, Ob.aNil, Ob.aCons, Ob.eTup, Ob.mkT, Ob.lLst, Ob.eL, Ob.mkL, Ob.eCall, Ob.pyAll, Ob.pE, Ob.pL, Ob.pT, Ob.pv, Ob.pvS, Ob.eIx, Ob.ixD, Ob.D.lst?, Ob.D.tup?, Ob.lLc, Ob.lcD, Ob.wipeE, Ob.pYes, Ob.sNext, Ob.fnO, Ob.entry, Ob.goE, Ob.goL, Ob.goN, Ob.eG, Ob.lG, Ob.eP, Ob.eFld, Ob.fld, Ob.sFld, Ob.setFld, Ob.putD, Ob.sFldAug, Ob.clsOf, Ob.eMeth, Ob.eMeth0, Ob.pick, Ob.eProp, Ob.pickP, Ob.eMake, Ob.eMakeK, Ob.made, Ob.eSup, Ob.eSup0, Ob.eSupK, Ob.Mr.list, Ob.eIsC, Ob.isC, Ob.sRaise, Ob.eLenSet, Ob.lenSet, List.lookup_cons, List.lookup_nil, Bool.false_eq_true, List.set_set, beq_self_eq_true, Option.isNone_none, Option.map_none, Option.bind_none, F_Envelope_level, b_Envelope_level, hs, hc, bq_held_label, qe_held_label, bq_held_limit, qe_held_limit]
theorem init_ok {nm : Str} (hn : F_Envelope_is_name [.str nm] = some (.val (.bool true))) (hs : st[n]? = some (.ins c [])) (h1 : 1 ≤ cap) (h2 : cap ≤ 1000000) (h3 : 0 ≤ h) (h4 : h ≤ cap) :
    F_Envelope___init__ [.obj n, cT nm, cI cap, cI h] st = some (.ok (.val (.py .none)) (st.set n (.ins c [("label", cT nm), ("limit", cI cap), ("held", cI h)]))) := by
  simp only [sSeq, sSet, sOwn, sPar, sParL,  sIf, sRet, sRetL, sRetO, sDrop, sAug, sApp, sFrz, frz, sAsg, gSet, gsNil, gsCons, gTupF, Fi.gSub, sFor, iL, iT, iR1, iR2, iZ, iEn, itemsK, eVar, eC, Fi.e2, Fi.e1, asB, eChain, tAndF, tOrF, tNotF, eAnd, eOr, eNot, eIf, aNil, aCons, eTup, lLst, eL, eCall, lCall, eCallF, lCallF, eSlT, lSl, oNone, oSome, ownIx, ownLen, lLc, wipeE, pYes, sNext, fnD, entry, fAdd_int, fSub, fMul_l, fMul_r, fDiv_ok, fMod_ok, fPow_ok, fLt, fLe, fGt, fGe, fEq_int, fEq_str, fEq_bool, fNe_int, fNe_str, fNe_bool, isN, fIs, fIsNot, fIx, fNeg, fLen, fMin, fMax, fTuple, fList, fIntB, fSum, fAll, fAny, at_0, at_1, at_2, eT, eS, eStep, eR, getInts_map, Option.bind_some, Option.map_some, List.getElem?_cons_succ, List.getElem?_cons_zero, List.set_cons_succ, List.set_cons_zero, List.length_cons, List.length_nil, List.length_map, List.map_cons, List.map_nil, List.nil_append, List.cons_append, List.replicate, Nat.zero_add, Nat.reduceAdd, Nat.reduceSub, decide_true, decide_false, reduceIte, Nat.reduceLeDiff, Nat.reduceLT, Int.reduceLT, Int.reduceLE, Int.reduceNeg, Int.reducePow, and_self, or_self, and_true, true_and, or_true, true_or, Bool.not_true, Bool.not_false, pour_spend, spend_pour, Ob.sSeq, Ob.sSet, Ob.sOwn, Ob.sIf, Ob.sRet, Ob.sRetL, Ob.sRetO, Ob.sRetN, Ob.sDrop, Ob.sApp, Ob.sAug, Ob.sFrz, Ob.frz, Ob.sAsg, Ob.sPar, Ob.sE, Ob.bnd, Ob.lft, Ob.gSet, Ob.gsNil, Ob.gsCons, Ob.gTup, Ob.gLst, Ob.sFor, Ob.iL, Ob.iT, Ob.eVar, Ob.e2, Ob.op2, Ob.asB, Ob.truD, Ob.eChain, Ob.tAndF, Ob.tOrF, Ob.tNotF, Ob.eAnd, Ob.eOr, Ob.eNot, Ob.eIf, Ob.aNil, Ob.aCons, Ob.eTup, Ob.mkT, Ob.lLst, Ob.eL, Ob.mkL, Ob.eCall, Ob.pyAll, Ob.pE, Ob.pL, Ob.pT, Ob.pv, Ob.pvS, Ob.eIx, Ob.ixD, Ob.D.lst?, Ob.D.tup?, Ob.lLc, Ob.lcD, Ob.wipeE, Ob.pYes, Ob.sNext, Ob.fnO, Ob.entry, Ob.goE, Ob.goL, Ob.goN, Ob.eG, Ob.lG, Ob.eP, Ob.eFld, Ob.fld, Ob.sFld, Ob.setFld, Ob.putD, Ob.sFldAug, Ob.clsOf, Ob.eMeth, Ob.eMeth0, Ob.pick, Ob.eProp, Ob.pickP, Ob.eMake, Ob.eMakeK, Ob.made, Ob.eSup, Ob.eSup0, Ob.eSupK, Ob.Mr.list, Ob.eIsC, Ob.isC, Ob.sRaise, Ob.eLenSet, Ob.lenSet, List.lookup_cons, List.lookup_nil, Bool.false_eq_true, List.set_set, beq_self_eq_true, Option.isNone_none, Option.map_none, Option.bind_none, F_Envelope___init__, b_Envelope___init__, hn, isint_ok h1 h2, isint_ok h3 h4, hs, hc, set_get hs, bq_label_limit, qe_label_limit, bq_label_held, qe_label_held, bq_limit_label, qe_limit_label, bq_limit_held, qe_limit_held, bq_held_label, qe_held_label, bq_held_limit, qe_held_limit]
end
abbrev oE (L : Ob.D) (cap h : Int) : Ob.Oj := .ins "Envelope" [("label", L), ("limit", cI cap), ("held", cI h)]
section
variable {st : Ob.Stor} {cap h g : Int} {nm : Str}
theorem app_get {o : Ob.Oj} : (st ++ [o])[st.length]? = some o := by rw [List.getElem?_append_right (Nat.le_refl _), Nat.sub_self]; rfl
theorem app_set {o u : Ob.Oj} : (st ++ [o]).set st.length u = st ++ [u] := by
  rw [List.set_append_right _ _ (Nat.le_refl _), Nat.sub_self]; rfl
variable (hn : F_Envelope_is_name [.str nm] = some (.val (.bool true))) (h1 : 1 ≤ cap) (h2 : cap ≤ 1000000) (h3 : 0 ≤ h) (h4 : h ≤ cap)
include hn h1 h2 h3 h4
theorem in_E : F_Envelope___init__ [.obj st.length, cT nm, cI cap, cI h] (st ++ [.ins "Envelope" []]) = some (.ok (.val (.py .none)) (st ++ [oE (cT nm) cap h])) := by
  have e := init_ok mE hn (app_get (st := st)) h1 h2 h3 h4
  rwa [app_set] at e
end
abbrev V (d : Ob.D) : Option Ob.Sl := some (.val d)
theorem oseq {f g : Ob.FS} {env e : Ob.En} {st s : Ob.Stor} {o : Option Ob.Out} (h : f env st = some (.next e s)) (h2 : g e s = o) : Ob.sSeq f g env st = o := by
  simp only [Ob.sSeq, h, h2]
theorem dat_4 {a b c d e : Ob.D} {l : List Ob.D} : atI (a :: b :: c :: d :: e :: l) 4 = some e := atI_nat (j := 4) rfl
theorem dat_1 {a b : Ob.D} {l : List Ob.D} : atI (a :: b :: l) 1 = some b := atI_nat (j := 1) rfl
theorem dat_2 {a b c : Ob.D} {l : List Ob.D} : atI (a :: b :: c :: l) 2 = some c := atI_nat (j := 2) rfl
theorem dat_3 {a b c d : Ob.D} {l : List Ob.D} : atI (a :: b :: c :: d :: l) 3 = some d := atI_nat (j := 3) rfl
end Lw

namespace Lw
open PySem L2 Fi
/-! ### values that are no numbers -/
def isI (v : PyData) (lo hi : Int) : Bool := match v with
  | .int i => decide (lo ≤ i) && decide (i ≤ hi)
  | _ => false
def atm : PyData → Bool
  | .int _ => true
  | .bool _ => true
  | .none => true
  | .str _ => true
  | _ => false
theorem isint_gen {v : PyData} {lo hi : Int} (h : atm v = true) : F_is_integer [v, .int lo, .int hi] = some (.val (.bool (isI v lo hi))) := by
  cases v with
  | int i =>
    by_cases h1 : lo ≤ i
    · by_cases h2 : i ≤ hi
      · simp only [sSeq, sSet, sOwn, sPar, sParL,  sIf, sRet, sRetL, sRetO, sDrop, sAug, sApp, sFrz, frz, sAsg, gSet, gsNil, gsCons, gTupF, Fi.gSub, sFor, iL, iT, iR1, iR2, iZ, iEn, itemsK, eVar, eC, Fi.e2, Fi.e1, asB, eChain, tAndF, tOrF, tNotF, eAnd, eOr, eNot, eIf, aNil, aCons, eTup, lLst, eL, eCall, lCall, eCallF, lCallF, eSlT, lSl, oNone, oSome, ownIx, ownLen, lLc, wipeE, pYes, sNext, fnD, entry, fAdd_int, fSub, fMul_l, fMul_r, fDiv_ok, fMod_ok, fPow_ok, fLt, fLe, fGt, fGe, fEq_int, fEq_str, fEq_bool, fNe_int, fNe_str, fNe_bool, isN, fIs, fIsNot, fIx, fNeg, fLen, fMin, fMax, fTuple, fList, fIntB, fSum, fAll, fAny, at_0, at_1, at_2, eT, eS, eStep, eR, getInts_map, Option.bind_some, Option.map_some, List.getElem?_cons_succ, List.getElem?_cons_zero, List.set_cons_succ, List.set_cons_zero, List.length_cons, List.length_nil, List.length_map, List.map_cons, List.map_nil, List.nil_append, List.cons_append, List.replicate, Nat.zero_add, Nat.reduceAdd, Nat.reduceSub, decide_true, decide_false, reduceIte, Nat.reduceLeDiff, Nat.reduceLT, Int.reduceLT, Int.reduceLE, Int.reduceNeg, Int.reducePow, and_self, or_self, and_true, true_and, or_true, true_or, Bool.not_true, Bool.not_false, pour_spend, spend_pour, F_is_integer, b_is_integer, eIsI, h1, h2, isI, Bool.and_true]
        rfl
      · simp only [sSeq, sSet, sOwn, sPar, sParL,  sIf, sRet, sRetL, sRetO, sDrop, sAug, sApp, sFrz, frz, sAsg, gSet, gsNil, gsCons, gTupF, Fi.gSub, sFor, iL, iT, iR1, iR2, iZ, iEn, itemsK, eVar, eC, Fi.e2, Fi.e1, asB, eChain, tAndF, tOrF, tNotF, eAnd, eOr, eNot, eIf, aNil, aCons, eTup, lLst, eL, eCall, lCall, eCallF, lCallF, eSlT, lSl, oNone, oSome, ownIx, ownLen, lLc, wipeE, pYes, sNext, fnD, entry, fAdd_int, fSub, fMul_l, fMul_r, fDiv_ok, fMod_ok, fPow_ok, fLt, fLe, fGt, fGe, fEq_int, fEq_str, fEq_bool, fNe_int, fNe_str, fNe_bool, isN, fIs, fIsNot, fIx, fNeg, fLen, fMin, fMax, fTuple, fList, fIntB, fSum, fAll, fAny, at_0, at_1, at_2, eT, eS, eStep, eR, getInts_map, Option.bind_some, Option.map_some, List.getElem?_cons_succ, List.getElem?_cons_zero, List.set_cons_succ, List.set_cons_zero, List.length_cons, List.length_nil, List.length_map, List.map_cons, List.map_nil, List.nil_append, List.cons_append, List.replicate, Nat.zero_add, Nat.reduceAdd, Nat.reduceSub, decide_true, decide_false, reduceIte, Nat.reduceLeDiff, Nat.reduceLT, Int.reduceLT, Int.reduceLE, Int.reduceNeg, Int.reducePow, and_self, or_self, and_true, true_and, or_true, true_or, Bool.not_true, Bool.not_false, pour_spend, spend_pour, F_is_integer, b_is_integer, eIsI, h1, h2, isI, Bool.and_false]
        rfl
    · simp only [sSeq, sSet, sOwn, sPar, sParL,  sIf, sRet, sRetL, sRetO, sDrop, sAug, sApp, sFrz, frz, sAsg, gSet, gsNil, gsCons, gTupF, Fi.gSub, sFor, iL, iT, iR1, iR2, iZ, iEn, itemsK, eVar, eC, Fi.e2, Fi.e1, asB, eChain, tAndF, tOrF, tNotF, eAnd, eOr, eNot, eIf, aNil, aCons, eTup, lLst, eL, eCall, lCall, eCallF, lCallF, eSlT, lSl, oNone, oSome, ownIx, ownLen, lLc, wipeE, pYes, sNext, fnD, entry, fAdd_int, fSub, fMul_l, fMul_r, fDiv_ok, fMod_ok, fPow_ok, fLt, fLe, fGt, fGe, fEq_int, fEq_str, fEq_bool, fNe_int, fNe_str, fNe_bool, isN, fIs, fIsNot, fIx, fNeg, fLen, fMin, fMax, fTuple, fList, fIntB, fSum, fAll, fAny, at_0, at_1, at_2, eT, eS, eStep, eR, getInts_map, Option.bind_some, Option.map_some, List.getElem?_cons_succ, List.getElem?_cons_zero, List.set_cons_succ, List.set_cons_zero, List.length_cons, List.length_nil, List.length_map, List.map_cons, List.map_nil, List.nil_append, List.cons_append, List.replicate, Nat.zero_add, Nat.reduceAdd, Nat.reduceSub, decide_true, decide_false, reduceIte, Nat.reduceLeDiff, Nat.reduceLT, Int.reduceLT, Int.reduceLE, Int.reduceNeg, Int.reducePow, and_self, or_self, and_true, true_and, or_true, true_or, Bool.not_true, Bool.not_false, pour_spend, spend_pour, F_is_integer, b_is_integer, eIsI, h1, isI, Bool.false_and]
      rfl
  | bool b => rfl
  | none => rfl
  | str z => rfl
  | _ => cases h
end Lw

namespace Lw
open PySem L2 Fi
theorem ofor_inv {g : Ob.D → Ob.En → Option Ob.En} {fb : Ob.FS} (P : Nat → Ob.En → Ob.Stor → Prop) : ∀ (ds : List Ob.D) (k : Nat) (env : Ob.En) (st : Ob.Stor), P k env st →
    (∀ (i : Nat) (d : Ob.D) (e : Ob.En) (s : Ob.Stor), ds[i]? = some d → P (k + i) e s → ∃ e1 e2 s2, g d e = some e1 ∧ fb e1 s = some (.next e2 s2) ∧ P (k + i + 1) e2 s2) → ∃ e s, Ob.forD g fb ds env st = some (.next e s) ∧ P (k + ds.length) e s
  | [], k, env, st, h, _ => ⟨env, st, rfl, h⟩
  | d :: ds, k, env, st, h, hs => by
    obtain ⟨e1, e2, s2, h1, h2, h3⟩ := hs 0 d env st rfl h
    obtain ⟨e, s, q1, q2⟩ := ofor_inv P ds (k + 1) e2 s2 h3 fun i d' e s hd hp => by
      have e0 : k + 1 + i = k + (i + 1) := by omega
      rw [e0] at hp ⊢
      exact hs (i + 1) d' e s (by simpa using hd) hp
    refine ⟨e, s, ?_, ?_⟩
    · simp only [Ob.forD, h1, h2, Option.bind_some, q1]
    · have e0 : k + (d :: ds).length = k + 1 + ds.length := by rw [List.length_cons]; omega
      rw [e0]
      exact q2
theorem orange_get {n i : Nat} {d : Ob.D} (h : (((List.range n).map fun (i : Nat) => PyData.int (i : Int)).map Ob.D.py)[i]? = some d) : i < n ∧ d = cI (i : Int) := by
  rw [List.getElem?_map, List.getElem?_map] at h
  by_cases q : i < n
  · rw [List.getElem?_range q] at h
    cases h
    exact ⟨q, rfl⟩
  · rw [List.getElem?_eq_none (by rw [List.length_range]; omega)] at h
    cases h
end Lw

namespace Lw
open PySem L2 Fi
/-! ### plans -/
structure Ev where
  n : Nat
  κ : Nat
  nm : Str
  cap : Int
  h : Int
  g : Int
  d : Bool
abbrev Ev.oj (e : Ev) : Ob.Oj := oE (cT e.nm) e.cap e.h
def Ev.ok (st : Ob.Stor) (e : Ev) : Prop := e.κ = 0 ∧ st[e.n]? = some e.oj
abbrev Ev.o (e : Ev) : Ob.D := .obj e.n
abbrev EvsOk (st : Ob.Stor) (es : List Ev) : Prop := ∀ e ∈ es, e.ok st
abbrev oP (es : List Ev) (gone : Int) : Ob.Oj := .ins "Plan" [("row", .lst (es.map Ev.o)), ("gone", cI gone)]
theorem bq_row_gone : (("row" : Str) == "gone") = false := by decide +kernel
theorem qe_row_gone : (("row" : Str) = "gone") = False := eq_false (by decide +kernel)
theorem bq_gone_row : (("gone" : Str) == "row") = false := by decide +kernel
theorem qe_gone_row : (("gone" : Str) = "row") = False := eq_false (by decide +kernel)
theorem bq_envelope_row : (("envelope" : Str) == "row") = false := by decide +kernel
theorem qe_envelope_row : (("envelope" : Str) = "row") = False := eq_false (by decide +kernel)
theorem bq_envelope_gone : (("envelope" : Str) == "gone") = false := by decide +kernel
theorem qe_envelope_gone : (("envelope" : Str) = "gone") = False := eq_false (by decide +kernel)
theorem bq_pour_row : (("pour" : Str) == "row") = false := by decide +kernel
theorem qe_pour_row : (("pour" : Str) = "row") = False := eq_false (by decide +kernel)
theorem bq_pour_gone : (("pour" : Str) == "gone") = false := by decide +kernel
theorem qe_pour_gone : (("pour" : Str) = "gone") = False := eq_false (by decide +kernel)
theorem bq_move_row : (("move" : Str) == "row") = false := by decide +kernel
theorem qe_move_row : (("move" : Str) = "row") = False := eq_false (by decide +kernel)
theorem bq_move_gone : (("move" : Str) == "gone") = false := by decide +kernel
theorem qe_move_gone : (("move" : Str) = "gone") = False := eq_false (by decide +kernel)
theorem pyAll_on {es : List Ev} (h : es ≠ []) : Ob.pyAll (es.map Ev.o) = none := by
  cases es with
  | nil => exact absurd rfl h
  | cons e es => rfl
theorem mkL_o {es : List Ev} (h : es ≠ []) : Ob.mkL (es.map Ev.o) = .lst (es.map Ev.o) := by
  cases es with
  | nil => exact absurd rfl h
  | cons e es => rfl
theorem mkT_o {es : List Ev} (h : es ≠ []) : Ob.mkT (es.map Ev.o) = .tup (es.map Ev.o) := by
  cases es with
  | nil => exact absurd rfl h
  | cons e es => rfl
theorem getStrs_map : ∀ ns : List Str, Ob.getStrs (ns.map .str) = some ns
  | [] => rfl
  | n :: ns => by
    show (Ob.getStrs (ns.map .str)).map (n :: ·) = some (n :: ns)
    rw [getStrs_map ns]
    rfl
theorem firsts_nd {ns : List Str} (h : ns.Nodup) : ∀ i, i ≤ ns.length → Ob.firsts (fun i => ns.getD i "") i = ns.take i
  | 0, _ => rfl
  | i + 1, hi => by
    have ih := firsts_nd h i (by omega)
    have hlt : i < ns.length := by omega
    show Ob.ddup (Ob.firsts (fun i => ns.getD i "") i) (ns.getD i "") = _
    rw [ih, List.take_add_one, List.getElem?_eq_getElem hlt, List.getD_eq_getElem?_getD, List.getElem?_eq_getElem hlt]
    unfold Ob.ddup
    rw [if_neg]
    · rfl
    · intro z
      rw [List.any_eq_true] at z
      obtain ⟨x, hx, e⟩ := z
      have e' : x = ns[i] := by simpa using e
      subst e'
      obtain ⟨j, hj, e2⟩ := List.mem_iff_getElem.mp hx
      rw [List.length_take] at hj
      rw [List.getElem_take] at e2
      have := Ob.nodup_inj h (by omega) hlt e2
      omega
theorem distS_nd {ns : List Str} (h : ns.Nodup) : Ob.distS ns = ns.length := by
  unfold Ob.distS
  rw [firsts_nd h _ (Nat.le_refl _), List.take_length]
section
variable {st : Ob.Stor} {n m p κ : Nat} {L : Ob.D} {cap h g gone : Int} {d : Bool} {es : List Ev}
theorem kpick {F : Ob.Fn} (ho : st[n]? = some (oE L cap h)) : Ob.pickP [("Envelope", F)] (.obj n) st = some F := by
  simp only [Ob.pickP, ho, List.lookup_cons, beq_self_eq_true]
theorem klev (ho : st[n]? = some (oE L cap h)) : F_Envelope_level [.obj n] st = some (.ok (.val (cI h)) st) := level_ok mE ho
theorem kname (ho : st[n]? = some (oE L cap h)) : F_Envelope_name [.obj n] st = some (.ok (.val L) st) := by
  simp only [sSeq, sSet, sOwn, sPar, sParL,  sIf, sRet, sRetL, sRetO, sDrop, sAug, sApp, sFrz, frz, sAsg, gSet, gsNil, gsCons, gTupF, Fi.gSub, sFor, iL, iT, iR1, iR2, iZ, iEn, itemsK, eVar, eC, Fi.e2, Fi.e1, asB, eChain, tAndF, tOrF, tNotF, eAnd, eOr, eNot, eIf, aNil, aCons, eTup, lLst, eL, eCall, lCall, eCallF, lCallF, eSlT, lSl, oNone, oSome, ownIx, ownLen, lLc, wipeE, pYes, sNext, fnD, entry, fAdd_int, fSub, fMul_l, fMul_r, fDiv_ok, fMod_ok, fPow_ok, fLt, fLe, fGt, fGe, fEq_int, fEq_str, fEq_bool, fNe_int, fNe_str, fNe_bool, isN, fIs, fIsNot, fIx, fNeg, fLen, fMin, fMax, fTuple, fList, fIntB, fSum, fAll, fAny, at_0, at_1, at_2, eT, eS, eStep, eR, getInts_map, Option.bind_some, Option.map_some, List.getElem?_cons_succ, List.getElem?_cons_zero, List.set_cons_succ, List.set_cons_zero, List.length_cons, List.length_nil, List.length_map, List.map_cons, List.map_nil, List.nil_append, List.cons_append, List.replicate, Nat.zero_add, Nat.reduceAdd, Nat.reduceSub, decide_true, decide_false, reduceIte, Nat.reduceLeDiff, Nat.reduceLT, Int.reduceLT, Int.reduceLE, Int.reduceNeg, Int.reducePow, and_self, or_self, and_true, true_and, or_true, true_or, Bool.not_true, Bool.not_false, pour_spend, spend_pour, Ob.sSeq, Ob.sSet, Ob.sOwn, Ob.sIf, Ob.sRet, Ob.sRetL, Ob.sRetO, Ob.sRetN, Ob.sDrop, Ob.sApp, Ob.sAug, Ob.sFrz, Ob.frz, Ob.sAsg, Ob.sPar, Ob.sE, Ob.bnd, Ob.lft, Ob.gSet, Ob.gsNil, Ob.gsCons, Ob.gTup, Ob.gLst, Ob.sFor, Ob.iL, Ob.iT, Ob.eVar, Ob.e2, Ob.op2, Ob.asB, Ob.truD, Ob.eChain, Ob.tAndF, Ob.tOrF, Ob.tNotF, Ob.eAnd, Ob.eOr, Ob.eNot, Ob.eIf, Ob.aNil, Ob.aCons, Ob.eTup, Ob.mkT, Ob.lLst, Ob.eL, Ob.mkL, Ob.eCall, Ob.pyAll, Ob.pE, Ob.pL, Ob.pT, Ob.pv, Ob.pvS, Ob.eIx, Ob.ixD, Ob.D.lst?, Ob.D.tup?, Ob.lLc, Ob.lcD, Ob.wipeE, Ob.pYes, Ob.sNext, Ob.fnO, Ob.entry, Ob.goE, Ob.goL, Ob.goN, Ob.eG, Ob.lG, Ob.eP, Ob.eFld, Ob.fld, Ob.sFld, Ob.setFld, Ob.putD, Ob.sFldAug, Ob.clsOf, Ob.eMeth, Ob.eMeth0, Ob.pick, Ob.eProp, Ob.pickP, Ob.eMake, Ob.eMakeK, Ob.made, Ob.eSup, Ob.eSup0, Ob.eSupK, Ob.Mr.list, Ob.eIsC, Ob.isC, Ob.sRaise, Ob.eLenSet, Ob.lenSet, List.lookup_cons, List.lookup_nil, Bool.false_eq_true, List.set_set, beq_self_eq_true, Option.isNone_none, Option.map_none, Option.bind_none, F_Envelope_name, b_Envelope_name, ho, List.mem_singleton,]
theorem kput_pick (ho : st[n]? = some (oE L cap h)) : Ob.pick [("Envelope", F_Envelope_put)] "put" (.obj n) st = some F_Envelope_put := by
  simp only [Ob.pick, ho, List.lookup_cons, List.lookup_nil, beq_self_eq_true, Option.isNone_none, reduceIte, bq_put_label, qe_put_label, bq_put_limit, qe_put_limit, bq_put_held, qe_put_held]
theorem ktake_pick (ho : st[n]? = some (oE L cap h)) : Ob.pick [("Envelope", F_Envelope_take)] "take" (.obj n) st = some F_Envelope_take := by
  simp only [Ob.pick, ho, List.lookup_cons, List.lookup_nil, beq_self_eq_true, Option.isNone_none, reduceIte, bq_take_label, qe_take_label, bq_take_limit, qe_take_limit, bq_take_held, qe_take_held]
theorem kfree_pick (ho : st[n]? = some (oE L cap h)) : Ob.pick [("Envelope", F_Envelope_free)] "free" (.obj n) st = some F_Envelope_free := by
  simp only [Ob.pick, ho, List.lookup_cons, List.lookup_nil, beq_self_eq_true, Option.isNone_none, reduceIte, bq_free_label, qe_free_label, bq_free_limit, qe_free_limit, bq_free_held, qe_free_held]
theorem kput {a : Int} (ho : st[n]? = some (oE L cap h)) (h1 : 0 ≤ a) (h2 : a ≤ 1000000000) (hm : h ≤ cap) : F_Envelope_put [.obj n, cI a] st = some (.ok (.val (cI (a - min a (cap - h)))) (st.set n (oE L cap (h + min a (cap - h))))) := put_ok (r := []) mE ho (by simp) h1 h2 hm
theorem ktake {a : Int} (ho : st[n]? = some (oE L cap h)) (h1 : 0 ≤ a) (h2 : a ≤ 1000000000) (hf : a ≤ h) : F_Envelope_take [.obj n, cI a] st = some (.ok (.val (.py .none)) (st.set n (oE L cap (h - a)))) := by
  have p1 := kfree_pick ho
  have p2 := free_ok (r := []) mE ho
  have hf' : ¬ h < a := by omega
  simp only [sSeq, sSet, sOwn, sPar, sParL,  sIf, sRet, sRetL, sRetO, sDrop, sAug, sApp, sFrz, frz, sAsg, gSet, gsNil, gsCons, gTupF, Fi.gSub, sFor, iL, iT, iR1, iR2, iZ, iEn, itemsK, eVar, eC, Fi.e2, Fi.e1, asB, eChain, tAndF, tOrF, tNotF, eAnd, eOr, eNot, eIf, aNil, aCons, eTup, lLst, eL, eCall, lCall, eCallF, lCallF, eSlT, lSl, oNone, oSome, ownIx, ownLen, lLc, wipeE, pYes, sNext, fnD, entry, fAdd_int, fSub, fMul_l, fMul_r, fDiv_ok, fMod_ok, fPow_ok, fLt, fLe, fGt, fGe, fEq_int, fEq_str, fEq_bool, fNe_int, fNe_str, fNe_bool, isN, fIs, fIsNot, fIx, fNeg, fLen, fMin, fMax, fTuple, fList, fIntB, fSum, fAll, fAny, at_0, at_1, at_2, eT, eS, eStep, eR, getInts_map, Option.bind_some, Option.map_some, List.getElem?_cons_succ, List.getElem?_cons_zero, List.set_cons_succ, List.set_cons_zero, List.length_cons, List.length_nil, List.length_map, List.map_cons, List.map_nil, List.nil_append, List.cons_append, List.replicate, Nat.zero_add, Nat.reduceAdd, Nat.reduceSub, decide_true, decide_false, reduceIte, Nat.reduceLeDiff, Nat.reduceLT, Int.reduceLT, Int.reduceLE, Int.reduceNeg, Int.reducePow, and_self, or_self, and_true, true_and, or_true, true_or, Bool.not_true, Bool.not_false, pour_spend, spend_pour, Ob.sSeq, Ob.sSet, Ob.sOwn, Ob.sIf, Ob.sRet, Ob.sRetL, Ob.sRetO, Ob.sRetN, Ob.sDrop, Ob.sApp, Ob.sAug, Ob.sFrz, Ob.frz, Ob.sAsg, Ob.sPar, Ob.sE, Ob.bnd, Ob.lft, Ob.gSet, Ob.gsNil, Ob.gsCons, Ob.gTup, Ob.gLst, Ob.sFor, Ob.iL, Ob.iT, Ob.eVar, Ob.e2, Ob.op2, Ob.asB, Ob.truD, Ob.eChain, Ob.tAndF, Ob.tOrF, Ob.tNotF, Ob.eAnd, Ob.eOr, Ob.eNot, Ob.eIf, Ob.aNil, Ob.aCons, Ob.eTup, Ob.mkT, Ob.lLst, Ob.eL, Ob.mkL, Ob.eCall, Ob.pyAll, Ob.pE, Ob.pL, Ob.pT, Ob.pv, Ob.pvS, Ob.eIx, Ob.ixD, Ob.D.lst?, Ob.D.tup?, Ob.lLc, Ob.lcD, Ob.wipeE, Ob.pYes, Ob.sNext, Ob.fnO, Ob.entry, Ob.goE, Ob.goL, Ob.goN, Ob.eG, Ob.lG, Ob.eP, Ob.eFld, Ob.fld, Ob.sFld, Ob.setFld, Ob.putD, Ob.sFldAug, Ob.clsOf, Ob.eMeth, Ob.eMeth0, Ob.eProp, Ob.eMake, Ob.eMakeK, Ob.made, Ob.eSup, Ob.eSup0, Ob.eSupK, Ob.Mr.list, Ob.eIsC, Ob.isC, Ob.sRaise, Ob.eLenSet, Ob.lenSet, List.lookup_cons, List.lookup_nil, Bool.false_eq_true, List.set_set, beq_self_eq_true, Option.isNone_none, Option.map_none, Option.bind_none, F_Envelope_take, b_Envelope_take, amount_ok h1 h2, p1, p2, hf', ho, List.mem_singleton, bq_held_label, qe_held_label, bq_held_limit, qe_held_limit, bq_limit_label, qe_limit_label, bq_limit_held, qe_limit_held, bq_label_limit, qe_label_limit, bq_label_held, qe_label_held]
theorem lcD_yes {g : Ob.D → Ob.En → Option Ob.En} {f : Ob.F Ob.D} {env e1 : Ob.En} {dd x : Ob.D} {ds out : List Ob.D} {s1 s2 : Ob.Stor} (hg : g dd env = some e1) (hf : f e1 st = some (.ok x s1)) (ht : Ob.lcD g Ob.pYes f env ds s1 = some (out, s2)) : Ob.lcD g Ob.pYes f env (dd :: ds) st = some (x :: out, s2) := by
  rw [Ob.lcD, hg, Option.bind_some, show Ob.pYes e1 st = some (.ok true st) from rfl]
  dsimp only
  rw [hf]
  dsimp only
  rw [ht]
  rfl
theorem lLc_ok {fi : Ob.F (List Ob.D)} {g : Ob.D → Ob.En → Option Ob.En} {pp : Ob.F Bool} {f : Ob.F Ob.D} {vs : List Nat} {env : Ob.En} {ds out : List Ob.D} {s1 s2 : Ob.Stor} (h1 : fi env st = some (.ok ds s1)) (hl : ds.length < 100000) (h2 : Ob.lcD g pp f (Ob.wipeE env vs) ds s1 = some (out, s2)) : Ob.lLc fi g pp f vs env st = some (.ok out s2) := by
  unfold Ob.lLc Ob.bnd
  rw [h1]
  dsimp only
  rw [if_pos hl, h2]
  rfl
/-- a property of all -/
theorem lc_row {F : Ob.Fn} {i : Nat} {v : Ev → PyData} {env : Ob.En} (hi : i < env.length) : ∀ {es : List Ev}, (∀ e ∈ es, e.ok st ∧ F [.obj e.n] st = some (.ok (.val (.py (v e))) st)) →
    Ob.lcD (Ob.gSet i) Ob.pYes (Ob.eProp [("Envelope", F)] (Ob.eVar i)) env (es.map Ev.o) st = some ((es.map v).map Ob.D.py, st)
  | [], _ => rfl
  | e :: es, hh => by
    obtain ⟨⟨h1, h2⟩, h3⟩ := hh e (List.mem_cons_self ..)
    have ih := lc_row (F := F) (v := v) (env := env) hi (es := es) fun e' he => hh e' (List.mem_cons_of_mem _ he)
    have e1 : (env.set i (some (Ob.Sl.val (Ob.D.obj e.n))))[i]? = some (some (.val (.obj e.n))) := List.getElem?_set_self hi
    have e2 := kpick (F := F) h2
    exact lcD_yes rfl (by simp only [Ob.eProp, Ob.bnd, Ob.eVar, e1, e2, Ob.goN, Ob.goE, h3]) ih
theorem lc_int {F : Ob.Fn} {i : Nat} {v : Ev → Int} {env : Ob.En} (hi : i < env.length) (hh : ∀ e ∈ es, e.ok st ∧ F [.obj e.n] st = some (.ok (.val (cI (v e))) st)) :
    Ob.lcD (Ob.gSet i) Ob.pYes (Ob.eProp [("Envelope", F)] (Ob.eVar i)) env (es.map Ev.o) st = some (((es.map v).map PyData.int).map Ob.D.py, st) := by
  rw [lc_row (v := fun e => .int (v e)) hi hh, List.map_map (l := es) (f := v)]
  rfl
theorem lc_str {F : Ob.Fn} {i : Nat} {v : Ev → Str} {env : Ob.En} (hi : i < env.length) (hh : ∀ e ∈ es, e.ok st ∧ F [.obj e.n] st = some (.ok (.val (cT (v e))) st)) :
    Ob.lcD (Ob.gSet i) Ob.pYes (Ob.eProp [("Envelope", F)] (Ob.eVar i)) env (es.map Ev.o) st = some (((es.map v).map PyData.str).map Ob.D.py, st) := by
  rw [lc_row (v := fun e => .str (v e)) hi hh, List.map_map (l := es) (f := v)]
  rfl
theorem names_c {i : Nat} {env : Ob.En} (hok : EvsOk st es) (hi : i < env.length) : Ob.lcD (Ob.gSet i) Ob.pYes (Ob.eProp [("Envelope", F_Envelope_name)] (Ob.eVar i)) env (es.map Ev.o) st = some (((es.map (·.nm)).map PyData.str).map Ob.D.py, st) :=
  lc_str hi fun e he => ⟨hok e he, kname (hok e he).2⟩
theorem levels_c {i : Nat} {env : Ob.En} (hok : EvsOk st es) (hi : i < env.length) : Ob.lcD (Ob.gSet i) Ob.pYes (Ob.eProp [("Envelope", F_Envelope_level)] (Ob.eVar i)) env (es.map Ev.o) st = some (((es.map (·.h)).map PyData.int).map Ob.D.py, st) :=
  lc_int hi fun e he => ⟨hok e he, klev (hok e he).2⟩
def isT : List (Str × Bool) := [("Envelope", true), ("Plan", false)]
theorem kisC (ho : st[n]? = some (oE L cap h)) : Ob.isC [("Envelope", true), ("Plan", false)] (.obj n) st = some true := by
  simp only [Ob.isC, ho, List.lookup_cons, beq_self_eq_true]
theorem lc_isC {i : Nat} {env : Ob.En} (hi : i < env.length) : ∀ {es : List Ev}, EvsOk st es →
    Ob.lcD (Ob.gSet i) Ob.pYes (Ob.eIsC [("Envelope", true), ("Plan", false)] (Ob.eVar i)) env (es.map Ev.o) st = some ((es.map fun _ => PyData.bool true).map Ob.D.py, st)
  | [], _ => rfl
  | e :: es, hh => by
    have h2 := (hh e (List.mem_cons_self ..)).2
    have ih := lc_isC (env := env) hi (es := es) fun e' he => hh e' (List.mem_cons_of_mem _ he)
    have e1 : (env.set i (some (Ob.Sl.val (Ob.D.obj e.n))))[i]? = some (some (.val (.obj e.n))) := List.getElem?_set_self hi
    have e2 := kisC h2
    exact lcD_yes rfl (by simp only [Ob.eIsC, Ob.bnd, Ob.eVar, e1, e2, Option.map_some]) ih
theorem getB_true : ∀ es : List Ev, getBools (es.map fun _ => PyData.bool true) = some (es.map fun _ => true)
  | [] => rfl
  | e :: es => by simp [getBools, getB_true es]
theorem all_id (es : List Ev) : (es.map fun _ => true).all id = true := by simp
end
section
variable {st : Ob.Stor} {p : Nat} {gone : Int} {es : List Ev}
theorem pinit_ok (h1 : es ≠ []) (h6 : es.length ≤ 6) (hok : EvsOk st es) (hnd : (es.map (·.nm)).Nodup) (hp : st[p]? = some (.ins "Plan" [])) :
    F_Plan___init__ (.obj p :: es.map Ev.o) st = some (.ok (.val (.py .none)) (st.set p (oP es 0))) := by
  have l1 : 0 < es.length := List.length_pos_iff.mpr h1
  have l2 : (1 : Int) ≤ (es.length : Int) := by omega
  have l3 : (es.length : Int) ≤ 6 := by omega
  have l4 : es.length ≤ 100000 := by omega
  have l5 : es.length < 100000 := by omega
  have l6 : es.length ≤ 4000 := by omega
  have l7 : ¬ ((es.length : Int) < (es.length : Int)) := by omega
  have c1 : lc_Plan___init___0 [some (.val (.obj p)), some (.val (.tup (es.map Ev.o))), none, none] st = some (.ok ((es.map fun _ => PyData.bool true).map Ob.D.py) st) := lLc_ok (by simp only [sSeq, sSet, sOwn, sPar, sParL,  sIf, sRet, sRetL, sRetO, sDrop, sAug, sApp, sFrz, frz, sAsg, gSet, gsNil, gsCons, gTupF, Fi.gSub, sFor, iL, iT, iR1, iR2, iZ, iEn, itemsK, eVar, eC, Fi.e2, Fi.e1, asB, eChain, tAndF, tOrF, tNotF, eAnd, eOr, eNot, eIf, aNil, aCons, eTup, lLst, eL, eCall, lCall, eCallF, lCallF, eSlT, lSl, oNone, oSome, ownIx, ownLen, lLc, wipeE, pYes, sNext, fnD, entry, fAdd_int, fSub, fMul_l, fMul_r, fDiv_ok, fMod_ok, fPow_ok, fLt, fLe, fGt, fGe, fEq_int, fEq_str, fEq_bool, fNe_int, fNe_str, fNe_bool, isN, fIs, fIsNot, fIx, fNeg, fLen, fMin, fMax, fTuple, fList, fIntB, fSum, fAll, fAny, at_0, at_1, at_2, eT, eS, eStep, eR, getInts_map, Option.bind_some, Option.map_some, List.getElem?_cons_succ, List.getElem?_cons_zero, List.set_cons_succ, List.set_cons_zero, List.length_cons, List.length_nil, List.length_map, List.map_cons, List.map_nil, List.nil_append, List.cons_append, List.replicate, Nat.zero_add, Nat.reduceAdd, Nat.reduceSub, decide_true, decide_false, reduceIte, Nat.reduceLeDiff, Nat.reduceLT, Int.reduceLT, Int.reduceLE, Int.reduceNeg, Int.reducePow, and_self, or_self, and_true, true_and, or_true, true_or, Bool.not_true, Bool.not_false, pour_spend, spend_pour, Ob.sSeq, Ob.sSet, Ob.sOwn, Ob.sIf, Ob.sRet, Ob.sRetL, Ob.sRetO, Ob.sRetN, Ob.sDrop, Ob.sApp, Ob.sAug, Ob.sFrz, Ob.frz, Ob.sAsg, Ob.sPar, Ob.sE, Ob.bnd, Ob.lft, Ob.gSet, Ob.gsNil, Ob.gsCons, Ob.gTup, Ob.gLst, Ob.sFor, Ob.iL, Ob.iT, Ob.eVar, Ob.e2, Ob.op2, Ob.asB, Ob.truD, Ob.eChain, Ob.tAndF, Ob.tOrF, Ob.tNotF, Ob.eAnd, Ob.eOr, Ob.eNot, Ob.eIf, Ob.aNil, Ob.aCons, Ob.eTup, Ob.mkT, Ob.lLst, Ob.eL, Ob.mkL, Ob.eCall, Ob.pyAll, Ob.pE, Ob.pL, Ob.pT, Ob.pv, Ob.pvS, Ob.eIx, Ob.ixD, Ob.D.lst?, Ob.D.tup?, Ob.lLc, Ob.lcD, Ob.wipeE, Ob.pYes, Ob.sNext, Ob.fnO, Ob.entry, Ob.goE, Ob.goL, Ob.goN, Ob.eG, Ob.lG, Ob.eP, Ob.eFld, Ob.fld, Ob.sFld, Ob.setFld, Ob.putD, Ob.sFldAug, Ob.clsOf, Ob.eMeth, Ob.eMeth0, Ob.pick, Ob.eProp, Ob.pickP, Ob.eMake, Ob.eMakeK, Ob.made, Ob.eSup, Ob.eSup0, Ob.eSupK, Ob.Mr.list, Ob.eIsC, Ob.isC, Ob.sRaise, Ob.eLenSet, Ob.lenSet, List.lookup_cons, List.lookup_nil, Bool.false_eq_true, List.set_set, beq_self_eq_true, Option.isNone_none, Option.map_none, Option.bind_none]) (by simpa using l5) (lc_isC (by simp [Ob.wipeE]) hok)
  have c2 : lc_Plan___init___1 [some (.val (.obj p)), some (.val (.tup (es.map Ev.o))), none, none] st = some (.ok (((es.map (·.nm)).map PyData.str).map Ob.D.py) st) := lLc_ok (by simp only [sSeq, sSet, sOwn, sPar, sParL,  sIf, sRet, sRetL, sRetO, sDrop, sAug, sApp, sFrz, frz, sAsg, gSet, gsNil, gsCons, gTupF, Fi.gSub, sFor, iL, iT, iR1, iR2, iZ, iEn, itemsK, eVar, eC, Fi.e2, Fi.e1, asB, eChain, tAndF, tOrF, tNotF, eAnd, eOr, eNot, eIf, aNil, aCons, eTup, lLst, eL, eCall, lCall, eCallF, lCallF, eSlT, lSl, oNone, oSome, ownIx, ownLen, lLc, wipeE, pYes, sNext, fnD, entry, fAdd_int, fSub, fMul_l, fMul_r, fDiv_ok, fMod_ok, fPow_ok, fLt, fLe, fGt, fGe, fEq_int, fEq_str, fEq_bool, fNe_int, fNe_str, fNe_bool, isN, fIs, fIsNot, fIx, fNeg, fLen, fMin, fMax, fTuple, fList, fIntB, fSum, fAll, fAny, at_0, at_1, at_2, eT, eS, eStep, eR, getInts_map, Option.bind_some, Option.map_some, List.getElem?_cons_succ, List.getElem?_cons_zero, List.set_cons_succ, List.set_cons_zero, List.length_cons, List.length_nil, List.length_map, List.map_cons, List.map_nil, List.nil_append, List.cons_append, List.replicate, Nat.zero_add, Nat.reduceAdd, Nat.reduceSub, decide_true, decide_false, reduceIte, Nat.reduceLeDiff, Nat.reduceLT, Int.reduceLT, Int.reduceLE, Int.reduceNeg, Int.reducePow, and_self, or_self, and_true, true_and, or_true, true_or, Bool.not_true, Bool.not_false, pour_spend, spend_pour, Ob.sSeq, Ob.sSet, Ob.sOwn, Ob.sIf, Ob.sRet, Ob.sRetL, Ob.sRetO, Ob.sRetN, Ob.sDrop, Ob.sApp, Ob.sAug, Ob.sFrz, Ob.frz, Ob.sAsg, Ob.sPar, Ob.sE, Ob.bnd, Ob.lft, Ob.gSet, Ob.gsNil, Ob.gsCons, Ob.gTup, Ob.gLst, Ob.sFor, Ob.iL, Ob.iT, Ob.eVar, Ob.e2, Ob.op2, Ob.asB, Ob.truD, Ob.eChain, Ob.tAndF, Ob.tOrF, Ob.tNotF, Ob.eAnd, Ob.eOr, Ob.eNot, Ob.eIf, Ob.aNil, Ob.aCons, Ob.eTup, Ob.mkT, Ob.lLst, Ob.eL, Ob.mkL, Ob.eCall, Ob.pyAll, Ob.pE, Ob.pL, Ob.pT, Ob.pv, Ob.pvS, Ob.eIx, Ob.ixD, Ob.D.lst?, Ob.D.tup?, Ob.lLc, Ob.lcD, Ob.wipeE, Ob.pYes, Ob.sNext, Ob.fnO, Ob.entry, Ob.goE, Ob.goL, Ob.goN, Ob.eG, Ob.lG, Ob.eP, Ob.eFld, Ob.fld, Ob.sFld, Ob.setFld, Ob.putD, Ob.sFldAug, Ob.clsOf, Ob.eMeth, Ob.eMeth0, Ob.pick, Ob.eProp, Ob.pickP, Ob.eMake, Ob.eMakeK, Ob.made, Ob.eSup, Ob.eSup0, Ob.eSupK, Ob.Mr.list, Ob.eIsC, Ob.isC, Ob.sRaise, Ob.eLenSet, Ob.lenSet, List.lookup_cons, List.lookup_nil, Bool.false_eq_true, List.set_set, beq_self_eq_true, Option.isNone_none, Option.map_none, Option.bind_none]) (by simpa using l5) (names_c hok (by simp [Ob.wipeE]))
  have c3 := getB_true es
  have c9 := all_id es
  have c4 := getStrs_map (es.map (·.nm))
  have c5 := distS_nd hnd
  rw [List.length_map] at c5
  have c6 := mkT_o h1
  have c7 : Ob.pyAll (es.map Ev.o) = none := pyAll_on h1
  simp only [F_Plan___init__, Ob.fnStar, List.length_map, l4, if_true, c6]
  simp only [sSeq, sSet, sOwn, sPar, sParL,  sIf, sRet, sRetL, sRetO, sDrop, sAug, sApp, sFrz, frz, sAsg, gSet, gsNil, gsCons, gTupF, Fi.gSub, sFor, iL, iT, iR1, iR2, iZ, iEn, itemsK, eVar, eC, Fi.e2, Fi.e1, asB, eChain, tAndF, tOrF, tNotF, eAnd, eOr, eNot, eIf, aNil, aCons, eTup, lLst, eL, eCall, lCall, eCallF, lCallF, eSlT, lSl, oNone, oSome, ownIx, ownLen, lLc, wipeE, pYes, sNext, fnD, entry, fAdd_int, fSub, fMul_l, fMul_r, fDiv_ok, fMod_ok, fPow_ok, fLt, fLe, fGt, fGe, fEq_int, fEq_str, fEq_bool, fNe_int, fNe_str, fNe_bool, isN, fIs, fIsNot, fIx, fNeg, fLen, fMin, fMax, fTuple, fList, fIntB, fSum, fAll, fAny, at_0, at_1, at_2, eT, eS, eStep, eR, getInts_map, Option.bind_some, Option.map_some, List.getElem?_cons_succ, List.getElem?_cons_zero, List.set_cons_succ, List.set_cons_zero, List.length_cons, List.length_nil, List.length_map, List.map_cons, List.map_nil, List.nil_append, List.cons_append, List.replicate, Nat.zero_add, Nat.reduceAdd, Nat.reduceSub, decide_true, decide_false, reduceIte, Nat.reduceLeDiff, Nat.reduceLT, Int.reduceLT, Int.reduceLE, Int.reduceNeg, Int.reducePow, and_self, or_self, and_true, true_and, or_true, true_or, Bool.not_true, Bool.not_false, pour_spend, spend_pour, Ob.sSeq, Ob.sSet, Ob.sOwn, Ob.sIf, Ob.sRet, Ob.sRetL, Ob.sRetO, Ob.sRetN, Ob.sDrop, Ob.sApp, Ob.sAug, Ob.sFrz, Ob.frz, Ob.sAsg, Ob.sPar, Ob.sE, Ob.bnd, Ob.lft, Ob.gSet, Ob.gsNil, Ob.gsCons, Ob.gTup, Ob.gLst, Ob.sFor, Ob.iL, Ob.iT, Ob.eVar, Ob.e2, Ob.op2, Ob.asB, Ob.truD, Ob.eChain, Ob.tAndF, Ob.tOrF, Ob.tNotF, Ob.eAnd, Ob.eOr, Ob.eNot, Ob.eIf, Ob.aNil, Ob.aCons, Ob.eTup, Ob.mkT, Ob.lLst, Ob.eL, Ob.mkL, Ob.eCall, Ob.pyAll, Ob.pE, Ob.pL, Ob.pT, Ob.pv, Ob.pvS, Ob.eIx, Ob.ixD, Ob.D.lst?, Ob.D.tup?, Ob.lLc, Ob.lcD, Ob.wipeE, Ob.pYes, Ob.sNext, Ob.fnO, Ob.entry, Ob.goE, Ob.goL, Ob.goN, Ob.eG, Ob.lG, Ob.eP, Ob.eFld, Ob.fld, Ob.sFld, Ob.setFld, Ob.putD, Ob.sFldAug, Ob.clsOf, Ob.eMeth, Ob.eMeth0, Ob.pick, Ob.eProp, Ob.pickP, Ob.eMake, Ob.eMakeK, Ob.made, Ob.eSup, Ob.eSup0, Ob.eSupK, Ob.Mr.list, Ob.eIsC, Ob.isC, Ob.sRaise, Ob.eLenSet, Ob.lenSet, List.lookup_cons, List.lookup_nil, Bool.false_eq_true, List.set_set, beq_self_eq_true, Option.isNone_none, Option.map_none, Option.bind_none, b_Plan___init__, c1, c2, Ob.pyAll_map, c3, c9, Ob.eLenD, Ob.D.seq?, l2, l3, Ob.eLenSetS, Ob.lenSetS, c4, l6, c5, l7, Ob.lListD, c7, hp, List.mem_singleton, set_get hp, bq_row_gone, qe_row_gone, bq_gone_row, qe_gone_row]
theorem pnames_ok (hok : EvsOk st es) (hl : es.length < 100000) (hp : st[p]? = some (oP es gone)) : F_Plan_names [.obj p] st = some (.ok (.val (.py (.tuple ((es.map (·.nm)).map .str)))) st) := by
  have c2 : lc_Plan_names_0 [some (.val (.obj p)), none] st = some (.ok (((es.map (·.nm)).map PyData.str).map Ob.D.py) st) := lLc_ok (by simp only [sSeq, sSet, sOwn, sPar, sParL,  sIf, sRet, sRetL, sRetO, sDrop, sAug, sApp, sFrz, frz, sAsg, gSet, gsNil, gsCons, gTupF, Fi.gSub, sFor, iL, iT, iR1, iR2, iZ, iEn, itemsK, eVar, eC, Fi.e2, Fi.e1, asB, eChain, tAndF, tOrF, tNotF, eAnd, eOr, eNot, eIf, aNil, aCons, eTup, lLst, eL, eCall, lCall, eCallF, lCallF, eSlT, lSl, oNone, oSome, ownIx, ownLen, lLc, wipeE, pYes, sNext, fnD, entry, fAdd_int, fSub, fMul_l, fMul_r, fDiv_ok, fMod_ok, fPow_ok, fLt, fLe, fGt, fGe, fEq_int, fEq_str, fEq_bool, fNe_int, fNe_str, fNe_bool, isN, fIs, fIsNot, fIx, fNeg, fLen, fMin, fMax, fTuple, fList, fIntB, fSum, fAll, fAny, at_0, at_1, at_2, eT, eS, eStep, eR, getInts_map, Option.bind_some, Option.map_some, List.getElem?_cons_succ, List.getElem?_cons_zero, List.set_cons_succ, List.set_cons_zero, List.length_cons, List.length_nil, List.length_map, List.map_cons, List.map_nil, List.nil_append, List.cons_append, List.replicate, Nat.zero_add, Nat.reduceAdd, Nat.reduceSub, decide_true, decide_false, reduceIte, Nat.reduceLeDiff, Nat.reduceLT, Int.reduceLT, Int.reduceLE, Int.reduceNeg, Int.reducePow, and_self, or_self, and_true, true_and, or_true, true_or, Bool.not_true, Bool.not_false, pour_spend, spend_pour, Ob.sSeq, Ob.sSet, Ob.sOwn, Ob.sIf, Ob.sRet, Ob.sRetL, Ob.sRetO, Ob.sRetN, Ob.sDrop, Ob.sApp, Ob.sAug, Ob.sFrz, Ob.frz, Ob.sAsg, Ob.sPar, Ob.sE, Ob.bnd, Ob.lft, Ob.gSet, Ob.gsNil, Ob.gsCons, Ob.gTup, Ob.gLst, Ob.sFor, Ob.iL, Ob.iT, Ob.eVar, Ob.e2, Ob.op2, Ob.asB, Ob.truD, Ob.eChain, Ob.tAndF, Ob.tOrF, Ob.tNotF, Ob.eAnd, Ob.eOr, Ob.eNot, Ob.eIf, Ob.aNil, Ob.aCons, Ob.eTup, Ob.mkT, Ob.lLst, Ob.eL, Ob.mkL, Ob.eCall, Ob.pyAll, Ob.pE, Ob.pL, Ob.pT, Ob.pv, Ob.pvS, Ob.eIx, Ob.ixD, Ob.D.lst?, Ob.D.tup?, Ob.lLc, Ob.lcD, Ob.wipeE, Ob.pYes, Ob.sNext, Ob.fnO, Ob.entry, Ob.goE, Ob.goL, Ob.goN, Ob.eG, Ob.lG, Ob.eP, Ob.eFld, Ob.fld, Ob.sFld, Ob.setFld, Ob.putD, Ob.sFldAug, Ob.clsOf, Ob.eMeth, Ob.eMeth0, Ob.pick, Ob.eProp, Ob.pickP, Ob.eMake, Ob.eMakeK, Ob.made, Ob.eSup, Ob.eSup0, Ob.eSupK, Ob.Mr.list, Ob.eIsC, Ob.isC, Ob.sRaise, Ob.eLenSet, Ob.lenSet, List.lookup_cons, List.lookup_nil, Bool.false_eq_true, List.set_set, beq_self_eq_true, Option.isNone_none, Option.map_none, Option.bind_none, hp, List.mem_singleton,]) (by simpa using hl) (names_c hok (by simp [Ob.wipeE]))
  simp only [sSeq, sSet, sOwn, sPar, sParL,  sIf, sRet, sRetL, sRetO, sDrop, sAug, sApp, sFrz, frz, sAsg, gSet, gsNil, gsCons, gTupF, Fi.gSub, sFor, iL, iT, iR1, iR2, iZ, iEn, itemsK, eVar, eC, Fi.e2, Fi.e1, asB, eChain, tAndF, tOrF, tNotF, eAnd, eOr, eNot, eIf, aNil, aCons, eTup, lLst, eL, eCall, lCall, eCallF, lCallF, eSlT, lSl, oNone, oSome, ownIx, ownLen, lLc, wipeE, pYes, sNext, fnD, entry, fAdd_int, fSub, fMul_l, fMul_r, fDiv_ok, fMod_ok, fPow_ok, fLt, fLe, fGt, fGe, fEq_int, fEq_str, fEq_bool, fNe_int, fNe_str, fNe_bool, isN, fIs, fIsNot, fIx, fNeg, fLen, fMin, fMax, fTuple, fList, fIntB, fSum, fAll, fAny, at_0, at_1, at_2, eT, eS, eStep, eR, getInts_map, Option.bind_some, Option.map_some, List.getElem?_cons_succ, List.getElem?_cons_zero, List.set_cons_succ, List.set_cons_zero, List.length_cons, List.length_nil, List.length_map, List.map_cons, List.map_nil, List.nil_append, List.cons_append, List.replicate, Nat.zero_add, Nat.reduceAdd, Nat.reduceSub, decide_true, decide_false, reduceIte, Nat.reduceLeDiff, Nat.reduceLT, Int.reduceLT, Int.reduceLE, Int.reduceNeg, Int.reducePow, and_self, or_self, and_true, true_and, or_true, true_or, Bool.not_true, Bool.not_false, pour_spend, spend_pour, Ob.sSeq, Ob.sSet, Ob.sOwn, Ob.sIf, Ob.sRet, Ob.sRetL, Ob.sRetO, Ob.sRetN, Ob.sDrop, Ob.sApp, Ob.sAug, Ob.sFrz, Ob.frz, Ob.sAsg, Ob.sPar, Ob.sE, Ob.bnd, Ob.lft, Ob.gSet, Ob.gsNil, Ob.gsCons, Ob.gTup, Ob.gLst, Ob.sFor, Ob.iL, Ob.iT, Ob.eVar, Ob.e2, Ob.op2, Ob.asB, Ob.truD, Ob.eChain, Ob.tAndF, Ob.tOrF, Ob.tNotF, Ob.eAnd, Ob.eOr, Ob.eNot, Ob.eIf, Ob.aNil, Ob.aCons, Ob.eTup, Ob.mkT, Ob.lLst, Ob.eL, Ob.mkL, Ob.eCall, Ob.pyAll, Ob.pE, Ob.pL, Ob.pT, Ob.pv, Ob.pvS, Ob.eIx, Ob.ixD, Ob.D.lst?, Ob.D.tup?, Ob.lLc, Ob.lcD, Ob.wipeE, Ob.pYes, Ob.sNext, Ob.fnO, Ob.entry, Ob.goE, Ob.goL, Ob.goN, Ob.eG, Ob.lG, Ob.eP, Ob.eFld, Ob.fld, Ob.sFld, Ob.setFld, Ob.putD, Ob.sFldAug, Ob.clsOf, Ob.eMeth, Ob.eMeth0, Ob.pick, Ob.eProp, Ob.pickP, Ob.eMake, Ob.eMakeK, Ob.made, Ob.eSup, Ob.eSup0, Ob.eSupK, Ob.Mr.list, Ob.eIsC, Ob.isC, Ob.sRaise, Ob.eLenSet, Ob.lenSet, List.lookup_cons, List.lookup_nil, Bool.false_eq_true, List.set_set, beq_self_eq_true, Option.isNone_none, Option.map_none, Option.bind_none, F_Plan_names, b_Plan_names, hp, List.mem_singleton, c2, Ob.pyAll_map]
theorem plevels_ok (hok : EvsOk st es) (hl : es.length < 100000) (hp : st[p]? = some (oP es gone)) : F_Plan_levels [.obj p] st = some (.ok (.val (.py (.tuple ((es.map (·.h)).map .int)))) st) := by
  have c2 : lc_Plan_levels_0 [some (.val (.obj p)), none] st = some (.ok (((es.map (·.h)).map PyData.int).map Ob.D.py) st) := lLc_ok (by simp only [sSeq, sSet, sOwn, sPar, sParL,  sIf, sRet, sRetL, sRetO, sDrop, sAug, sApp, sFrz, frz, sAsg, gSet, gsNil, gsCons, gTupF, Fi.gSub, sFor, iL, iT, iR1, iR2, iZ, iEn, itemsK, eVar, eC, Fi.e2, Fi.e1, asB, eChain, tAndF, tOrF, tNotF, eAnd, eOr, eNot, eIf, aNil, aCons, eTup, lLst, eL, eCall, lCall, eCallF, lCallF, eSlT, lSl, oNone, oSome, ownIx, ownLen, lLc, wipeE, pYes, sNext, fnD, entry, fAdd_int, fSub, fMul_l, fMul_r, fDiv_ok, fMod_ok, fPow_ok, fLt, fLe, fGt, fGe, fEq_int, fEq_str, fEq_bool, fNe_int, fNe_str, fNe_bool, isN, fIs, fIsNot, fIx, fNeg, fLen, fMin, fMax, fTuple, fList, fIntB, fSum, fAll, fAny, at_0, at_1, at_2, eT, eS, eStep, eR, getInts_map, Option.bind_some, Option.map_some, List.getElem?_cons_succ, List.getElem?_cons_zero, List.set_cons_succ, List.set_cons_zero, List.length_cons, List.length_nil, List.length_map, List.map_cons, List.map_nil, List.nil_append, List.cons_append, List.replicate, Nat.zero_add, Nat.reduceAdd, Nat.reduceSub, decide_true, decide_false, reduceIte, Nat.reduceLeDiff, Nat.reduceLT, Int.reduceLT, Int.reduceLE, Int.reduceNeg, Int.reducePow, and_self, or_self, and_true, true_and, or_true, true_or, Bool.not_true, Bool.not_false, pour_spend, spend_pour, Ob.sSeq, Ob.sSet, Ob.sOwn, Ob.sIf, Ob.sRet, Ob.sRetL, Ob.sRetO, Ob.sRetN, Ob.sDrop, Ob.sApp, Ob.sAug, Ob.sFrz, Ob.frz, Ob.sAsg, Ob.sPar, Ob.sE, Ob.bnd, Ob.lft, Ob.gSet, Ob.gsNil, Ob.gsCons, Ob.gTup, Ob.gLst, Ob.sFor, Ob.iL, Ob.iT, Ob.eVar, Ob.e2, Ob.op2, Ob.asB, Ob.truD, Ob.eChain, Ob.tAndF, Ob.tOrF, Ob.tNotF, Ob.eAnd, Ob.eOr, Ob.eNot, Ob.eIf, Ob.aNil, Ob.aCons, Ob.eTup, Ob.mkT, Ob.lLst, Ob.eL, Ob.mkL, Ob.eCall, Ob.pyAll, Ob.pE, Ob.pL, Ob.pT, Ob.pv, Ob.pvS, Ob.eIx, Ob.ixD, Ob.D.lst?, Ob.D.tup?, Ob.lLc, Ob.lcD, Ob.wipeE, Ob.pYes, Ob.sNext, Ob.fnO, Ob.entry, Ob.goE, Ob.goL, Ob.goN, Ob.eG, Ob.lG, Ob.eP, Ob.eFld, Ob.fld, Ob.sFld, Ob.setFld, Ob.putD, Ob.sFldAug, Ob.clsOf, Ob.eMeth, Ob.eMeth0, Ob.pick, Ob.eProp, Ob.pickP, Ob.eMake, Ob.eMakeK, Ob.made, Ob.eSup, Ob.eSup0, Ob.eSupK, Ob.Mr.list, Ob.eIsC, Ob.isC, Ob.sRaise, Ob.eLenSet, Ob.lenSet, List.lookup_cons, List.lookup_nil, Bool.false_eq_true, List.set_set, beq_self_eq_true, Option.isNone_none, Option.map_none, Option.bind_none, hp, List.mem_singleton,]) (by simpa using hl) (levels_c hok (by simp [Ob.wipeE]))
  simp only [sSeq, sSet, sOwn, sPar, sParL,  sIf, sRet, sRetL, sRetO, sDrop, sAug, sApp, sFrz, frz, sAsg, gSet, gsNil, gsCons, gTupF, Fi.gSub, sFor, iL, iT, iR1, iR2, iZ, iEn, itemsK, eVar, eC, Fi.e2, Fi.e1, asB, eChain, tAndF, tOrF, tNotF, eAnd, eOr, eNot, eIf, aNil, aCons, eTup, lLst, eL, eCall, lCall, eCallF, lCallF, eSlT, lSl, oNone, oSome, ownIx, ownLen, lLc, wipeE, pYes, sNext, fnD, entry, fAdd_int, fSub, fMul_l, fMul_r, fDiv_ok, fMod_ok, fPow_ok, fLt, fLe, fGt, fGe, fEq_int, fEq_str, fEq_bool, fNe_int, fNe_str, fNe_bool, isN, fIs, fIsNot, fIx, fNeg, fLen, fMin, fMax, fTuple, fList, fIntB, fSum, fAll, fAny, at_0, at_1, at_2, eT, eS, eStep, eR, getInts_map, Option.bind_some, Option.map_some, List.getElem?_cons_succ, List.getElem?_cons_zero, List.set_cons_succ, List.set_cons_zero, List.length_cons, List.length_nil, List.length_map, List.map_cons, List.map_nil, List.nil_append, List.cons_append, List.replicate, Nat.zero_add, Nat.reduceAdd, Nat.reduceSub, decide_true, decide_false, reduceIte, Nat.reduceLeDiff, Nat.reduceLT, Int.reduceLT, Int.reduceLE, Int.reduceNeg, Int.reducePow, and_self, or_self, and_true, true_and, or_true, true_or, Bool.not_true, Bool.not_false, pour_spend, spend_pour, Ob.sSeq, Ob.sSet, Ob.sOwn, Ob.sIf, Ob.sRet, Ob.sRetL, Ob.sRetO, Ob.sRetN, Ob.sDrop, Ob.sApp, Ob.sAug, Ob.sFrz, Ob.frz, Ob.sAsg, Ob.sPar, Ob.sE, Ob.bnd, Ob.lft, Ob.gSet, Ob.gsNil, Ob.gsCons, Ob.gTup, Ob.gLst, Ob.sFor, Ob.iL, Ob.iT, Ob.eVar, Ob.e2, Ob.op2, Ob.asB, Ob.truD, Ob.eChain, Ob.tAndF, Ob.tOrF, Ob.tNotF, Ob.eAnd, Ob.eOr, Ob.eNot, Ob.eIf, Ob.aNil, Ob.aCons, Ob.eTup, Ob.mkT, Ob.lLst, Ob.eL, Ob.mkL, Ob.eCall, Ob.pyAll, Ob.pE, Ob.pL, Ob.pT, Ob.pv, Ob.pvS, Ob.eIx, Ob.ixD, Ob.D.lst?, Ob.D.tup?, Ob.lLc, Ob.lcD, Ob.wipeE, Ob.pYes, Ob.sNext, Ob.fnO, Ob.entry, Ob.goE, Ob.goL, Ob.goN, Ob.eG, Ob.lG, Ob.eP, Ob.eFld, Ob.fld, Ob.sFld, Ob.setFld, Ob.putD, Ob.sFldAug, Ob.clsOf, Ob.eMeth, Ob.eMeth0, Ob.pick, Ob.eProp, Ob.pickP, Ob.eMake, Ob.eMakeK, Ob.made, Ob.eSup, Ob.eSup0, Ob.eSupK, Ob.Mr.list, Ob.eIsC, Ob.isC, Ob.sRaise, Ob.eLenSet, Ob.lenSet, List.lookup_cons, List.lookup_nil, Bool.false_eq_true, List.set_set, beq_self_eq_true, Option.isNone_none, Option.map_none, Option.bind_none, F_Plan_levels, b_Plan_levels, hp, List.mem_singleton, c2, Ob.pyAll_map]
theorem ptotal_ok (hok : EvsOk st es) (hl : es.length < 100000) (hp : st[p]? = some (oP es gone)) : F_Plan_total [.obj p] st = some (.ok (.val (cI (es.map (·.h)).sum)) st) := by
  have c2 : lc_Plan_total_0 [some (.val (.obj p)), none] st = some (.ok (((es.map (·.h)).map PyData.int).map Ob.D.py) st) := lLc_ok (by simp only [sSeq, sSet, sOwn, sPar, sParL,  sIf, sRet, sRetL, sRetO, sDrop, sAug, sApp, sFrz, frz, sAsg, gSet, gsNil, gsCons, gTupF, Fi.gSub, sFor, iL, iT, iR1, iR2, iZ, iEn, itemsK, eVar, eC, Fi.e2, Fi.e1, asB, eChain, tAndF, tOrF, tNotF, eAnd, eOr, eNot, eIf, aNil, aCons, eTup, lLst, eL, eCall, lCall, eCallF, lCallF, eSlT, lSl, oNone, oSome, ownIx, ownLen, lLc, wipeE, pYes, sNext, fnD, entry, fAdd_int, fSub, fMul_l, fMul_r, fDiv_ok, fMod_ok, fPow_ok, fLt, fLe, fGt, fGe, fEq_int, fEq_str, fEq_bool, fNe_int, fNe_str, fNe_bool, isN, fIs, fIsNot, fIx, fNeg, fLen, fMin, fMax, fTuple, fList, fIntB, fSum, fAll, fAny, at_0, at_1, at_2, eT, eS, eStep, eR, getInts_map, Option.bind_some, Option.map_some, List.getElem?_cons_succ, List.getElem?_cons_zero, List.set_cons_succ, List.set_cons_zero, List.length_cons, List.length_nil, List.length_map, List.map_cons, List.map_nil, List.nil_append, List.cons_append, List.replicate, Nat.zero_add, Nat.reduceAdd, Nat.reduceSub, decide_true, decide_false, reduceIte, Nat.reduceLeDiff, Nat.reduceLT, Int.reduceLT, Int.reduceLE, Int.reduceNeg, Int.reducePow, and_self, or_self, and_true, true_and, or_true, true_or, Bool.not_true, Bool.not_false, pour_spend, spend_pour, Ob.sSeq, Ob.sSet, Ob.sOwn, Ob.sIf, Ob.sRet, Ob.sRetL, Ob.sRetO, Ob.sRetN, Ob.sDrop, Ob.sApp, Ob.sAug, Ob.sFrz, Ob.frz, Ob.sAsg, Ob.sPar, Ob.sE, Ob.bnd, Ob.lft, Ob.gSet, Ob.gsNil, Ob.gsCons, Ob.gTup, Ob.gLst, Ob.sFor, Ob.iL, Ob.iT, Ob.eVar, Ob.e2, Ob.op2, Ob.asB, Ob.truD, Ob.eChain, Ob.tAndF, Ob.tOrF, Ob.tNotF, Ob.eAnd, Ob.eOr, Ob.eNot, Ob.eIf, Ob.aNil, Ob.aCons, Ob.eTup, Ob.mkT, Ob.lLst, Ob.eL, Ob.mkL, Ob.eCall, Ob.pyAll, Ob.pE, Ob.pL, Ob.pT, Ob.pv, Ob.pvS, Ob.eIx, Ob.ixD, Ob.D.lst?, Ob.D.tup?, Ob.lLc, Ob.lcD, Ob.wipeE, Ob.pYes, Ob.sNext, Ob.fnO, Ob.entry, Ob.goE, Ob.goL, Ob.goN, Ob.eG, Ob.lG, Ob.eP, Ob.eFld, Ob.fld, Ob.sFld, Ob.setFld, Ob.putD, Ob.sFldAug, Ob.clsOf, Ob.eMeth, Ob.eMeth0, Ob.pick, Ob.eProp, Ob.pickP, Ob.eMake, Ob.eMakeK, Ob.made, Ob.eSup, Ob.eSup0, Ob.eSupK, Ob.Mr.list, Ob.eIsC, Ob.isC, Ob.sRaise, Ob.eLenSet, Ob.lenSet, List.lookup_cons, List.lookup_nil, Bool.false_eq_true, List.set_set, beq_self_eq_true, Option.isNone_none, Option.map_none, Option.bind_none, hp, List.mem_singleton,]) (by simpa using hl) (levels_c hok (by simp [Ob.wipeE]))
  simp only [sSeq, sSet, sOwn, sPar, sParL,  sIf, sRet, sRetL, sRetO, sDrop, sAug, sApp, sFrz, frz, sAsg, gSet, gsNil, gsCons, gTupF, Fi.gSub, sFor, iL, iT, iR1, iR2, iZ, iEn, itemsK, eVar, eC, Fi.e2, Fi.e1, asB, eChain, tAndF, tOrF, tNotF, eAnd, eOr, eNot, eIf, aNil, aCons, eTup, lLst, eL, eCall, lCall, eCallF, lCallF, eSlT, lSl, oNone, oSome, ownIx, ownLen, lLc, wipeE, pYes, sNext, fnD, entry, fAdd_int, fSub, fMul_l, fMul_r, fDiv_ok, fMod_ok, fPow_ok, fLt, fLe, fGt, fGe, fEq_int, fEq_str, fEq_bool, fNe_int, fNe_str, fNe_bool, isN, fIs, fIsNot, fIx, fNeg, fLen, fMin, fMax, fTuple, fList, fIntB, fSum, fAll, fAny, at_0, at_1, at_2, eT, eS, eStep, eR, getInts_map, Option.bind_some, Option.map_some, List.getElem?_cons_succ, List.getElem?_cons_zero, List.set_cons_succ, List.set_cons_zero, List.length_cons, List.length_nil, List.length_map, List.map_cons, List.map_nil, List.nil_append, List.cons_append, List.replicate, Nat.zero_add, Nat.reduceAdd, Nat.reduceSub, decide_true, decide_false, reduceIte, Nat.reduceLeDiff, Nat.reduceLT, Int.reduceLT, Int.reduceLE, Int.reduceNeg, Int.reducePow, and_self, or_self, and_true, true_and, or_true, true_or, Bool.not_true, Bool.not_false, pour_spend, spend_pour, Ob.sSeq, Ob.sSet, Ob.sOwn, Ob.sIf, Ob.sRet, Ob.sRetL, Ob.sRetO, Ob.sRetN, Ob.sDrop, Ob.sApp, Ob.sAug, Ob.sFrz, Ob.frz, Ob.sAsg, Ob.sPar, Ob.sE, Ob.bnd, Ob.lft, Ob.gSet, Ob.gsNil, Ob.gsCons, Ob.gTup, Ob.gLst, Ob.sFor, Ob.iL, Ob.iT, Ob.eVar, Ob.e2, Ob.op2, Ob.asB, Ob.truD, Ob.eChain, Ob.tAndF, Ob.tOrF, Ob.tNotF, Ob.eAnd, Ob.eOr, Ob.eNot, Ob.eIf, Ob.aNil, Ob.aCons, Ob.eTup, Ob.mkT, Ob.lLst, Ob.eL, Ob.mkL, Ob.eCall, Ob.pyAll, Ob.pE, Ob.pL, Ob.pT, Ob.pv, Ob.pvS, Ob.eIx, Ob.ixD, Ob.D.lst?, Ob.D.tup?, Ob.lLc, Ob.lcD, Ob.wipeE, Ob.pYes, Ob.sNext, Ob.fnO, Ob.entry, Ob.goE, Ob.goL, Ob.goN, Ob.eG, Ob.lG, Ob.eP, Ob.eFld, Ob.fld, Ob.sFld, Ob.setFld, Ob.putD, Ob.sFldAug, Ob.clsOf, Ob.eMeth, Ob.eMeth0, Ob.pick, Ob.eProp, Ob.pickP, Ob.eMake, Ob.eMakeK, Ob.made, Ob.eSup, Ob.eSup0, Ob.eSupK, Ob.Mr.list, Ob.eIsC, Ob.isC, Ob.sRaise, Ob.eLenSet, Ob.lenSet, List.lookup_cons, List.lookup_nil, Bool.false_eq_true, List.set_set, beq_self_eq_true, Option.isNone_none, Option.map_none, Option.bind_none, F_Plan_total, b_Plan_total, hp, List.mem_singleton, c2, Ob.pyAll_map]
theorem plost_ok (hp : st[p]? = some (oP es gone)) : F_Plan_lost [.obj p] st = some (.ok (.val (cI gone)) st) := by
  simp only [sSeq, sSet, sOwn, sPar, sParL,  sIf, sRet, sRetL, sRetO, sDrop, sAug, sApp, sFrz, frz, sAsg, gSet, gsNil, gsCons, gTupF, Fi.gSub, sFor, iL, iT, iR1, iR2, iZ, iEn, itemsK, eVar, eC, Fi.e2, Fi.e1, asB, eChain, tAndF, tOrF, tNotF, eAnd, eOr, eNot, eIf, aNil, aCons, eTup, lLst, eL, eCall, lCall, eCallF, lCallF, eSlT, lSl, oNone, oSome, ownIx, ownLen, lLc, wipeE, pYes, sNext, fnD, entry, fAdd_int, fSub, fMul_l, fMul_r, fDiv_ok, fMod_ok, fPow_ok, fLt, fLe, fGt, fGe, fEq_int, fEq_str, fEq_bool, fNe_int, fNe_str, fNe_bool, isN, fIs, fIsNot, fIx, fNeg, fLen, fMin, fMax, fTuple, fList, fIntB, fSum, fAll, fAny, at_0, at_1, at_2, eT, eS, eStep, eR, getInts_map, Option.bind_some, Option.map_some, List.getElem?_cons_succ, List.getElem?_cons_zero, List.set_cons_succ, List.set_cons_zero, List.length_cons, List.length_nil, List.length_map, List.map_cons, List.map_nil, List.nil_append, List.cons_append, List.replicate, Nat.zero_add, Nat.reduceAdd, Nat.reduceSub, decide_true, decide_false, reduceIte, Nat.reduceLeDiff, Nat.reduceLT, Int.reduceLT, Int.reduceLE, Int.reduceNeg, Int.reducePow, and_self, or_self, and_true, true_and, or_true, true_or, Bool.not_true, Bool.not_false, pour_spend, spend_pour, Ob.sSeq, Ob.sSet, Ob.sOwn, Ob.sIf, Ob.sRet, Ob.sRetL, Ob.sRetO, Ob.sRetN, Ob.sDrop, Ob.sApp, Ob.sAug, Ob.sFrz, Ob.frz, Ob.sAsg, Ob.sPar, Ob.sE, Ob.bnd, Ob.lft, Ob.gSet, Ob.gsNil, Ob.gsCons, Ob.gTup, Ob.gLst, Ob.sFor, Ob.iL, Ob.iT, Ob.eVar, Ob.e2, Ob.op2, Ob.asB, Ob.truD, Ob.eChain, Ob.tAndF, Ob.tOrF, Ob.tNotF, Ob.eAnd, Ob.eOr, Ob.eNot, Ob.eIf, Ob.aNil, Ob.aCons, Ob.eTup, Ob.mkT, Ob.lLst, Ob.eL, Ob.mkL, Ob.eCall, Ob.pyAll, Ob.pE, Ob.pL, Ob.pT, Ob.pv, Ob.pvS, Ob.eIx, Ob.ixD, Ob.D.lst?, Ob.D.tup?, Ob.lLc, Ob.lcD, Ob.wipeE, Ob.pYes, Ob.sNext, Ob.fnO, Ob.entry, Ob.goE, Ob.goL, Ob.goN, Ob.eG, Ob.lG, Ob.eP, Ob.eFld, Ob.fld, Ob.sFld, Ob.setFld, Ob.putD, Ob.sFldAug, Ob.clsOf, Ob.eMeth, Ob.eMeth0, Ob.pick, Ob.eProp, Ob.pickP, Ob.eMake, Ob.eMakeK, Ob.made, Ob.eSup, Ob.eSup0, Ob.eSupK, Ob.Mr.list, Ob.eIsC, Ob.isC, Ob.sRaise, Ob.eLenSet, Ob.lenSet, List.lookup_cons, List.lookup_nil, Bool.false_eq_true, List.set_set, beq_self_eq_true, Option.isNone_none, Option.map_none, Option.bind_none, F_Plan_lost, b_Plan_lost, hp, List.mem_singleton, bq_gone_row, qe_gone_row]
end
end Lw

namespace Lw
open PySem L2 Fi
section
variable {st : Ob.Stor} {p : Nat} {gone : Int} {es : List Ev} {nm : Str} {e : Ev} {x : Option Ob.Sl}
theorem env_eq (hok : e.ok st) (h : e.nm = nm) : lp_Plan_envelope_0 [V (.obj p), V (cT nm), V e.o] st = some (.ret e.o st) := by
  have u1 := kpick (F := F_Envelope_name) hok.2
  have u2 := kname hok.2
  have i1 : kitB (tyD (.str nm)) "str" = some true := rfl
  simp only [sSeq, sSet, sOwn, sPar, sParL,  sIf, sRet, sRetL, sRetO, sDrop, sAug, sApp, sFrz, frz, sAsg, gSet, gsNil, gsCons, gTupF, Fi.gSub, sFor, iL, iT, iR1, iR2, iZ, iEn, itemsK, eVar, eC, Fi.e2, Fi.e1, asB, eChain, tAndF, tOrF, tNotF, eAnd, eOr, eNot, eIf, aNil, aCons, eTup, lLst, eL, eCall, lCall, eCallF, lCallF, eSlT, lSl, oNone, oSome, ownIx, ownLen, lLc, wipeE, pYes, sNext, fnD, entry, fAdd_int, fSub, fMul_l, fMul_r, fDiv_ok, fMod_ok, fPow_ok, fLt, fLe, fGt, fGe, fEq_int, fEq_str, fEq_bool, fNe_int, fNe_str, fNe_bool, isN, fIs, fIsNot, fIx, fNeg, fLen, fMin, fMax, fTuple, fList, fIntB, fSum, fAll, fAny, at_0, at_1, at_2, eT, eS, eStep, eR, getInts_map, Option.bind_some, Option.map_some, List.getElem?_cons_succ, List.getElem?_cons_zero, List.set_cons_succ, List.set_cons_zero, List.length_cons, List.length_nil, List.length_map, List.map_cons, List.map_nil, List.nil_append, List.cons_append, List.replicate, Nat.zero_add, Nat.reduceAdd, Nat.reduceSub, decide_true, decide_false, reduceIte, Nat.reduceLeDiff, Nat.reduceLT, Int.reduceLT, Int.reduceLE, Int.reduceNeg, Int.reducePow, and_self, or_self, and_true, true_and, or_true, true_or, Bool.not_true, Bool.not_false, pour_spend, spend_pour, Ob.sSeq, Ob.sSet, Ob.sOwn, Ob.sIf, Ob.sRet, Ob.sRetL, Ob.sRetO, Ob.sRetN, Ob.sDrop, Ob.sApp, Ob.sAug, Ob.sFrz, Ob.frz, Ob.sAsg, Ob.sPar, Ob.sE, Ob.bnd, Ob.lft, Ob.gSet, Ob.gsNil, Ob.gsCons, Ob.gTup, Ob.gLst, Ob.sFor, Ob.iL, Ob.iT, Ob.eVar, Ob.e2, Ob.op2, Ob.asB, Ob.truD, Ob.eChain, Ob.tAndF, Ob.tOrF, Ob.tNotF, Ob.eAnd, Ob.eOr, Ob.eNot, Ob.eIf, Ob.aNil, Ob.aCons, Ob.eTup, Ob.mkT, Ob.lLst, Ob.eL, Ob.mkL, Ob.eCall, Ob.pyAll, Ob.pE, Ob.pL, Ob.pT, Ob.pv, Ob.pvS, Ob.eIx, Ob.ixD, Ob.D.lst?, Ob.D.tup?, Ob.lLc, Ob.lcD, Ob.wipeE, Ob.pYes, Ob.sNext, Ob.fnO, Ob.entry, Ob.goE, Ob.goL, Ob.goN, Ob.eG, Ob.lG, Ob.eP, Ob.eFld, Ob.fld, Ob.sFld, Ob.setFld, Ob.putD, Ob.sFldAug, Ob.clsOf, Ob.eMeth, Ob.eMeth0, Ob.eProp, Ob.eMake, Ob.eMakeK, Ob.made, Ob.eSup, Ob.eSup0, Ob.eSupK, Ob.Mr.list, Ob.eIsC, Ob.isC, Ob.sRaise, Ob.eLenSet, Ob.lenSet, List.lookup_cons, List.lookup_nil, Bool.false_eq_true, List.set_set, beq_self_eq_true, Option.isNone_none, Option.map_none, Option.bind_none, lp_Plan_envelope_0, eIsI, i1, u1, u2, h]
theorem env_ne (hok : e.ok st) (h : e.nm ≠ nm) : lp_Plan_envelope_0 [V (.obj p), V (cT nm), V e.o] st = some (.next [V (.obj p), V (cT nm), V e.o] st) := by
  have u1 := kpick (F := F_Envelope_name) hok.2
  have u2 := kname hok.2
  have i1 : kitB (tyD (.str nm)) "str" = some true := rfl
  simp only [sSeq, sSet, sOwn, sPar, sParL,  sIf, sRet, sRetL, sRetO, sDrop, sAug, sApp, sFrz, frz, sAsg, gSet, gsNil, gsCons, gTupF, Fi.gSub, sFor, iL, iT, iR1, iR2, iZ, iEn, itemsK, eVar, eC, Fi.e2, Fi.e1, asB, eChain, tAndF, tOrF, tNotF, eAnd, eOr, eNot, eIf, aNil, aCons, eTup, lLst, eL, eCall, lCall, eCallF, lCallF, eSlT, lSl, oNone, oSome, ownIx, ownLen, lLc, wipeE, pYes, sNext, fnD, entry, fAdd_int, fSub, fMul_l, fMul_r, fDiv_ok, fMod_ok, fPow_ok, fLt, fLe, fGt, fGe, fEq_int, fEq_str, fEq_bool, fNe_int, fNe_str, fNe_bool, isN, fIs, fIsNot, fIx, fNeg, fLen, fMin, fMax, fTuple, fList, fIntB, fSum, fAll, fAny, at_0, at_1, at_2, eT, eS, eStep, eR, getInts_map, Option.bind_some, Option.map_some, List.getElem?_cons_succ, List.getElem?_cons_zero, List.set_cons_succ, List.set_cons_zero, List.length_cons, List.length_nil, List.length_map, List.map_cons, List.map_nil, List.nil_append, List.cons_append, List.replicate, Nat.zero_add, Nat.reduceAdd, Nat.reduceSub, decide_true, decide_false, reduceIte, Nat.reduceLeDiff, Nat.reduceLT, Int.reduceLT, Int.reduceLE, Int.reduceNeg, Int.reducePow, and_self, or_self, and_true, true_and, or_true, true_or, Bool.not_true, Bool.not_false, pour_spend, spend_pour, Ob.sSeq, Ob.sSet, Ob.sOwn, Ob.sIf, Ob.sRet, Ob.sRetL, Ob.sRetO, Ob.sRetN, Ob.sDrop, Ob.sApp, Ob.sAug, Ob.sFrz, Ob.frz, Ob.sAsg, Ob.sPar, Ob.sE, Ob.bnd, Ob.lft, Ob.gSet, Ob.gsNil, Ob.gsCons, Ob.gTup, Ob.gLst, Ob.sFor, Ob.iL, Ob.iT, Ob.eVar, Ob.e2, Ob.op2, Ob.asB, Ob.truD, Ob.eChain, Ob.tAndF, Ob.tOrF, Ob.tNotF, Ob.eAnd, Ob.eOr, Ob.eNot, Ob.eIf, Ob.aNil, Ob.aCons, Ob.eTup, Ob.mkT, Ob.lLst, Ob.eL, Ob.mkL, Ob.eCall, Ob.pyAll, Ob.pE, Ob.pL, Ob.pT, Ob.pv, Ob.pvS, Ob.eIx, Ob.ixD, Ob.D.lst?, Ob.D.tup?, Ob.lLc, Ob.lcD, Ob.wipeE, Ob.pYes, Ob.sNext, Ob.fnO, Ob.entry, Ob.goE, Ob.goL, Ob.goN, Ob.eG, Ob.lG, Ob.eP, Ob.eFld, Ob.fld, Ob.sFld, Ob.setFld, Ob.putD, Ob.sFldAug, Ob.clsOf, Ob.eMeth, Ob.eMeth0, Ob.eProp, Ob.eMake, Ob.eMakeK, Ob.made, Ob.eSup, Ob.eSup0, Ob.eSupK, Ob.Mr.list, Ob.eIsC, Ob.isC, Ob.sRaise, Ob.eLenSet, Ob.lenSet, List.lookup_cons, List.lookup_nil, Bool.false_eq_true, List.set_set, beq_self_eq_true, Option.isNone_none, Option.map_none, Option.bind_none, lp_Plan_envelope_0, eIsI, i1, u1, u2, h]
theorem env_loop (hok : EvsOk st es) : ∀ (ls : List Ev) (x : Option Ob.Sl), (∀ e ∈ ls, e ∈ es) → (∀ e ∈ ls, e.nm ≠ nm) → ∃ y, Ob.forD (Ob.gSet 2) lp_Plan_envelope_0 (ls.map Ev.o) [V (.obj p), V (cT nm), x] st = some (.next [V (.obj p), V (cT nm), y] st)
  | [], x, _, _ => ⟨x, rfl⟩
  | e :: ls, x, h1, h2 => by
    obtain ⟨y, hy⟩ := env_loop hok ls (V e.o) (fun e he => h1 e (List.mem_cons_of_mem _ he)) fun e he => h2 e (List.mem_cons_of_mem _ he)
    refine ⟨y, ?_⟩
    have e1 := env_ne (p := p) (hok e (h1 e (List.mem_cons_self ..))) (h2 e (List.mem_cons_self ..))
    simp only [List.map_cons, Ob.forD, Ob.gSet, Option.bind_some, List.set_cons_succ, List.set_cons_zero, e1, hy]
theorem env_find (hok : EvsOk st es) : ∀ (ls : List Ev) (x : Option Ob.Sl), (∀ e ∈ ls, e ∈ es) → e ∈ ls → (ls.map (·.nm)).Nodup → e.nm = nm → Ob.forD (Ob.gSet 2) lp_Plan_envelope_0 (ls.map Ev.o) [V (.obj p), V (cT nm), x] st = some (.ret e.o st)
  | [], x, _, h, _, _ => by cases h
  | e' :: ls, x, h1, h2, h3, h4 => by
    by_cases q : e'.nm = nm
    · have e1 := env_eq (p := p) (hok e' (h1 e' (List.mem_cons_self ..))) q
      have hee : e = e' := by
        rcases List.mem_cons.mp h2 with z | z
        · exact z
        · rw [List.map_cons, List.nodup_cons] at h3
          exact absurd (List.mem_map.mpr ⟨e, z, by rw [h4, q]⟩) h3.1
      subst hee
      simp only [List.map_cons, Ob.forD, Ob.gSet, Option.bind_some, List.set_cons_succ, List.set_cons_zero, e1]
    · have e1 := env_ne (p := p) (hok e' (h1 e' (List.mem_cons_self ..))) q
      have hm : e ∈ ls := by
        rcases List.mem_cons.mp h2 with z | z
        · rw [z] at h4
          exact absurd h4 q
        · exact z
      have ih := env_find hok ls (V e'.o) (fun e he => h1 e (List.mem_cons_of_mem _ he)) hm (by rw [List.map_cons, List.nodup_cons] at h3; exact h3.2) h4
      simp only [List.map_cons, Ob.forD, Ob.gSet, Option.bind_some, List.set_cons_succ, List.set_cons_zero, e1, ih]
theorem penv_ok (hok : EvsOk st es) (hp : st[p]? = some (oP es gone)) (hnd : (es.map (·.nm)).Nodup) (he : e ∈ es) : F_Plan_envelope [.obj p, cT e.nm] st = some (.ok (.val e.o) st) := by
  have e1 := env_find (p := p) hok es none (fun _ h => h) he hnd rfl
  simp only [sSeq, sSet, sOwn, sPar, sParL,  sIf, sRet, sRetL, sRetO, sDrop, sAug, sApp, sFrz, frz, sAsg, gSet, gsNil, gsCons, gTupF, Fi.gSub, sFor, iL, iT, iR1, iR2, iZ, iEn, itemsK, eVar, eC, Fi.e2, Fi.e1, asB, eChain, tAndF, tOrF, tNotF, eAnd, eOr, eNot, eIf, aNil, aCons, eTup, lLst, eL, eCall, lCall, eCallF, lCallF, eSlT, lSl, oNone, oSome, ownIx, ownLen, lLc, wipeE, pYes, sNext, fnD, entry, fAdd_int, fSub, fMul_l, fMul_r, fDiv_ok, fMod_ok, fPow_ok, fLt, fLe, fGt, fGe, fEq_int, fEq_str, fEq_bool, fNe_int, fNe_str, fNe_bool, isN, fIs, fIsNot, fIx, fNeg, fLen, fMin, fMax, fTuple, fList, fIntB, fSum, fAll, fAny, at_0, at_1, at_2, eT, eS, eStep, eR, getInts_map, Option.bind_some, Option.map_some, List.getElem?_cons_succ, List.getElem?_cons_zero, List.set_cons_succ, List.set_cons_zero, List.length_cons, List.length_nil, List.length_map, List.map_cons, List.map_nil, List.nil_append, List.cons_append, List.replicate, Nat.zero_add, Nat.reduceAdd, Nat.reduceSub, decide_true, decide_false, reduceIte, Nat.reduceLeDiff, Nat.reduceLT, Int.reduceLT, Int.reduceLE, Int.reduceNeg, Int.reducePow, and_self, or_self, and_true, true_and, or_true, true_or, Bool.not_true, Bool.not_false, pour_spend, spend_pour, Ob.sSeq, Ob.sSet, Ob.sOwn, Ob.sIf, Ob.sRet, Ob.sRetL, Ob.sRetO, Ob.sRetN, Ob.sDrop, Ob.sApp, Ob.sAug, Ob.sFrz, Ob.frz, Ob.sAsg, Ob.sPar, Ob.sE, Ob.bnd, Ob.lft, Ob.gSet, Ob.gsNil, Ob.gsCons, Ob.gTup, Ob.gLst, Ob.sFor, Ob.iL, Ob.iT, Ob.eVar, Ob.e2, Ob.op2, Ob.asB, Ob.truD, Ob.eChain, Ob.tAndF, Ob.tOrF, Ob.tNotF, Ob.eAnd, Ob.eOr, Ob.eNot, Ob.eIf, Ob.aNil, Ob.aCons, Ob.eTup, Ob.mkT, Ob.lLst, Ob.eL, Ob.mkL, Ob.eCall, Ob.pyAll, Ob.pE, Ob.pL, Ob.pT, Ob.pv, Ob.pvS, Ob.eIx, Ob.ixD, Ob.D.lst?, Ob.D.tup?, Ob.lLc, Ob.lcD, Ob.wipeE, Ob.pYes, Ob.sNext, Ob.fnO, Ob.entry, Ob.goE, Ob.goL, Ob.goN, Ob.eG, Ob.lG, Ob.eP, Ob.eFld, Ob.fld, Ob.sFld, Ob.setFld, Ob.putD, Ob.sFldAug, Ob.clsOf, Ob.eMeth, Ob.eMeth0, Ob.pick, Ob.eProp, Ob.pickP, Ob.eMake, Ob.eMakeK, Ob.made, Ob.eSup, Ob.eSup0, Ob.eSupK, Ob.Mr.list, Ob.eIsC, Ob.isC, Ob.sRaise, Ob.eLenSet, Ob.lenSet, List.lookup_cons, List.lookup_nil, Bool.false_eq_true, List.set_set, beq_self_eq_true, Option.isNone_none, Option.map_none, Option.bind_none, F_Plan_envelope, b_Plan_envelope, hp, List.mem_singleton, e1,]
theorem penv_no (hok : EvsOk st es) (hp : st[p]? = some (oP es gone)) (hn : ∀ e ∈ es, e.nm ≠ nm) : F_Plan_envelope [.obj p, cT nm] st = some (.err "UnknownEnvelope" st) := by
  obtain ⟨y, e1⟩ := env_loop (p := p) (nm := nm) hok es none (fun _ h => h) hn
  simp only [sSeq, sSet, sOwn, sPar, sParL,  sIf, sRet, sRetL, sRetO, sDrop, sAug, sApp, sFrz, frz, sAsg, gSet, gsNil, gsCons, gTupF, Fi.gSub, sFor, iL, iT, iR1, iR2, iZ, iEn, itemsK, eVar, eC, Fi.e2, Fi.e1, asB, eChain, tAndF, tOrF, tNotF, eAnd, eOr, eNot, eIf, aNil, aCons, eTup, lLst, eL, eCall, lCall, eCallF, lCallF, eSlT, lSl, oNone, oSome, ownIx, ownLen, lLc, wipeE, pYes, sNext, fnD, entry, fAdd_int, fSub, fMul_l, fMul_r, fDiv_ok, fMod_ok, fPow_ok, fLt, fLe, fGt, fGe, fEq_int, fEq_str, fEq_bool, fNe_int, fNe_str, fNe_bool, isN, fIs, fIsNot, fIx, fNeg, fLen, fMin, fMax, fTuple, fList, fIntB, fSum, fAll, fAny, at_0, at_1, at_2, eT, eS, eStep, eR, getInts_map, Option.bind_some, Option.map_some, List.getElem?_cons_succ, List.getElem?_cons_zero, List.set_cons_succ, List.set_cons_zero, List.length_cons, List.length_nil, List.length_map, List.map_cons, List.map_nil, List.nil_append, List.cons_append, List.replicate, Nat.zero_add, Nat.reduceAdd, Nat.reduceSub, decide_true, decide_false, reduceIte, Nat.reduceLeDiff, Nat.reduceLT, Int.reduceLT, Int.reduceLE, Int.reduceNeg, Int.reducePow, and_self, or_self, and_true, true_and, or_true, true_or, Bool.not_true, Bool.not_false, pour_spend, spend_pour, Ob.sSeq, Ob.sSet, Ob.sOwn, Ob.sIf, Ob.sRet, Ob.sRetL, Ob.sRetO, Ob.sRetN, Ob.sDrop, Ob.sApp, Ob.sAug, Ob.sFrz, Ob.frz, Ob.sAsg, Ob.sPar, Ob.sE, Ob.bnd, Ob.lft, Ob.gSet, Ob.gsNil, Ob.gsCons, Ob.gTup, Ob.gLst, Ob.sFor, Ob.iL, Ob.iT, Ob.eVar, Ob.e2, Ob.op2, Ob.asB, Ob.truD, Ob.eChain, Ob.tAndF, Ob.tOrF, Ob.tNotF, Ob.eAnd, Ob.eOr, Ob.eNot, Ob.eIf, Ob.aNil, Ob.aCons, Ob.eTup, Ob.mkT, Ob.lLst, Ob.eL, Ob.mkL, Ob.eCall, Ob.pyAll, Ob.pE, Ob.pL, Ob.pT, Ob.pv, Ob.pvS, Ob.eIx, Ob.ixD, Ob.D.lst?, Ob.D.tup?, Ob.lLc, Ob.lcD, Ob.wipeE, Ob.pYes, Ob.sNext, Ob.fnO, Ob.entry, Ob.goE, Ob.goL, Ob.goN, Ob.eG, Ob.lG, Ob.eP, Ob.eFld, Ob.fld, Ob.sFld, Ob.setFld, Ob.putD, Ob.sFldAug, Ob.clsOf, Ob.eMeth, Ob.eMeth0, Ob.pick, Ob.eProp, Ob.pickP, Ob.eMake, Ob.eMakeK, Ob.made, Ob.eSup, Ob.eSup0, Ob.eSupK, Ob.Mr.list, Ob.eIsC, Ob.isC, Ob.sRaise, Ob.eLenSet, Ob.lenSet, List.lookup_cons, List.lookup_nil, Bool.false_eq_true, List.set_set, beq_self_eq_true, Option.isNone_none, Option.map_none, Option.bind_none, F_Plan_envelope, b_Plan_envelope, hp, List.mem_singleton, e1,]
end
end Lw

namespace Lw
open PySem L2 Fi
/-! ### flat tuples and lists equal themselves -/
def flt : PyData → Bool
  | .none => true
  | .bool _ => true
  | .int _ => true
  | .str x => PyData.canLay0 (.str x)
  | _ => false
theorem flt_lay : ∀ {l : List PyData}, l.all flt = true → PyData.canLayAll0 l = true ∧ PyData.depthAll l = 0
  | [], _ => ⟨rfl, rfl⟩
  | x :: l, h => by
    rw [List.all_cons, Bool.and_eq_true] at h
    obtain ⟨h1, h2⟩ := flt_lay h.2
    have h3 : PyData.canLay0 x = true ∧ PyData.depth x = 0 := by
      cases x with
      | none => exact ⟨rfl, rfl⟩
      | bool b => exact ⟨rfl, rfl⟩
      | int i => exact ⟨rfl, rfl⟩
      | str z => exact ⟨h.1, rfl⟩
      | _ => cases h.1
    refine ⟨?_, ?_⟩
    · rw [PyData.canLayAll0, h3.1, h1]
      rfl
    · rw [PyData.depthAll, h3.2, h2]
      rfl
theorem shaped_T {l : List PyData} (h : l.all flt = true) : SeqAt.shaped (.tuple l) = true := by
  obtain ⟨h1, h2⟩ := flt_lay h
  simp only [SeqAt.shaped, PyData.canLay0, h1, PyData.depth, h2]
  rfl
theorem shaped_L {l : List PyData} (h : l.all flt = true) : SeqAt.shaped (.list l) = true := by
  obtain ⟨h1, h2⟩ := flt_lay h
  simp only [SeqAt.shaped, PyData.canLay0, h1, PyData.depth, h2]
  rfl
theorem flt_ints (l : List Int) : (l.map PyData.int).all flt = true := by
  induction l with
  | nil => rfl
  | cons x l ih => rw [List.map_cons, List.all_cons, ih]; rfl
theorem flt_strs {l : List Str} (h : ∀ z ∈ l, PyData.canLay0 (.str z) = true) : (l.map PyData.str).all flt = true := by
  induction l with
  | nil => rfl
  | cons x l ih =>
    rw [List.map_cons, List.all_cons, ih fun z hz => h z (List.mem_cons_of_mem _ hz)]
    show (PyData.canLay0 (.str x) && true) = true
    rw [h x (List.mem_cons_self ..)]
    rfl
end Lw

namespace Lw
open PySem L2 Fi
/-! ### rows of envelopes -/
structure Wf (e : Ev) : Prop where
  k : e.κ = 0
  c1 : 1 ≤ e.cap
  c2 : e.cap ≤ 1000000
  h0 : 0 ≤ e.h
  h1 : e.h ≤ e.cap
  g0 : 0 ≤ e.g
  nm : F_Envelope_is_name [.str e.nm] = some (.val (.bool true))
  lay : PyData.canLay0 (.str e.nm) = true
structure Row (st : Ob.Stor) (es : List Ev) : Prop where
  ok : EvsOk st es
  wf : ∀ e ∈ es, Wf e
  nd : (es.map (·.n)).Nodup
  nn : (es.map (·.nm)).Nodup
theorem ok_app {st : Ob.Stor} {e : Ev} {o : Ob.Oj} (h : e.ok st) : e.ok (st ++ [o]) := ⟨h.1, by rw [List.getElem?_append_left (get_lt h.2)]; exact h.2⟩
theorem evs_app {st : Ob.Stor} {es : List Ev} {o : Ob.Oj} (h : EvsOk st es) : EvsOk (st ++ [o]) es := fun e he => ok_app (h e he)
theorem Row.app {st : Ob.Stor} {es : List Ev} {o : Ob.Oj} (R : Row st es) : Row (st ++ [o]) es := ⟨evs_app R.ok, R.wf, R.nd, R.nn⟩
theorem Row.nil {st : Ob.Stor} : Row st [] := ⟨fun _ h => absurd h List.not_mem_nil, fun _ h => absurd h List.not_mem_nil, List.nodup_nil, List.nodup_nil⟩
theorem Row.push {st : Ob.Stor} {es : List Ev} {e : Ev} (R : Row st es) (he : e.n = st.length) (w : Wf e) (hn : e.nm ∉ es.map (·.nm)) : Row (st ++ [e.oj]) (es ++ [e]) := by
  refine ⟨fun x hx => ?_, fun x hx => ?_, ?_, ?_⟩
  · rcases List.mem_append.mp hx with hx | hx
    · exact ok_app (R.ok x hx)
    · rw [List.mem_singleton.mp hx]
      exact ⟨w.k, by rw [he]; exact app_get⟩
  · rcases List.mem_append.mp hx with hx | hx
    · exact R.wf x hx
    · rw [List.mem_singleton.mp hx]
      exact w
  · rw [List.map_append, List.nodup_append]
    refine ⟨R.nd, by simp, fun a ha b hb q => ?_⟩
    obtain ⟨x, hx, rfl⟩ := List.mem_map.mp ha
    have := get_lt (R.ok x hx).2
    simp at hb
    omega
  · rw [List.map_append, List.nodup_append]
    refine ⟨R.nn, by simp, fun a ha b hb q => ?_⟩
    simp at hb
    subst q hb
    exact hn ha
theorem Row.lays {st : Ob.Stor} {es : List Ev} (R : Row st es) : ∀ z ∈ es.map (·.nm), PyData.canLay0 (.str z) = true := fun z hz => by
  obtain ⟨e, he, rfl⟩ := List.mem_map.mp hz
  exact (R.wf e he).lay
/-- one envelope is changed -/
theorem Row.set {st : Ob.Stor} {l1 l2 : List Ev} {e e' : Ev} (R : Row st (l1 ++ e :: l2)) (hn : e'.n = e.n) (hm : e'.nm = e.nm) (w : Wf e') : Row (st.set e.n e'.oj) (l1 ++ e' :: l2) := by
  have hmem : e ∈ l1 ++ e :: l2 := List.mem_append_right _ (List.mem_cons_self ..)
  have nds := R.nd
  rw [List.map_append, List.map_cons, List.nodup_append, List.nodup_cons] at nds
  refine ⟨fun x hx => ?_, fun x hx => ?_, ?_, ?_⟩
  · rcases List.mem_append.mp hx with hx | hx
    · have hne : e.n ≠ x.n := fun z => nds.2.2 x.n (List.mem_map.mpr ⟨x, hx, rfl⟩) e.n (List.mem_cons_self ..) z.symm
      exact ⟨(R.ok x (List.mem_append_left _ hx)).1, by rw [set_ne hne]; exact (R.ok x (List.mem_append_left _ hx)).2⟩
    · rcases List.mem_cons.mp hx with hx | hx
      · rw [hx]
        exact ⟨w.k, by rw [hn]; exact set_get (R.ok e hmem).2⟩
      · have hne : e.n ≠ x.n := fun z => nds.2.1.1 (List.mem_map.mpr ⟨x, hx, z.symm⟩)
        have hm2 : x ∈ l1 ++ e :: l2 := List.mem_append_right _ (List.mem_cons_of_mem _ hx)
        exact ⟨(R.ok x hm2).1, by rw [set_ne hne]; exact (R.ok x hm2).2⟩
  · rcases List.mem_append.mp hx with hx | hx
    · exact R.wf x (List.mem_append_left _ hx)
    · rcases List.mem_cons.mp hx with hx | hx
      · rw [hx]
        exact w
      · exact R.wf x (List.mem_append_right _ (List.mem_cons_of_mem _ hx))
  · have := R.nd
    rw [List.map_append, List.map_cons] at this ⊢
    rw [hn]
    exact this
  · have := R.nn
    rw [List.map_append, List.map_cons] at this ⊢
    rw [hm]
    exact this
section
variable {st : Ob.Stor} {es : List Ev}
theorem mk_row {k : Nat} {es : List Ev} (h1 : es ≠ []) (h6 : es.length ≤ 6) (R : Row st es) : F_Plan___init__ (.obj st.length :: es.map Ev.o) (st ++ [.ins "Plan" []]) = some (.ok (.val (.py .none)) (st ++ [oP es 0])) := by
  have e := pinit_ok (p := st.length) (st := st ++ [.ins "Plan" []]) h1 h6 (evs_app R.ok) R.nn app_get
  rwa [app_set] at e
theorem dat_0 {a : Ob.D} {l : List Ob.D} : atI (a :: l) 0 = some a := atI_nat (j := 0) rfl
theorem dat_5 {a b c d e f : Ob.D} {l : List Ob.D} : atI (a :: b :: c :: d :: e :: f :: l) 5 = some f := atI_nat (j := 5) rfl
theorem lplan_ok (h1 : es ≠ []) (h6 : es.length ≤ 6) (R : Row st es) : F__law_plan [.lst (es.map Ev.o)] st = some (.ok (.val (.obj st.length)) (st ++ [oP es 0])) := by
  have e := mk_row (k := 0) h1 h6 R
  clear R
  match es, h1, h6, e with
  | [e1], _, _, e =>
    have hl : Ob.eLenD (Ob.eVar 0) [some (.val (.lst [.obj e1.n]))] st = some (.ok (cI 1) st) := rfl
    replace e : F_Plan___init__ [.obj st.length, .obj e1.n] (st ++ [.ins "Plan" []]) = some (.ok (.val (.py .none)) (st ++ [oP [e1] 0])) := e
    simp only [sSeq, sSet, sOwn, sPar, sParL,  sIf, sRet, sRetL, sRetO, sDrop, sAug, sApp, sFrz, frz, sAsg, gSet, gsNil, gsCons, gTupF, Fi.gSub, sFor, iL, iT, iR1, iR2, iZ, iEn, itemsK, eVar, eC, Fi.e2, Fi.e1, asB, eChain, tAndF, tOrF, tNotF, eAnd, eOr, eNot, eIf, aNil, aCons, eTup, lLst, eL, eCall, lCall, eCallF, lCallF, eSlT, lSl, oNone, oSome, ownIx, ownLen, lLc, wipeE, pYes, sNext, fnD, entry, fAdd_int, fSub, fMul_l, fMul_r, fDiv_ok, fMod_ok, fPow_ok, fLt, fLe, fGt, fGe, fEq_int, fEq_str, fEq_bool, fNe_int, fNe_str, fNe_bool, isN, fIs, fIsNot, fIx, fNeg, fLen, fMin, fMax, fTuple, fList, fIntB, fSum, fAll, fAny, at_0, at_1, at_2, eT, eS, eStep, eR, getInts_map, Option.bind_some, Option.map_some, List.getElem?_cons_succ, List.getElem?_cons_zero, List.set_cons_succ, List.set_cons_zero, List.length_cons, List.length_nil, List.length_map, List.map_cons, List.map_nil, List.nil_append, List.cons_append, List.replicate, Nat.zero_add, Nat.reduceAdd, Nat.reduceSub, decide_true, decide_false, reduceIte, Nat.reduceLeDiff, Nat.reduceLT, Int.reduceLT, Int.reduceLE, Int.reduceNeg, Int.reducePow, and_self, or_self, and_true, true_and, or_true, true_or, Bool.not_true, Bool.not_false, pour_spend, spend_pour, Ob.sSeq, Ob.sSet, Ob.sOwn, Ob.sIf, Ob.sRet, Ob.sRetL, Ob.sRetO, Ob.sRetN, Ob.sDrop, Ob.sApp, Ob.sAug, Ob.sFrz, Ob.frz, Ob.sAsg, Ob.sPar, Ob.sE, Ob.bnd, Ob.lft, Ob.gSet, Ob.gsNil, Ob.gsCons, Ob.gTup, Ob.gLst, Ob.sFor, Ob.iL, Ob.iT, Ob.eVar, Ob.e2, Ob.op2, Ob.asB, Ob.truD, Ob.eChain, Ob.tAndF, Ob.tOrF, Ob.tNotF, Ob.eAnd, Ob.eOr, Ob.eNot, Ob.eIf, Ob.aNil, Ob.aCons, Ob.eTup, Ob.mkT, Ob.lLst, Ob.eL, Ob.mkL, Ob.eCall, Ob.pyAll, Ob.pE, Ob.pL, Ob.pT, Ob.pv, Ob.pvS, Ob.eIx, Ob.ixD, Ob.D.lst?, Ob.D.tup?, Ob.lLc, Ob.lcD, Ob.wipeE, Ob.pYes, Ob.sNext, Ob.fnO, Ob.entry, Ob.goE, Ob.goL, Ob.goN, Ob.eG, Ob.lG, Ob.eP, Ob.eFld, Ob.fld, Ob.sFld, Ob.setFld, Ob.putD, Ob.sFldAug, Ob.clsOf, Ob.eMeth, Ob.eMeth0, Ob.pick, Ob.eProp, Ob.pickP, Ob.eMake, Ob.eMakeK, Ob.made, Ob.eSup, Ob.eSup0, Ob.eSupK, Ob.Mr.list, Ob.eIsC, Ob.isC, Ob.sRaise, Ob.eLenSet, Ob.lenSet, List.lookup_cons, List.lookup_nil, Bool.false_eq_true, List.set_set, beq_self_eq_true, Option.isNone_none, Option.map_none, Option.bind_none, F__law_plan, b__law_plan, hl, Int.reduceEq, dat_0, dat_1, dat_2, dat_3, dat_4, dat_5, e]
  | [e1, e2], _, _, e =>
    have hl : Ob.eLenD (Ob.eVar 0) [some (.val (.lst [.obj e1.n, .obj e2.n]))] st = some (.ok (cI 2) st) := rfl
    replace e : F_Plan___init__ [.obj st.length, .obj e1.n, .obj e2.n] (st ++ [.ins "Plan" []]) = some (.ok (.val (.py .none)) (st ++ [oP [e1, e2] 0])) := e
    simp only [sSeq, sSet, sOwn, sPar, sParL,  sIf, sRet, sRetL, sRetO, sDrop, sAug, sApp, sFrz, frz, sAsg, gSet, gsNil, gsCons, gTupF, Fi.gSub, sFor, iL, iT, iR1, iR2, iZ, iEn, itemsK, eVar, eC, Fi.e2, Fi.e1, asB, eChain, tAndF, tOrF, tNotF, eAnd, eOr, eNot, eIf, aNil, aCons, eTup, lLst, eL, eCall, lCall, eCallF, lCallF, eSlT, lSl, oNone, oSome, ownIx, ownLen, lLc, wipeE, pYes, sNext, fnD, entry, fAdd_int, fSub, fMul_l, fMul_r, fDiv_ok, fMod_ok, fPow_ok, fLt, fLe, fGt, fGe, fEq_int, fEq_str, fEq_bool, fNe_int, fNe_str, fNe_bool, isN, fIs, fIsNot, fIx, fNeg, fLen, fMin, fMax, fTuple, fList, fIntB, fSum, fAll, fAny, at_0, at_1, at_2, eT, eS, eStep, eR, getInts_map, Option.bind_some, Option.map_some, List.getElem?_cons_succ, List.getElem?_cons_zero, List.set_cons_succ, List.set_cons_zero, List.length_cons, List.length_nil, List.length_map, List.map_cons, List.map_nil, List.nil_append, List.cons_append, List.replicate, Nat.zero_add, Nat.reduceAdd, Nat.reduceSub, decide_true, decide_false, reduceIte, Nat.reduceLeDiff, Nat.reduceLT, Int.reduceLT, Int.reduceLE, Int.reduceNeg, Int.reducePow, and_self, or_self, and_true, true_and, or_true, true_or, Bool.not_true, Bool.not_false, pour_spend, spend_pour, Ob.sSeq, Ob.sSet, Ob.sOwn, Ob.sIf, Ob.sRet, Ob.sRetL, Ob.sRetO, Ob.sRetN, Ob.sDrop, Ob.sApp, Ob.sAug, Ob.sFrz, Ob.frz, Ob.sAsg, Ob.sPar, Ob.sE, Ob.bnd, Ob.lft, Ob.gSet, Ob.gsNil, Ob.gsCons, Ob.gTup, Ob.gLst, Ob.sFor, Ob.iL, Ob.iT, Ob.eVar, Ob.e2, Ob.op2, Ob.asB, Ob.truD, Ob.eChain, Ob.tAndF, Ob.tOrF, Ob.tNotF, Ob.eAnd, Ob.eOr, Ob.eNot, Ob.eIf, Ob.aNil, Ob.aCons, Ob.eTup, Ob.mkT, Ob.lLst, Ob.eL, Ob.mkL, Ob.eCall, Ob.pyAll, Ob.pE, Ob.pL, Ob.pT, Ob.pv, Ob.pvS, Ob.eIx, Ob.ixD, Ob.D.lst?, Ob.D.tup?, Ob.lLc, Ob.lcD, Ob.wipeE, Ob.pYes, Ob.sNext, Ob.fnO, Ob.entry, Ob.goE, Ob.goL, Ob.goN, Ob.eG, Ob.lG, Ob.eP, Ob.eFld, Ob.fld, Ob.sFld, Ob.setFld, Ob.putD, Ob.sFldAug, Ob.clsOf, Ob.eMeth, Ob.eMeth0, Ob.pick, Ob.eProp, Ob.pickP, Ob.eMake, Ob.eMakeK, Ob.made, Ob.eSup, Ob.eSup0, Ob.eSupK, Ob.Mr.list, Ob.eIsC, Ob.isC, Ob.sRaise, Ob.eLenSet, Ob.lenSet, List.lookup_cons, List.lookup_nil, Bool.false_eq_true, List.set_set, beq_self_eq_true, Option.isNone_none, Option.map_none, Option.bind_none, F__law_plan, b__law_plan, hl, Int.reduceEq, dat_0, dat_1, dat_2, dat_3, dat_4, dat_5, e]
  | [e1, e2, e3], _, _, e =>
    have hl : Ob.eLenD (Ob.eVar 0) [some (.val (.lst [.obj e1.n, .obj e2.n, .obj e3.n]))] st = some (.ok (cI 3) st) := rfl
    replace e : F_Plan___init__ [.obj st.length, .obj e1.n, .obj e2.n, .obj e3.n] (st ++ [.ins "Plan" []]) = some (.ok (.val (.py .none)) (st ++ [oP [e1, e2, e3] 0])) := e
    simp only [sSeq, sSet, sOwn, sPar, sParL,  sIf, sRet, sRetL, sRetO, sDrop, sAug, sApp, sFrz, frz, sAsg, gSet, gsNil, gsCons, gTupF, Fi.gSub, sFor, iL, iT, iR1, iR2, iZ, iEn, itemsK, eVar, eC, Fi.e2, Fi.e1, asB, eChain, tAndF, tOrF, tNotF, eAnd, eOr, eNot, eIf, aNil, aCons, eTup, lLst, eL, eCall, lCall, eCallF, lCallF, eSlT, lSl, oNone, oSome, ownIx, ownLen, lLc, wipeE, pYes, sNext, fnD, entry, fAdd_int, fSub, fMul_l, fMul_r, fDiv_ok, fMod_ok, fPow_ok, fLt, fLe, fGt, fGe, fEq_int, fEq_str, fEq_bool, fNe_int, fNe_str, fNe_bool, isN, fIs, fIsNot, fIx, fNeg, fLen, fMin, fMax, fTuple, fList, fIntB, fSum, fAll, fAny, at_0, at_1, at_2, eT, eS, eStep, eR, getInts_map, Option.bind_some, Option.map_some, List.getElem?_cons_succ, List.getElem?_cons_zero, List.set_cons_succ, List.set_cons_zero, List.length_cons, List.length_nil, List.length_map, List.map_cons, List.map_nil, List.nil_append, List.cons_append, List.replicate, Nat.zero_add, Nat.reduceAdd, Nat.reduceSub, decide_true, decide_false, reduceIte, Nat.reduceLeDiff, Nat.reduceLT, Int.reduceLT, Int.reduceLE, Int.reduceNeg, Int.reducePow, and_self, or_self, and_true, true_and, or_true, true_or, Bool.not_true, Bool.not_false, pour_spend, spend_pour, Ob.sSeq, Ob.sSet, Ob.sOwn, Ob.sIf, Ob.sRet, Ob.sRetL, Ob.sRetO, Ob.sRetN, Ob.sDrop, Ob.sApp, Ob.sAug, Ob.sFrz, Ob.frz, Ob.sAsg, Ob.sPar, Ob.sE, Ob.bnd, Ob.lft, Ob.gSet, Ob.gsNil, Ob.gsCons, Ob.gTup, Ob.gLst, Ob.sFor, Ob.iL, Ob.iT, Ob.eVar, Ob.e2, Ob.op2, Ob.asB, Ob.truD, Ob.eChain, Ob.tAndF, Ob.tOrF, Ob.tNotF, Ob.eAnd, Ob.eOr, Ob.eNot, Ob.eIf, Ob.aNil, Ob.aCons, Ob.eTup, Ob.mkT, Ob.lLst, Ob.eL, Ob.mkL, Ob.eCall, Ob.pyAll, Ob.pE, Ob.pL, Ob.pT, Ob.pv, Ob.pvS, Ob.eIx, Ob.ixD, Ob.D.lst?, Ob.D.tup?, Ob.lLc, Ob.lcD, Ob.wipeE, Ob.pYes, Ob.sNext, Ob.fnO, Ob.entry, Ob.goE, Ob.goL, Ob.goN, Ob.eG, Ob.lG, Ob.eP, Ob.eFld, Ob.fld, Ob.sFld, Ob.setFld, Ob.putD, Ob.sFldAug, Ob.clsOf, Ob.eMeth, Ob.eMeth0, Ob.pick, Ob.eProp, Ob.pickP, Ob.eMake, Ob.eMakeK, Ob.made, Ob.eSup, Ob.eSup0, Ob.eSupK, Ob.Mr.list, Ob.eIsC, Ob.isC, Ob.sRaise, Ob.eLenSet, Ob.lenSet, List.lookup_cons, List.lookup_nil, Bool.false_eq_true, List.set_set, beq_self_eq_true, Option.isNone_none, Option.map_none, Option.bind_none, F__law_plan, b__law_plan, hl, Int.reduceEq, dat_0, dat_1, dat_2, dat_3, dat_4, dat_5, e]
  | [e1, e2, e3, e4], _, _, e =>
    have hl : Ob.eLenD (Ob.eVar 0) [some (.val (.lst [.obj e1.n, .obj e2.n, .obj e3.n, .obj e4.n]))] st = some (.ok (cI 4) st) := rfl
    replace e : F_Plan___init__ [.obj st.length, .obj e1.n, .obj e2.n, .obj e3.n, .obj e4.n] (st ++ [.ins "Plan" []]) = some (.ok (.val (.py .none)) (st ++ [oP [e1, e2, e3, e4] 0])) := e
    simp only [sSeq, sSet, sOwn, sPar, sParL,  sIf, sRet, sRetL, sRetO, sDrop, sAug, sApp, sFrz, frz, sAsg, gSet, gsNil, gsCons, gTupF, Fi.gSub, sFor, iL, iT, iR1, iR2, iZ, iEn, itemsK, eVar, eC, Fi.e2, Fi.e1, asB, eChain, tAndF, tOrF, tNotF, eAnd, eOr, eNot, eIf, aNil, aCons, eTup, lLst, eL, eCall, lCall, eCallF, lCallF, eSlT, lSl, oNone, oSome, ownIx, ownLen, lLc, wipeE, pYes, sNext, fnD, entry, fAdd_int, fSub, fMul_l, fMul_r, fDiv_ok, fMod_ok, fPow_ok, fLt, fLe, fGt, fGe, fEq_int, fEq_str, fEq_bool, fNe_int, fNe_str, fNe_bool, isN, fIs, fIsNot, fIx, fNeg, fLen, fMin, fMax, fTuple, fList, fIntB, fSum, fAll, fAny, at_0, at_1, at_2, eT, eS, eStep, eR, getInts_map, Option.bind_some, Option.map_some, List.getElem?_cons_succ, List.getElem?_cons_zero, List.set_cons_succ, List.set_cons_zero, List.length_cons, List.length_nil, List.length_map, List.map_cons, List.map_nil, List.nil_append, List.cons_append, List.replicate, Nat.zero_add, Nat.reduceAdd, Nat.reduceSub, decide_true, decide_false, reduceIte, Nat.reduceLeDiff, Nat.reduceLT, Int.reduceLT, Int.reduceLE, Int.reduceNeg, Int.reducePow, and_self, or_self, and_true, true_and, or_true, true_or, Bool.not_true, Bool.not_false, pour_spend, spend_pour, Ob.sSeq, Ob.sSet, Ob.sOwn, Ob.sIf, Ob.sRet, Ob.sRetL, Ob.sRetO, Ob.sRetN, Ob.sDrop, Ob.sApp, Ob.sAug, Ob.sFrz, Ob.frz, Ob.sAsg, Ob.sPar, Ob.sE, Ob.bnd, Ob.lft, Ob.gSet, Ob.gsNil, Ob.gsCons, Ob.gTup, Ob.gLst, Ob.sFor, Ob.iL, Ob.iT, Ob.eVar, Ob.e2, Ob.op2, Ob.asB, Ob.truD, Ob.eChain, Ob.tAndF, Ob.tOrF, Ob.tNotF, Ob.eAnd, Ob.eOr, Ob.eNot, Ob.eIf, Ob.aNil, Ob.aCons, Ob.eTup, Ob.mkT, Ob.lLst, Ob.eL, Ob.mkL, Ob.eCall, Ob.pyAll, Ob.pE, Ob.pL, Ob.pT, Ob.pv, Ob.pvS, Ob.eIx, Ob.ixD, Ob.D.lst?, Ob.D.tup?, Ob.lLc, Ob.lcD, Ob.wipeE, Ob.pYes, Ob.sNext, Ob.fnO, Ob.entry, Ob.goE, Ob.goL, Ob.goN, Ob.eG, Ob.lG, Ob.eP, Ob.eFld, Ob.fld, Ob.sFld, Ob.setFld, Ob.putD, Ob.sFldAug, Ob.clsOf, Ob.eMeth, Ob.eMeth0, Ob.pick, Ob.eProp, Ob.pickP, Ob.eMake, Ob.eMakeK, Ob.made, Ob.eSup, Ob.eSup0, Ob.eSupK, Ob.Mr.list, Ob.eIsC, Ob.isC, Ob.sRaise, Ob.eLenSet, Ob.lenSet, List.lookup_cons, List.lookup_nil, Bool.false_eq_true, List.set_set, beq_self_eq_true, Option.isNone_none, Option.map_none, Option.bind_none, F__law_plan, b__law_plan, hl, Int.reduceEq, dat_0, dat_1, dat_2, dat_3, dat_4, dat_5, e]
  | [e1, e2, e3, e4, e5], _, _, e =>
    have hl : Ob.eLenD (Ob.eVar 0) [some (.val (.lst [.obj e1.n, .obj e2.n, .obj e3.n, .obj e4.n, .obj e5.n]))] st = some (.ok (cI 5) st) := rfl
    replace e : F_Plan___init__ [.obj st.length, .obj e1.n, .obj e2.n, .obj e3.n, .obj e4.n, .obj e5.n] (st ++ [.ins "Plan" []]) = some (.ok (.val (.py .none)) (st ++ [oP [e1, e2, e3, e4, e5] 0])) := e
    simp only [sSeq, sSet, sOwn, sPar, sParL,  sIf, sRet, sRetL, sRetO, sDrop, sAug, sApp, sFrz, frz, sAsg, gSet, gsNil, gsCons, gTupF, Fi.gSub, sFor, iL, iT, iR1, iR2, iZ, iEn, itemsK, eVar, eC, Fi.e2, Fi.e1, asB, eChain, tAndF, tOrF, tNotF, eAnd, eOr, eNot, eIf, aNil, aCons, eTup, lLst, eL, eCall, lCall, eCallF, lCallF, eSlT, lSl, oNone, oSome, ownIx, ownLen, lLc, wipeE, pYes, sNext, fnD, entry, fAdd_int, fSub, fMul_l, fMul_r, fDiv_ok, fMod_ok, fPow_ok, fLt, fLe, fGt, fGe, fEq_int, fEq_str, fEq_bool, fNe_int, fNe_str, fNe_bool, isN, fIs, fIsNot, fIx, fNeg, fLen, fMin, fMax, fTuple, fList, fIntB, fSum, fAll, fAny, at_0, at_1, at_2, eT, eS, eStep, eR, getInts_map, Option.bind_some, Option.map_some, List.getElem?_cons_succ, List.getElem?_cons_zero, List.set_cons_succ, List.set_cons_zero, List.length_cons, List.length_nil, List.length_map, List.map_cons, List.map_nil, List.nil_append, List.cons_append, List.replicate, Nat.zero_add, Nat.reduceAdd, Nat.reduceSub, decide_true, decide_false, reduceIte, Nat.reduceLeDiff, Nat.reduceLT, Int.reduceLT, Int.reduceLE, Int.reduceNeg, Int.reducePow, and_self, or_self, and_true, true_and, or_true, true_or, Bool.not_true, Bool.not_false, pour_spend, spend_pour, Ob.sSeq, Ob.sSet, Ob.sOwn, Ob.sIf, Ob.sRet, Ob.sRetL, Ob.sRetO, Ob.sRetN, Ob.sDrop, Ob.sApp, Ob.sAug, Ob.sFrz, Ob.frz, Ob.sAsg, Ob.sPar, Ob.sE, Ob.bnd, Ob.lft, Ob.gSet, Ob.gsNil, Ob.gsCons, Ob.gTup, Ob.gLst, Ob.sFor, Ob.iL, Ob.iT, Ob.eVar, Ob.e2, Ob.op2, Ob.asB, Ob.truD, Ob.eChain, Ob.tAndF, Ob.tOrF, Ob.tNotF, Ob.eAnd, Ob.eOr, Ob.eNot, Ob.eIf, Ob.aNil, Ob.aCons, Ob.eTup, Ob.mkT, Ob.lLst, Ob.eL, Ob.mkL, Ob.eCall, Ob.pyAll, Ob.pE, Ob.pL, Ob.pT, Ob.pv, Ob.pvS, Ob.eIx, Ob.ixD, Ob.D.lst?, Ob.D.tup?, Ob.lLc, Ob.lcD, Ob.wipeE, Ob.pYes, Ob.sNext, Ob.fnO, Ob.entry, Ob.goE, Ob.goL, Ob.goN, Ob.eG, Ob.lG, Ob.eP, Ob.eFld, Ob.fld, Ob.sFld, Ob.setFld, Ob.putD, Ob.sFldAug, Ob.clsOf, Ob.eMeth, Ob.eMeth0, Ob.pick, Ob.eProp, Ob.pickP, Ob.eMake, Ob.eMakeK, Ob.made, Ob.eSup, Ob.eSup0, Ob.eSupK, Ob.Mr.list, Ob.eIsC, Ob.isC, Ob.sRaise, Ob.eLenSet, Ob.lenSet, List.lookup_cons, List.lookup_nil, Bool.false_eq_true, List.set_set, beq_self_eq_true, Option.isNone_none, Option.map_none, Option.bind_none, F__law_plan, b__law_plan, hl, Int.reduceEq, dat_0, dat_1, dat_2, dat_3, dat_4, dat_5, e]
  | [e1, e2, e3, e4, e5, e6], _, _, e =>
    have hl : Ob.eLenD (Ob.eVar 0) [some (.val (.lst [.obj e1.n, .obj e2.n, .obj e3.n, .obj e4.n, .obj e5.n, .obj e6.n]))] st = some (.ok (cI 6) st) := rfl
    replace e : F_Plan___init__ [.obj st.length, .obj e1.n, .obj e2.n, .obj e3.n, .obj e4.n, .obj e5.n, .obj e6.n] (st ++ [.ins "Plan" []]) = some (.ok (.val (.py .none)) (st ++ [oP [e1, e2, e3, e4, e5, e6] 0])) := e
    simp only [sSeq, sSet, sOwn, sPar, sParL,  sIf, sRet, sRetL, sRetO, sDrop, sAug, sApp, sFrz, frz, sAsg, gSet, gsNil, gsCons, gTupF, Fi.gSub, sFor, iL, iT, iR1, iR2, iZ, iEn, itemsK, eVar, eC, Fi.e2, Fi.e1, asB, eChain, tAndF, tOrF, tNotF, eAnd, eOr, eNot, eIf, aNil, aCons, eTup, lLst, eL, eCall, lCall, eCallF, lCallF, eSlT, lSl, oNone, oSome, ownIx, ownLen, lLc, wipeE, pYes, sNext, fnD, entry, fAdd_int, fSub, fMul_l, fMul_r, fDiv_ok, fMod_ok, fPow_ok, fLt, fLe, fGt, fGe, fEq_int, fEq_str, fEq_bool, fNe_int, fNe_str, fNe_bool, isN, fIs, fIsNot, fIx, fNeg, fLen, fMin, fMax, fTuple, fList, fIntB, fSum, fAll, fAny, at_0, at_1, at_2, eT, eS, eStep, eR, getInts_map, Option.bind_some, Option.map_some, List.getElem?_cons_succ, List.getElem?_cons_zero, List.set_cons_succ, List.set_cons_zero, List.length_cons, List.length_nil, List.length_map, List.map_cons, List.map_nil, List.nil_append, List.cons_append, List.replicate, Nat.zero_add, Nat.reduceAdd, Nat.reduceSub, decide_true, decide_false, reduceIte, Nat.reduceLeDiff, Nat.reduceLT, Int.reduceLT, Int.reduceLE, Int.reduceNeg, Int.reducePow, and_self, or_self, and_true, true_and, or_true, true_or, Bool.not_true, Bool.not_false, pour_spend, spend_pour, Ob.sSeq, Ob.sSet, Ob.sOwn, Ob.sIf, Ob.sRet, Ob.sRetL, Ob.sRetO, Ob.sRetN, Ob.sDrop, Ob.sApp, Ob.sAug, Ob.sFrz, Ob.frz, Ob.sAsg, Ob.sPar, Ob.sE, Ob.bnd, Ob.lft, Ob.gSet, Ob.gsNil, Ob.gsCons, Ob.gTup, Ob.gLst, Ob.sFor, Ob.iL, Ob.iT, Ob.eVar, Ob.e2, Ob.op2, Ob.asB, Ob.truD, Ob.eChain, Ob.tAndF, Ob.tOrF, Ob.tNotF, Ob.eAnd, Ob.eOr, Ob.eNot, Ob.eIf, Ob.aNil, Ob.aCons, Ob.eTup, Ob.mkT, Ob.lLst, Ob.eL, Ob.mkL, Ob.eCall, Ob.pyAll, Ob.pE, Ob.pL, Ob.pT, Ob.pv, Ob.pvS, Ob.eIx, Ob.ixD, Ob.D.lst?, Ob.D.tup?, Ob.lLc, Ob.lcD, Ob.wipeE, Ob.pYes, Ob.sNext, Ob.fnO, Ob.entry, Ob.goE, Ob.goL, Ob.goN, Ob.eG, Ob.lG, Ob.eP, Ob.eFld, Ob.fld, Ob.sFld, Ob.setFld, Ob.putD, Ob.sFldAug, Ob.clsOf, Ob.eMeth, Ob.eMeth0, Ob.pick, Ob.eProp, Ob.pickP, Ob.eMake, Ob.eMakeK, Ob.made, Ob.eSup, Ob.eSup0, Ob.eSupK, Ob.Mr.list, Ob.eIsC, Ob.isC, Ob.sRaise, Ob.eLenSet, Ob.lenSet, List.lookup_cons, List.lookup_nil, Bool.false_eq_true, List.set_set, beq_self_eq_true, Option.isNone_none, Option.map_none, Option.bind_none, F__law_plan, b__law_plan, hl, Int.reduceEq, dat_0, dat_1, dat_2, dat_3, dat_4, dat_5, e]
  | _ :: _ :: _ :: _ :: _ :: _ :: _ :: _, _, h, _ => simp at h
end
end Lw

namespace Lw
open PySem L2 Fi
/-! ### pours of any amount, takes; one class -/
def inc (e : Ev) (t : Int) : Ev := { e with h := e.h + t }
def pourE : Int → List Ev → List Ev
  | _, [] => []
  | a, e :: es => inc e (min a (e.cap - e.h)) :: pourE (a - min a (e.cap - e.h)) es
def restE : Int → List Ev → Int
  | a, [] => a
  | a, e :: es => restE (a - min a (e.cap - e.h)) es
theorem inc_wf {e : Ev} {t : Int} (w : Wf e) (h0 : 0 ≤ e.h + t) (h1 : e.h + t ≤ e.cap) : Wf (inc e t) := ⟨w.k, w.c1, w.c2, h0, h1, w.g0, w.nm, w.lay⟩
theorem pour_n : ∀ (es : List Ev) (a : Int), (pourE a es).map (·.n) = es.map (·.n)
  | [], a => rfl
  | e :: es, a => by rw [pourE, List.map_cons, List.map_cons, pour_n]; rfl
theorem pour_o : ∀ (es : List Ev) (a : Int), (pourE a es).map Ev.o = es.map Ev.o
  | [], a => rfl
  | e :: es, a => by rw [pourE, List.map_cons, List.map_cons, pour_o]; rfl
theorem pour_loop {p : Nat} {x1 x3 : Option Ob.Sl} : ∀ (es l1 : List Ev) (st : Ob.Stor) (a : Int) (x4 : Option Ob.Sl), Row st (l1 ++ es) → 0 ≤ a → a ≤ 1000000000 →
    ∃ st' y4, Ob.forD (Ob.gSet 4) lp_Plan_pour_1 (es.map Ev.o) [V (.obj p), x1, V (cI a), x3, x4] st = some (.next [V (.obj p), x1, V (cI (restE a es)), x3, y4] st') ∧ Row st' (l1 ++ pourE a es) ∧ st'.length = st.length ∧ 0 ≤ restE a es ∧ ∀ i, i ∉ es.map (·.n) → st'[i]? = st[i]?
  | [], l1, st, a, x4, R, h0, _ => ⟨st, x4, by simp [Ob.forD, restE], R, rfl, h0, fun _ _ => rfl⟩
  | e :: es, l1, st, a, x4, R, h0, h2 => by
    have w := R.wf e (List.mem_append_right _ (List.mem_cons_self ..))
    have ho := R.ok e (List.mem_append_right _ (List.mem_cons_self ..))
    have w1 := w.h1
    have w0 := w.h0
    have p1 := kput_pick ho.2
    have p2 := kput (a := a) ho.2 h0 h2 w.h1
    have R2 := R.set (e' := inc e (min a (e.cap - e.h))) rfl rfl (inc_wf w (by omega) (by omega))
    have a0 : 0 ≤ a - min a (e.cap - e.h) := by omega
    have a1 : a - min a (e.cap - e.h) ≤ 1000000000 := by omega
    have hoj : oE (cT e.nm) e.cap (e.h + min a (e.cap - e.h)) = (inc e (min a (e.cap - e.h))).oj := rfl
    rw [hoj] at p2
    rw [pourE, restE]
    generalize min a (e.cap - e.h) = t at *
    obtain ⟨st', y4, q1, q2, q3, q0, q4⟩ := pour_loop (p := p) (x1 := x1) (x3 := x3) es (l1 ++ [inc e t]) (st.set e.n (inc e t).oj) (a - t) (V (.obj e.n)) (by rw [List.append_assoc]; exact R2) a0 a1
    refine ⟨st', y4, ?_, ?_, by rw [q3, List.length_set], q0, fun i hi => ?_⟩
    · have s1 : lp_Plan_pour_1 [V (.obj p), x1, V (cI a), x3, V (.obj e.n)] st = some (.next [V (.obj p), x1, V (cI (a - t)), x3, V (.obj e.n)] (st.set e.n (inc e t).oj)) := by
        simp only [sSeq, sSet, sOwn, sPar, sParL,  sIf, sRet, sRetL, sRetO, sDrop, sAug, sApp, sFrz, frz, sAsg, gSet, gsNil, gsCons, gTupF, Fi.gSub, sFor, iL, iT, iR1, iR2, iZ, iEn, itemsK, eVar, eC, Fi.e2, Fi.e1, asB, eChain, tAndF, tOrF, tNotF, eAnd, eOr, eNot, eIf, aNil, aCons, eTup, lLst, eL, eCall, lCall, eCallF, lCallF, eSlT, lSl, oNone, oSome, ownIx, ownLen, lLc, wipeE, pYes, sNext, fnD, entry, fAdd_int, fSub, fMul_l, fMul_r, fDiv_ok, fMod_ok, fPow_ok, fLt, fLe, fGt, fGe, fEq_int, fEq_str, fEq_bool, fNe_int, fNe_str, fNe_bool, isN, fIs, fIsNot, fIx, fNeg, fLen, fMin, fMax, fTuple, fList, fIntB, fSum, fAll, fAny, at_0, at_1, at_2, eT, eS, eStep, eR, getInts_map, Option.bind_some, Option.map_some, List.getElem?_cons_succ, List.getElem?_cons_zero, List.set_cons_succ, List.set_cons_zero, List.length_cons, List.length_nil, List.length_map, List.map_cons, List.map_nil, List.nil_append, List.cons_append, List.replicate, Nat.zero_add, Nat.reduceAdd, Nat.reduceSub, decide_true, decide_false, reduceIte, Nat.reduceLeDiff, Nat.reduceLT, Int.reduceLT, Int.reduceLE, Int.reduceNeg, Int.reducePow, and_self, or_self, and_true, true_and, or_true, true_or, Bool.not_true, Bool.not_false, pour_spend, spend_pour, Ob.sSeq, Ob.sSet, Ob.sOwn, Ob.sIf, Ob.sRet, Ob.sRetL, Ob.sRetO, Ob.sRetN, Ob.sDrop, Ob.sApp, Ob.sAug, Ob.sFrz, Ob.frz, Ob.sAsg, Ob.sPar, Ob.sE, Ob.bnd, Ob.lft, Ob.gSet, Ob.gsNil, Ob.gsCons, Ob.gTup, Ob.gLst, Ob.sFor, Ob.iL, Ob.iT, Ob.eVar, Ob.e2, Ob.op2, Ob.asB, Ob.truD, Ob.eChain, Ob.tAndF, Ob.tOrF, Ob.tNotF, Ob.eAnd, Ob.eOr, Ob.eNot, Ob.eIf, Ob.aNil, Ob.aCons, Ob.eTup, Ob.mkT, Ob.lLst, Ob.eL, Ob.mkL, Ob.eCall, Ob.pyAll, Ob.pE, Ob.pL, Ob.pT, Ob.pv, Ob.pvS, Ob.eIx, Ob.ixD, Ob.D.lst?, Ob.D.tup?, Ob.lLc, Ob.lcD, Ob.wipeE, Ob.pYes, Ob.sNext, Ob.fnO, Ob.entry, Ob.goE, Ob.goL, Ob.goN, Ob.eG, Ob.lG, Ob.eP, Ob.eFld, Ob.fld, Ob.sFld, Ob.setFld, Ob.putD, Ob.sFldAug, Ob.clsOf, Ob.eMeth, Ob.eMeth0, Ob.eProp, Ob.eMake, Ob.eMakeK, Ob.made, Ob.eSup, Ob.eSup0, Ob.eSupK, Ob.Mr.list, Ob.eIsC, Ob.isC, Ob.sRaise, Ob.eLenSet, Ob.lenSet, List.lookup_cons, List.lookup_nil, Bool.false_eq_true, List.set_set, beq_self_eq_true, Option.isNone_none, Option.map_none, Option.bind_none, lp_Plan_pour_1, p1, p2]
      show Ob.forD (Ob.gSet 4) lp_Plan_pour_1 (.obj e.n :: es.map Ev.o) _ st = _
      simp only [Ob.forD]
      show (Option.bind (some [V (.obj p), x1, V (cI a), x3, V (.obj e.n)]) _) = _
      rw [Option.bind_some, s1]
      exact q1
    · rw [List.append_assoc] at q2
      exact q2
    · have hi' : i ≠ e.n ∧ i ∉ es.map (·.n) := by
        rw [List.map_cons, List.mem_cons, not_or] at hi
        exact hi
      rw [q4 i hi'.2, List.getElem?_set_ne (Ne.symm hi'.1)]
theorem row_plan {st : Ob.Stor} {es : List Ev} {p : Nat} {fs : List (Str × Ob.D)} (R : EvsOk st es) (hp : st[p]? = some (.ins "Plan" fs)) : p ∉ es.map (·.n) := by
  intro z
  obtain ⟨e, he, rfl⟩ := List.mem_map.mp z
  have := (R e he).2
  rw [hp] at this
  have q : ("Plan" : Str) = "Envelope" := by
    have := Option.some.inj this
    injection this
  exact absurd q (by decide +kernel)
/-- the store but for a row and its plan -/
def Frm (st st' : Ob.Stor) (p : Nat) (es : List Ev) : Prop := st'.length = st.length ∧ ∀ i, i ≠ p → i ∉ es.map (·.n) → st'[i]? = st[i]?
theorem pour_ok {st : Ob.Stor} {es : List Ev} {p : Nat} {gone a : Int} (R : Row st es) (hp : st[p]? = some (oP es gone)) (h0 : 0 ≤ a) (h1 : a ≤ 1000000000) :
    ∃ st', F_Plan_pour [.obj p, cI a] st = some (.ok (.val (cI (gone + restE a es - gone))) st') ∧ Row st' (pourE a es) ∧ st'[p]? = some (oP (pourE a es) (gone + restE a es)) ∧ Frm st st' p es := by
  have hpn := row_plan R.ok hp
  have ck := amount_ok (st := st) (a := a) h0 h1
  obtain ⟨st', y4, q1, q2, q3, _, q4⟩ := pour_loop (p := p) (x1 := V (.py (.tuple [.int a]))) (x3 := V (cI gone)) es [] st a none R h0 h1
  rw [List.nil_append] at q2
  have hp' := (q4 p hpn).trans hp
  generalize hr0 : restE a es = r at *
  refine ⟨st'.set p (oP es (gone + r)), ?_, ?_, ?_, ⟨by rw [List.length_set, q3], fun i h1 h2 => ?_⟩⟩
  · have l1 : Ob.forD (Ob.gSet 2) lp_Plan_pour_0 [cI a] [V (.obj p), V (.py (.tuple [.int a])), none, none, none] st = some (.next [V (.obj p), V (.py (.tuple [.int a])), V (cI a), none, none] st) := by
      simp only [sSeq, sSet, sOwn, sPar, sParL,  sIf, sRet, sRetL, sRetO, sDrop, sAug, sApp, sFrz, frz, sAsg, gSet, gsNil, gsCons, gTupF, Fi.gSub, sFor, iL, iT, iR1, iR2, iZ, iEn, itemsK, eVar, eC, Fi.e2, Fi.e1, asB, eChain, tAndF, tOrF, tNotF, eAnd, eOr, eNot, eIf, aNil, aCons, eTup, lLst, eL, eCall, lCall, eCallF, lCallF, eSlT, lSl, oNone, oSome, ownIx, ownLen, lLc, wipeE, pYes, sNext, fnD, entry, fAdd_int, fSub, fMul_l, fMul_r, fDiv_ok, fMod_ok, fPow_ok, fLt, fLe, fGt, fGe, fEq_int, fEq_str, fEq_bool, fNe_int, fNe_str, fNe_bool, isN, fIs, fIsNot, fIx, fNeg, fLen, fMin, fMax, fTuple, fList, fIntB, fSum, fAll, fAny, at_0, at_1, at_2, eT, eS, eStep, eR, getInts_map, Option.bind_some, Option.map_some, List.getElem?_cons_succ, List.getElem?_cons_zero, List.set_cons_succ, List.set_cons_zero, List.length_cons, List.length_nil, List.length_map, List.map_cons, List.map_nil, List.nil_append, List.cons_append, List.replicate, Nat.zero_add, Nat.reduceAdd, Nat.reduceSub, decide_true, decide_false, reduceIte, Nat.reduceLeDiff, Nat.reduceLT, Int.reduceLT, Int.reduceLE, Int.reduceNeg, Int.reducePow, and_self, or_self, and_true, true_and, or_true, true_or, Bool.not_true, Bool.not_false, pour_spend, spend_pour, Ob.sSeq, Ob.sSet, Ob.sOwn, Ob.sIf, Ob.sRet, Ob.sRetL, Ob.sRetO, Ob.sRetN, Ob.sDrop, Ob.sApp, Ob.sAug, Ob.sFrz, Ob.frz, Ob.sAsg, Ob.sPar, Ob.sE, Ob.bnd, Ob.lft, Ob.gSet, Ob.gsNil, Ob.gsCons, Ob.gTup, Ob.gLst, Ob.sFor, Ob.iL, Ob.iT, Ob.eVar, Ob.e2, Ob.op2, Ob.asB, Ob.truD, Ob.eChain, Ob.tAndF, Ob.tOrF, Ob.tNotF, Ob.eAnd, Ob.eOr, Ob.eNot, Ob.eIf, Ob.aNil, Ob.aCons, Ob.eTup, Ob.mkT, Ob.lLst, Ob.eL, Ob.mkL, Ob.eCall, Ob.pyAll, Ob.pE, Ob.pL, Ob.pT, Ob.pv, Ob.pvS, Ob.eIx, Ob.ixD, Ob.D.lst?, Ob.D.tup?, Ob.lLc, Ob.lcD, Ob.wipeE, Ob.pYes, Ob.sNext, Ob.fnO, Ob.entry, Ob.goE, Ob.goL, Ob.goN, Ob.eG, Ob.lG, Ob.eP, Ob.eFld, Ob.fld, Ob.sFld, Ob.setFld, Ob.putD, Ob.sFldAug, Ob.clsOf, Ob.eMeth, Ob.eMeth0, Ob.eProp, Ob.eMake, Ob.eMakeK, Ob.made, Ob.eSup, Ob.eSup0, Ob.eSupK, Ob.Mr.list, Ob.eIsC, Ob.isC, Ob.sRaise, Ob.eLenSet, Ob.lenSet, List.lookup_cons, List.lookup_nil, Bool.false_eq_true, List.set_set, beq_self_eq_true, Option.isNone_none, Option.map_none, Option.bind_none, Ob.forD, lp_Plan_pour_0, ck]
    have hr : Ob.iL (Ob.eFld ["Plan"] "row" (Ob.eVar 0)) [V (.obj p), V (.py (.tuple [.int a])), V (cI a), V (cI gone), none] st = some (.ok (es.map Ev.o) st) := by
      simp only [sSeq, sSet, sOwn, sPar, sParL,  sIf, sRet, sRetL, sRetO, sDrop, sAug, sApp, sFrz, frz, sAsg, gSet, gsNil, gsCons, gTupF, Fi.gSub, sFor, iL, iT, iR1, iR2, iZ, iEn, itemsK, eVar, eC, Fi.e2, Fi.e1, asB, eChain, tAndF, tOrF, tNotF, eAnd, eOr, eNot, eIf, aNil, aCons, eTup, lLst, eL, eCall, lCall, eCallF, lCallF, eSlT, lSl, oNone, oSome, ownIx, ownLen, lLc, wipeE, pYes, sNext, fnD, entry, fAdd_int, fSub, fMul_l, fMul_r, fDiv_ok, fMod_ok, fPow_ok, fLt, fLe, fGt, fGe, fEq_int, fEq_str, fEq_bool, fNe_int, fNe_str, fNe_bool, isN, fIs, fIsNot, fIx, fNeg, fLen, fMin, fMax, fTuple, fList, fIntB, fSum, fAll, fAny, at_0, at_1, at_2, eT, eS, eStep, eR, getInts_map, Option.bind_some, Option.map_some, List.getElem?_cons_succ, List.getElem?_cons_zero, List.set_cons_succ, List.set_cons_zero, List.length_cons, List.length_nil, List.length_map, List.map_cons, List.map_nil, List.nil_append, List.cons_append, List.replicate, Nat.zero_add, Nat.reduceAdd, Nat.reduceSub, decide_true, decide_false, reduceIte, Nat.reduceLeDiff, Nat.reduceLT, Int.reduceLT, Int.reduceLE, Int.reduceNeg, Int.reducePow, and_self, or_self, and_true, true_and, or_true, true_or, Bool.not_true, Bool.not_false, pour_spend, spend_pour, Ob.sSeq, Ob.sSet, Ob.sOwn, Ob.sIf, Ob.sRet, Ob.sRetL, Ob.sRetO, Ob.sRetN, Ob.sDrop, Ob.sApp, Ob.sAug, Ob.sFrz, Ob.frz, Ob.sAsg, Ob.sPar, Ob.sE, Ob.bnd, Ob.lft, Ob.gSet, Ob.gsNil, Ob.gsCons, Ob.gTup, Ob.gLst, Ob.sFor, Ob.iL, Ob.iT, Ob.eVar, Ob.e2, Ob.op2, Ob.asB, Ob.truD, Ob.eChain, Ob.tAndF, Ob.tOrF, Ob.tNotF, Ob.eAnd, Ob.eOr, Ob.eNot, Ob.eIf, Ob.aNil, Ob.aCons, Ob.eTup, Ob.mkT, Ob.lLst, Ob.eL, Ob.mkL, Ob.eCall, Ob.pyAll, Ob.pE, Ob.pL, Ob.pT, Ob.pv, Ob.pvS, Ob.eIx, Ob.ixD, Ob.D.lst?, Ob.D.tup?, Ob.lLc, Ob.lcD, Ob.wipeE, Ob.pYes, Ob.sNext, Ob.fnO, Ob.entry, Ob.goE, Ob.goL, Ob.goN, Ob.eG, Ob.lG, Ob.eP, Ob.eFld, Ob.fld, Ob.sFld, Ob.setFld, Ob.putD, Ob.sFldAug, Ob.clsOf, Ob.eMeth, Ob.eMeth0, Ob.eProp, Ob.eMake, Ob.eMakeK, Ob.made, Ob.eSup, Ob.eSup0, Ob.eSupK, Ob.Mr.list, Ob.eIsC, Ob.isC, Ob.sRaise, Ob.eLenSet, Ob.lenSet, List.lookup_cons, List.lookup_nil, Bool.false_eq_true, List.set_set, beq_self_eq_true, Option.isNone_none, Option.map_none, Option.bind_none, hp, List.mem_singleton,]
    have l2 : lp_Plan_pour_2 [V (.obj p), V (.py (.tuple [.int a])), V (cI a), V (cI gone), none] st = some (.next [V (.obj p), V (.py (.tuple [.int a])), V (cI r), V (cI gone), y4] (st'.set p (oP es (gone + r)))) := by
      unfold lp_Plan_pour_2
      refine oseq (e := [V (.obj p), V (.py (.tuple [.int a])), V (cI r), V (cI gone), y4]) (s := st') ?_ ?_
      · unfold Ob.sFor Ob.sE
        rw [hr]
        exact q1
      · simp only [sSeq, sSet, sOwn, sPar, sParL,  sIf, sRet, sRetL, sRetO, sDrop, sAug, sApp, sFrz, frz, sAsg, gSet, gsNil, gsCons, gTupF, Fi.gSub, sFor, iL, iT, iR1, iR2, iZ, iEn, itemsK, eVar, eC, Fi.e2, Fi.e1, asB, eChain, tAndF, tOrF, tNotF, eAnd, eOr, eNot, eIf, aNil, aCons, eTup, lLst, eL, eCall, lCall, eCallF, lCallF, eSlT, lSl, oNone, oSome, ownIx, ownLen, lLc, wipeE, pYes, sNext, fnD, entry, fAdd_int, fSub, fMul_l, fMul_r, fDiv_ok, fMod_ok, fPow_ok, fLt, fLe, fGt, fGe, fEq_int, fEq_str, fEq_bool, fNe_int, fNe_str, fNe_bool, isN, fIs, fIsNot, fIx, fNeg, fLen, fMin, fMax, fTuple, fList, fIntB, fSum, fAll, fAny, at_0, at_1, at_2, eT, eS, eStep, eR, getInts_map, Option.bind_some, Option.map_some, List.getElem?_cons_succ, List.getElem?_cons_zero, List.set_cons_succ, List.set_cons_zero, List.length_cons, List.length_nil, List.length_map, List.map_cons, List.map_nil, List.nil_append, List.cons_append, List.replicate, Nat.zero_add, Nat.reduceAdd, Nat.reduceSub, decide_true, decide_false, reduceIte, Nat.reduceLeDiff, Nat.reduceLT, Int.reduceLT, Int.reduceLE, Int.reduceNeg, Int.reducePow, and_self, or_self, and_true, true_and, or_true, true_or, Bool.not_true, Bool.not_false, pour_spend, spend_pour, Ob.sSeq, Ob.sSet, Ob.sOwn, Ob.sIf, Ob.sRet, Ob.sRetL, Ob.sRetO, Ob.sRetN, Ob.sDrop, Ob.sApp, Ob.sAug, Ob.sFrz, Ob.frz, Ob.sAsg, Ob.sPar, Ob.sE, Ob.bnd, Ob.lft, Ob.gSet, Ob.gsNil, Ob.gsCons, Ob.gTup, Ob.gLst, Ob.sFor, Ob.iL, Ob.iT, Ob.eVar, Ob.e2, Ob.op2, Ob.asB, Ob.truD, Ob.eChain, Ob.tAndF, Ob.tOrF, Ob.tNotF, Ob.eAnd, Ob.eOr, Ob.eNot, Ob.eIf, Ob.aNil, Ob.aCons, Ob.eTup, Ob.mkT, Ob.lLst, Ob.eL, Ob.mkL, Ob.eCall, Ob.pyAll, Ob.pE, Ob.pL, Ob.pT, Ob.pv, Ob.pvS, Ob.eIx, Ob.ixD, Ob.D.lst?, Ob.D.tup?, Ob.lLc, Ob.lcD, Ob.wipeE, Ob.pYes, Ob.sNext, Ob.fnO, Ob.entry, Ob.goE, Ob.goL, Ob.goN, Ob.eG, Ob.lG, Ob.eP, Ob.eFld, Ob.fld, Ob.sFld, Ob.setFld, Ob.putD, Ob.sFldAug, Ob.clsOf, Ob.eMeth, Ob.eMeth0, Ob.eProp, Ob.eMake, Ob.eMakeK, Ob.made, Ob.eSup, Ob.eSup0, Ob.eSupK, Ob.Mr.list, Ob.eIsC, Ob.isC, Ob.sRaise, Ob.eLenSet, Ob.lenSet, List.lookup_cons, List.lookup_nil, Bool.false_eq_true, List.set_set, beq_self_eq_true, Option.isNone_none, Option.map_none, Option.bind_none, hp', List.mem_singleton, bq_gone_row, qe_gone_row, bq_row_gone, qe_row_gone]
    have hf : (st'.set p (oP es (gone + r)))[p]? = some (oP es (gone + r)) := set_get hp'
    generalize hS : st'.set p (oP es (gone + r)) = S at *
    have l3 : Ob.forD (Ob.gSet 2) lp_Plan_pour_2 [cI a] [V (.obj p), V (.py (.tuple [.int a])), V (cI a), V (cI gone), none] st = some (.next [V (.obj p), V (.py (.tuple [.int a])), V (cI r), V (cI gone), y4] S) := by
      simp only [Ob.forD]
      show (Option.bind (some [V (.obj p), V (.py (.tuple [.int a])), V (cI a), V (cI gone), none]) _) = _
      rw [Option.bind_some, l2]
    show Ob.fnStar 5 b_Plan_pour [.obj p, cI a] st = _
    have hb : b_Plan_pour [V (.obj p), V (.py (.tuple [.int a])), none, none, none] st = some (.ret (cI (gone + r - gone)) S) := by
      unfold b_Plan_pour
      refine oseq (e := [V (.obj p), V (.py (.tuple [.int a])), V (cI a), none, none]) (s := st) ?_ ?_
      · simp only [sSeq, sSet, sOwn, sPar, sParL,  sIf, sRet, sRetL, sRetO, sDrop, sAug, sApp, sFrz, frz, sAsg, gSet, gsNil, gsCons, gTupF, Fi.gSub, sFor, iL, iT, iR1, iR2, iZ, iEn, itemsK, eVar, eC, Fi.e2, Fi.e1, asB, eChain, tAndF, tOrF, tNotF, eAnd, eOr, eNot, eIf, aNil, aCons, eTup, lLst, eL, eCall, lCall, eCallF, lCallF, eSlT, lSl, oNone, oSome, ownIx, ownLen, lLc, wipeE, pYes, sNext, fnD, entry, fAdd_int, fSub, fMul_l, fMul_r, fDiv_ok, fMod_ok, fPow_ok, fLt, fLe, fGt, fGe, fEq_int, fEq_str, fEq_bool, fNe_int, fNe_str, fNe_bool, isN, fIs, fIsNot, fIx, fNeg, fLen, fMin, fMax, fTuple, fList, fIntB, fSum, fAll, fAny, at_0, at_1, at_2, eT, eS, eStep, eR, getInts_map, Option.bind_some, Option.map_some, List.getElem?_cons_succ, List.getElem?_cons_zero, List.set_cons_succ, List.set_cons_zero, List.length_cons, List.length_nil, List.length_map, List.map_cons, List.map_nil, List.nil_append, List.cons_append, List.replicate, Nat.zero_add, Nat.reduceAdd, Nat.reduceSub, decide_true, decide_false, reduceIte, Nat.reduceLeDiff, Nat.reduceLT, Int.reduceLT, Int.reduceLE, Int.reduceNeg, Int.reducePow, and_self, or_self, and_true, true_and, or_true, true_or, Bool.not_true, Bool.not_false, pour_spend, spend_pour, Ob.sSeq, Ob.sSet, Ob.sOwn, Ob.sIf, Ob.sRet, Ob.sRetL, Ob.sRetO, Ob.sRetN, Ob.sDrop, Ob.sApp, Ob.sAug, Ob.sFrz, Ob.frz, Ob.sAsg, Ob.sPar, Ob.sE, Ob.bnd, Ob.lft, Ob.gSet, Ob.gsNil, Ob.gsCons, Ob.gTup, Ob.gLst, Ob.sFor, Ob.iL, Ob.iT, Ob.eVar, Ob.e2, Ob.op2, Ob.asB, Ob.truD, Ob.eChain, Ob.tAndF, Ob.tOrF, Ob.tNotF, Ob.eAnd, Ob.eOr, Ob.eNot, Ob.eIf, Ob.aNil, Ob.aCons, Ob.eTup, Ob.mkT, Ob.lLst, Ob.eL, Ob.mkL, Ob.eCall, Ob.pyAll, Ob.pE, Ob.pL, Ob.pT, Ob.pv, Ob.pvS, Ob.eIx, Ob.ixD, Ob.D.lst?, Ob.D.tup?, Ob.lLc, Ob.lcD, Ob.wipeE, Ob.pYes, Ob.sNext, Ob.fnO, Ob.entry, Ob.goE, Ob.goL, Ob.goN, Ob.eG, Ob.lG, Ob.eP, Ob.eFld, Ob.fld, Ob.sFld, Ob.setFld, Ob.putD, Ob.sFldAug, Ob.clsOf, Ob.eMeth, Ob.eMeth0, Ob.eProp, Ob.eMake, Ob.eMakeK, Ob.made, Ob.eSup, Ob.eSup0, Ob.eSupK, Ob.Mr.list, Ob.eIsC, Ob.isC, Ob.sRaise, Ob.eLenSet, Ob.lenSet, List.lookup_cons, List.lookup_nil, Bool.false_eq_true, List.set_set, beq_self_eq_true, Option.isNone_none, Option.map_none, Option.bind_none, l1]
      refine oseq (e := [V (.obj p), V (.py (.tuple [.int a])), V (cI a), V (cI gone), none]) (s := st) ?_ ?_
      · simp only [sSeq, sSet, sOwn, sPar, sParL,  sIf, sRet, sRetL, sRetO, sDrop, sAug, sApp, sFrz, frz, sAsg, gSet, gsNil, gsCons, gTupF, Fi.gSub, sFor, iL, iT, iR1, iR2, iZ, iEn, itemsK, eVar, eC, Fi.e2, Fi.e1, asB, eChain, tAndF, tOrF, tNotF, eAnd, eOr, eNot, eIf, aNil, aCons, eTup, lLst, eL, eCall, lCall, eCallF, lCallF, eSlT, lSl, oNone, oSome, ownIx, ownLen, lLc, wipeE, pYes, sNext, fnD, entry, fAdd_int, fSub, fMul_l, fMul_r, fDiv_ok, fMod_ok, fPow_ok, fLt, fLe, fGt, fGe, fEq_int, fEq_str, fEq_bool, fNe_int, fNe_str, fNe_bool, isN, fIs, fIsNot, fIx, fNeg, fLen, fMin, fMax, fTuple, fList, fIntB, fSum, fAll, fAny, at_0, at_1, at_2, eT, eS, eStep, eR, getInts_map, Option.bind_some, Option.map_some, List.getElem?_cons_succ, List.getElem?_cons_zero, List.set_cons_succ, List.set_cons_zero, List.length_cons, List.length_nil, List.length_map, List.map_cons, List.map_nil, List.nil_append, List.cons_append, List.replicate, Nat.zero_add, Nat.reduceAdd, Nat.reduceSub, decide_true, decide_false, reduceIte, Nat.reduceLeDiff, Nat.reduceLT, Int.reduceLT, Int.reduceLE, Int.reduceNeg, Int.reducePow, and_self, or_self, and_true, true_and, or_true, true_or, Bool.not_true, Bool.not_false, pour_spend, spend_pour, Ob.sSeq, Ob.sSet, Ob.sOwn, Ob.sIf, Ob.sRet, Ob.sRetL, Ob.sRetO, Ob.sRetN, Ob.sDrop, Ob.sApp, Ob.sAug, Ob.sFrz, Ob.frz, Ob.sAsg, Ob.sPar, Ob.sE, Ob.bnd, Ob.lft, Ob.gSet, Ob.gsNil, Ob.gsCons, Ob.gTup, Ob.gLst, Ob.sFor, Ob.iL, Ob.iT, Ob.eVar, Ob.e2, Ob.op2, Ob.asB, Ob.truD, Ob.eChain, Ob.tAndF, Ob.tOrF, Ob.tNotF, Ob.eAnd, Ob.eOr, Ob.eNot, Ob.eIf, Ob.aNil, Ob.aCons, Ob.eTup, Ob.mkT, Ob.lLst, Ob.eL, Ob.mkL, Ob.eCall, Ob.pyAll, Ob.pE, Ob.pL, Ob.pT, Ob.pv, Ob.pvS, Ob.eIx, Ob.ixD, Ob.D.lst?, Ob.D.tup?, Ob.lLc, Ob.lcD, Ob.wipeE, Ob.pYes, Ob.sNext, Ob.fnO, Ob.entry, Ob.goE, Ob.goL, Ob.goN, Ob.eG, Ob.lG, Ob.eP, Ob.eFld, Ob.fld, Ob.sFld, Ob.setFld, Ob.putD, Ob.sFldAug, Ob.clsOf, Ob.eMeth, Ob.eMeth0, Ob.eProp, Ob.eMake, Ob.eMakeK, Ob.made, Ob.eSup, Ob.eSup0, Ob.eSupK, Ob.Mr.list, Ob.eIsC, Ob.isC, Ob.sRaise, Ob.eLenSet, Ob.lenSet, List.lookup_cons, List.lookup_nil, Bool.false_eq_true, List.set_set, beq_self_eq_true, Option.isNone_none, Option.map_none, Option.bind_none, hp, List.mem_singleton, bq_gone_row, qe_gone_row]
      refine oseq (e := [V (.obj p), V (.py (.tuple [.int a])), V (cI r), V (cI gone), y4]) (s := S) ?_ ?_
      · simp only [sSeq, sSet, sOwn, sPar, sParL,  sIf, sRet, sRetL, sRetO, sDrop, sAug, sApp, sFrz, frz, sAsg, gSet, gsNil, gsCons, gTupF, Fi.gSub, sFor, iL, iT, iR1, iR2, iZ, iEn, itemsK, eVar, eC, Fi.e2, Fi.e1, asB, eChain, tAndF, tOrF, tNotF, eAnd, eOr, eNot, eIf, aNil, aCons, eTup, lLst, eL, eCall, lCall, eCallF, lCallF, eSlT, lSl, oNone, oSome, ownIx, ownLen, lLc, wipeE, pYes, sNext, fnD, entry, fAdd_int, fSub, fMul_l, fMul_r, fDiv_ok, fMod_ok, fPow_ok, fLt, fLe, fGt, fGe, fEq_int, fEq_str, fEq_bool, fNe_int, fNe_str, fNe_bool, isN, fIs, fIsNot, fIx, fNeg, fLen, fMin, fMax, fTuple, fList, fIntB, fSum, fAll, fAny, at_0, at_1, at_2, eT, eS, eStep, eR, getInts_map, Option.bind_some, Option.map_some, List.getElem?_cons_succ, List.getElem?_cons_zero, List.set_cons_succ, List.set_cons_zero, List.length_cons, List.length_nil, List.length_map, List.map_cons, List.map_nil, List.nil_append, List.cons_append, List.replicate, Nat.zero_add, Nat.reduceAdd, Nat.reduceSub, decide_true, decide_false, reduceIte, Nat.reduceLeDiff, Nat.reduceLT, Int.reduceLT, Int.reduceLE, Int.reduceNeg, Int.reducePow, and_self, or_self, and_true, true_and, or_true, true_or, Bool.not_true, Bool.not_false, pour_spend, spend_pour, Ob.sSeq, Ob.sSet, Ob.sOwn, Ob.sIf, Ob.sRet, Ob.sRetL, Ob.sRetO, Ob.sRetN, Ob.sDrop, Ob.sApp, Ob.sAug, Ob.sFrz, Ob.frz, Ob.sAsg, Ob.sPar, Ob.sE, Ob.bnd, Ob.lft, Ob.gSet, Ob.gsNil, Ob.gsCons, Ob.gTup, Ob.gLst, Ob.sFor, Ob.iL, Ob.iT, Ob.eVar, Ob.e2, Ob.op2, Ob.asB, Ob.truD, Ob.eChain, Ob.tAndF, Ob.tOrF, Ob.tNotF, Ob.eAnd, Ob.eOr, Ob.eNot, Ob.eIf, Ob.aNil, Ob.aCons, Ob.eTup, Ob.mkT, Ob.lLst, Ob.eL, Ob.mkL, Ob.eCall, Ob.pyAll, Ob.pE, Ob.pL, Ob.pT, Ob.pv, Ob.pvS, Ob.eIx, Ob.ixD, Ob.D.lst?, Ob.D.tup?, Ob.lLc, Ob.lcD, Ob.wipeE, Ob.pYes, Ob.sNext, Ob.fnO, Ob.entry, Ob.goE, Ob.goL, Ob.goN, Ob.eG, Ob.lG, Ob.eP, Ob.eFld, Ob.fld, Ob.sFld, Ob.setFld, Ob.putD, Ob.sFldAug, Ob.clsOf, Ob.eMeth, Ob.eMeth0, Ob.eProp, Ob.eMake, Ob.eMakeK, Ob.made, Ob.eSup, Ob.eSup0, Ob.eSupK, Ob.Mr.list, Ob.eIsC, Ob.isC, Ob.sRaise, Ob.eLenSet, Ob.lenSet, List.lookup_cons, List.lookup_nil, Bool.false_eq_true, List.set_set, beq_self_eq_true, Option.isNone_none, Option.map_none, Option.bind_none, l3]
      · simp only [sSeq, sSet, sOwn, sPar, sParL,  sIf, sRet, sRetL, sRetO, sDrop, sAug, sApp, sFrz, frz, sAsg, gSet, gsNil, gsCons, gTupF, Fi.gSub, sFor, iL, iT, iR1, iR2, iZ, iEn, itemsK, eVar, eC, Fi.e2, Fi.e1, asB, eChain, tAndF, tOrF, tNotF, eAnd, eOr, eNot, eIf, aNil, aCons, eTup, lLst, eL, eCall, lCall, eCallF, lCallF, eSlT, lSl, oNone, oSome, ownIx, ownLen, lLc, wipeE, pYes, sNext, fnD, entry, fAdd_int, fSub, fMul_l, fMul_r, fDiv_ok, fMod_ok, fPow_ok, fLt, fLe, fGt, fGe, fEq_int, fEq_str, fEq_bool, fNe_int, fNe_str, fNe_bool, isN, fIs, fIsNot, fIx, fNeg, fLen, fMin, fMax, fTuple, fList, fIntB, fSum, fAll, fAny, at_0, at_1, at_2, eT, eS, eStep, eR, getInts_map, Option.bind_some, Option.map_some, List.getElem?_cons_succ, List.getElem?_cons_zero, List.set_cons_succ, List.set_cons_zero, List.length_cons, List.length_nil, List.length_map, List.map_cons, List.map_nil, List.nil_append, List.cons_append, List.replicate, Nat.zero_add, Nat.reduceAdd, Nat.reduceSub, decide_true, decide_false, reduceIte, Nat.reduceLeDiff, Nat.reduceLT, Int.reduceLT, Int.reduceLE, Int.reduceNeg, Int.reducePow, and_self, or_self, and_true, true_and, or_true, true_or, Bool.not_true, Bool.not_false, pour_spend, spend_pour, Ob.sSeq, Ob.sSet, Ob.sOwn, Ob.sIf, Ob.sRet, Ob.sRetL, Ob.sRetO, Ob.sRetN, Ob.sDrop, Ob.sApp, Ob.sAug, Ob.sFrz, Ob.frz, Ob.sAsg, Ob.sPar, Ob.sE, Ob.bnd, Ob.lft, Ob.gSet, Ob.gsNil, Ob.gsCons, Ob.gTup, Ob.gLst, Ob.sFor, Ob.iL, Ob.iT, Ob.eVar, Ob.e2, Ob.op2, Ob.asB, Ob.truD, Ob.eChain, Ob.tAndF, Ob.tOrF, Ob.tNotF, Ob.eAnd, Ob.eOr, Ob.eNot, Ob.eIf, Ob.aNil, Ob.aCons, Ob.eTup, Ob.mkT, Ob.lLst, Ob.eL, Ob.mkL, Ob.eCall, Ob.pyAll, Ob.pE, Ob.pL, Ob.pT, Ob.pv, Ob.pvS, Ob.eIx, Ob.ixD, Ob.D.lst?, Ob.D.tup?, Ob.lLc, Ob.lcD, Ob.wipeE, Ob.pYes, Ob.sNext, Ob.fnO, Ob.entry, Ob.goE, Ob.goL, Ob.goN, Ob.eG, Ob.lG, Ob.eP, Ob.eFld, Ob.fld, Ob.sFld, Ob.setFld, Ob.putD, Ob.sFldAug, Ob.clsOf, Ob.eMeth, Ob.eMeth0, Ob.eProp, Ob.eMake, Ob.eMakeK, Ob.made, Ob.eSup, Ob.eSup0, Ob.eSupK, Ob.Mr.list, Ob.eIsC, Ob.isC, Ob.sRaise, Ob.eLenSet, Ob.lenSet, List.lookup_cons, List.lookup_nil, Bool.false_eq_true, List.set_set, beq_self_eq_true, Option.isNone_none, Option.map_none, Option.bind_none, hf, List.mem_singleton, bq_gone_row, qe_gone_row]
    unfold Ob.fnStar
    simp only [List.length_cons, List.length_nil, Nat.reduceAdd, Nat.reduceLeDiff, if_true]
    show Ob.fnO 5 b_Plan_pour [.obj p, .py (.tuple [.int a])] st = _
    unfold Ob.fnO
    rw [show Ob.entry 5 [Ob.D.obj p, .py (.tuple [.int a])] = [V (.obj p), V (.py (.tuple [.int a])), none, none, none] from rfl, hb]
  · have hpn' : p ∉ (pourE a es).map (·.n) := by rw [pour_n]; exact hpn
    refine ⟨fun e he => ⟨(q2.ok e he).1, ?_⟩, q2.wf, q2.nd, q2.nn⟩
    rw [List.getElem?_set_ne fun z => hpn' (List.mem_map.mpr ⟨e, he, z.symm⟩)]
    exact (q2.ok e he).2
  · rw [set_get hp', show oP (pourE a es) (gone + r) = oP es (gone + r) by unfold oP; rw [pour_o]]
  · rw [List.getElem?_set_ne (Ne.symm h1), q4 i h2]
/-- another row stands -/
theorem Row.frm {st st' : Ob.Stor} {p : Nat} {es fs : List Ev} (F : Frm st st' p es) (R : Row st fs) (hd : ∀ f ∈ fs, f.n ∉ es.map (·.n)) (hp : p ∉ fs.map (·.n)) : Row st' fs :=
  ⟨fun f hf => ⟨(R.ok f hf).1, by rw [F.2 f.n (fun z => hp (List.mem_map.mpr ⟨f, hf, z⟩)) (hd f hf)]; exact (R.ok f hf).2⟩, R.wf, R.nd, R.nn⟩
end Lw

namespace Lw
open PySem L2 Fi
/-! ### an envelope is moved -/
theorem cutQ_to {l : List Ob.D} {b : Nat} : Ob.cutQ l none (some (b : Int)) = l.take b := by
  unfold Ob.cutQ
  rw [HT.sIx_none, HT.sIx_nat, List.drop_zero, Nat.sub_zero]
  by_cases h : b ≤ l.length
  · rw [Nat.min_eq_left h]
  · rw [Nat.min_eq_right (by omega), List.take_length, List.take_of_length_le (by omega)]
theorem cutQ_from {l : List Ob.D} {a : Nat} : Ob.cutQ l (some (a : Int)) none = l.drop a := by
  unfold Ob.cutQ
  rw [HT.sIx_none, HT.sIx_nat]
  by_cases h : a ≤ l.length
  · rw [Nat.min_eq_left h, List.take_of_length_le (by rw [List.length_drop]; exact Nat.le_refl _)]
  · rw [Nat.min_eq_right (by omega), List.drop_of_length_le (Nat.le_refl _), List.drop_of_length_le (by omega), List.take_nil]
theorem catL {f g : Ob.F Ob.D} {env : Ob.En} {st : Ob.Stor} {x y : Ob.D} {a b : List Ob.D} (h1 : f env st = some (.ok x st)) (h2 : g env st = some (.ok y st)) (ha : x.lst? = some a) (hb : y.lst? = some b) (hl : a.length + b.length ≤ 100000) :
    Ob.eL (Ob.lCatD f g) env st = some (.ok (Ob.mkL (a ++ b)) st) := by
  unfold Ob.eL Ob.lCatD Ob.bnd
  simp only [h1, Ob.bnd, h2, Ob.lft, ha, hb, Option.bind_some, hl, if_true, Option.map_some]
def oth (nm : Str) (es : List Ev) : List Ev := es.filter fun x => decide (x.nm ≠ nm)
def mvE (e : Ev) (k : Nat) (es : List Ev) : List Ev := (oth e.nm es).take k ++ e :: (oth e.nm es).drop k
section
variable {st : Ob.Stor} {p : Nat} {es : List Ev} {g : Int} {nm : Str} {x0 x1 x2 x3 x4 : Option Ob.Sl}
theorem lst_mkL : ∀ l : List Ev, (Ob.mkL (l.map Ev.o)).lst? = some (l.map Ev.o)
  | [] => rfl
  | e :: l => rfl
theorem lc_oth : ∀ {es : List Ev}, EvsOk st es → Ob.lcD (Ob.gSet 5) (Ob.asB (Ob.e2 fNe (Ob.eProp [("Envelope", F_Envelope_name)] (Ob.eVar 5)) (Ob.pE (eVar 1)))) (Ob.eVar 5) [x0, V (cT nm), x2, x3, x4, none] (es.map Ev.o) st = some ((oth nm es).map Ev.o, st)
  | [], _ => rfl
  | e :: es, h => by
    have ih := lc_oth (es := es) fun x hx => h x (List.mem_cons_of_mem _ hx)
    have he := (h e (List.mem_cons_self ..)).2
    have u1 := kpick (F := F_Envelope_name) he
    have u2 := kname he
    rw [List.map_cons, Ob.lcD]
    show (Option.bind (some [x0, V (cT nm), x2, x3, x4, V (.obj e.n)]) _) = _
    rw [Option.bind_some]
    by_cases q : e.nm = nm
    · have e1 : Ob.asB (Ob.e2 fNe (Ob.eProp [("Envelope", F_Envelope_name)] (Ob.eVar 5)) (Ob.pE (eVar 1))) [x0, V (cT nm), x2, x3, x4, V (.obj e.n)] st = some (.ok false st) := by simp only [sSeq, sSet, sOwn, sPar, sParL,  sIf, sRet, sRetL, sRetO, sDrop, sAug, sApp, sFrz, frz, sAsg, gSet, gsNil, gsCons, gTupF, Fi.gSub, sFor, iL, iT, iR1, iR2, iZ, iEn, itemsK, eVar, eC, Fi.e2, Fi.e1, asB, eChain, tAndF, tOrF, tNotF, eAnd, eOr, eNot, eIf, aNil, aCons, eTup, lLst, eL, eCall, lCall, eCallF, lCallF, eSlT, lSl, oNone, oSome, ownIx, ownLen, lLc, wipeE, pYes, sNext, fnD, entry, fAdd_int, fSub, fMul_l, fMul_r, fDiv_ok, fMod_ok, fPow_ok, fLt, fLe, fGt, fGe, fEq_int, fEq_str, fEq_bool, fNe_int, fNe_str, fNe_bool, isN, fIs, fIsNot, fIx, fNeg, fLen, fMin, fMax, fTuple, fList, fIntB, fSum, fAll, fAny, at_0, at_1, at_2, eT, eS, eStep, eR, getInts_map, Option.bind_some, Option.map_some, List.getElem?_cons_succ, List.getElem?_cons_zero, List.set_cons_succ, List.set_cons_zero, List.length_cons, List.length_nil, List.length_map, List.map_cons, List.map_nil, List.nil_append, List.cons_append, List.replicate, Nat.zero_add, Nat.reduceAdd, Nat.reduceSub, decide_true, decide_false, reduceIte, Nat.reduceLeDiff, Nat.reduceLT, Int.reduceLT, Int.reduceLE, Int.reduceNeg, Int.reducePow, and_self, or_self, and_true, true_and, or_true, true_or, Bool.not_true, Bool.not_false, pour_spend, spend_pour, Ob.sSeq, Ob.sSet, Ob.sOwn, Ob.sIf, Ob.sRet, Ob.sRetL, Ob.sRetO, Ob.sRetN, Ob.sDrop, Ob.sApp, Ob.sAug, Ob.sFrz, Ob.frz, Ob.sAsg, Ob.sPar, Ob.sE, Ob.bnd, Ob.lft, Ob.gSet, Ob.gsNil, Ob.gsCons, Ob.gTup, Ob.gLst, Ob.sFor, Ob.iL, Ob.iT, Ob.eVar, Ob.e2, Ob.op2, Ob.asB, Ob.truD, Ob.eChain, Ob.tAndF, Ob.tOrF, Ob.tNotF, Ob.eAnd, Ob.eOr, Ob.eNot, Ob.eIf, Ob.aNil, Ob.aCons, Ob.eTup, Ob.mkT, Ob.lLst, Ob.eL, Ob.mkL, Ob.eCall, Ob.pyAll, Ob.pE, Ob.pL, Ob.pT, Ob.pv, Ob.pvS, Ob.eIx, Ob.ixD, Ob.D.lst?, Ob.D.tup?, Ob.lLc, Ob.lcD, Ob.wipeE, Ob.pYes, Ob.sNext, Ob.fnO, Ob.entry, Ob.goE, Ob.goL, Ob.goN, Ob.eG, Ob.lG, Ob.eP, Ob.eFld, Ob.fld, Ob.sFld, Ob.setFld, Ob.putD, Ob.sFldAug, Ob.clsOf, Ob.eMeth, Ob.eMeth0, Ob.eProp, Ob.eMake, Ob.eMakeK, Ob.made, Ob.eSup, Ob.eSup0, Ob.eSupK, Ob.Mr.list, Ob.eIsC, Ob.isC, Ob.sRaise, Ob.eLenSet, Ob.lenSet, List.lookup_cons, List.lookup_nil, Bool.false_eq_true, List.set_set, beq_self_eq_true, Option.isNone_none, Option.map_none, Option.bind_none, u1, u2, q]
      rw [e1]
      dsimp only
      rw [ih, show oth nm (e :: es) = oth nm es by unfold oth; rw [List.filter_cons_of_neg (by simp [q])]]
    · have e1 : Ob.asB (Ob.e2 fNe (Ob.eProp [("Envelope", F_Envelope_name)] (Ob.eVar 5)) (Ob.pE (eVar 1))) [x0, V (cT nm), x2, x3, x4, V (.obj e.n)] st = some (.ok true st) := by simp only [sSeq, sSet, sOwn, sPar, sParL,  sIf, sRet, sRetL, sRetO, sDrop, sAug, sApp, sFrz, frz, sAsg, gSet, gsNil, gsCons, gTupF, Fi.gSub, sFor, iL, iT, iR1, iR2, iZ, iEn, itemsK, eVar, eC, Fi.e2, Fi.e1, asB, eChain, tAndF, tOrF, tNotF, eAnd, eOr, eNot, eIf, aNil, aCons, eTup, lLst, eL, eCall, lCall, eCallF, lCallF, eSlT, lSl, oNone, oSome, ownIx, ownLen, lLc, wipeE, pYes, sNext, fnD, entry, fAdd_int, fSub, fMul_l, fMul_r, fDiv_ok, fMod_ok, fPow_ok, fLt, fLe, fGt, fGe, fEq_int, fEq_str, fEq_bool, fNe_int, fNe_str, fNe_bool, isN, fIs, fIsNot, fIx, fNeg, fLen, fMin, fMax, fTuple, fList, fIntB, fSum, fAll, fAny, at_0, at_1, at_2, eT, eS, eStep, eR, getInts_map, Option.bind_some, Option.map_some, List.getElem?_cons_succ, List.getElem?_cons_zero, List.set_cons_succ, List.set_cons_zero, List.length_cons, List.length_nil, List.length_map, List.map_cons, List.map_nil, List.nil_append, List.cons_append, List.replicate, Nat.zero_add, Nat.reduceAdd, Nat.reduceSub, decide_true, decide_false, reduceIte, Nat.reduceLeDiff, Nat.reduceLT, Int.reduceLT, Int.reduceLE, Int.reduceNeg, Int.reducePow, and_self, or_self, and_true, true_and, or_true, true_or, Bool.not_true, Bool.not_false, pour_spend, spend_pour, Ob.sSeq, Ob.sSet, Ob.sOwn, Ob.sIf, Ob.sRet, Ob.sRetL, Ob.sRetO, Ob.sRetN, Ob.sDrop, Ob.sApp, Ob.sAug, Ob.sFrz, Ob.frz, Ob.sAsg, Ob.sPar, Ob.sE, Ob.bnd, Ob.lft, Ob.gSet, Ob.gsNil, Ob.gsCons, Ob.gTup, Ob.gLst, Ob.sFor, Ob.iL, Ob.iT, Ob.eVar, Ob.e2, Ob.op2, Ob.asB, Ob.truD, Ob.eChain, Ob.tAndF, Ob.tOrF, Ob.tNotF, Ob.eAnd, Ob.eOr, Ob.eNot, Ob.eIf, Ob.aNil, Ob.aCons, Ob.eTup, Ob.mkT, Ob.lLst, Ob.eL, Ob.mkL, Ob.eCall, Ob.pyAll, Ob.pE, Ob.pL, Ob.pT, Ob.pv, Ob.pvS, Ob.eIx, Ob.ixD, Ob.D.lst?, Ob.D.tup?, Ob.lLc, Ob.lcD, Ob.wipeE, Ob.pYes, Ob.sNext, Ob.fnO, Ob.entry, Ob.goE, Ob.goL, Ob.goN, Ob.eG, Ob.lG, Ob.eP, Ob.eFld, Ob.fld, Ob.sFld, Ob.setFld, Ob.putD, Ob.sFldAug, Ob.clsOf, Ob.eMeth, Ob.eMeth0, Ob.eProp, Ob.eMake, Ob.eMakeK, Ob.made, Ob.eSup, Ob.eSup0, Ob.eSupK, Ob.Mr.list, Ob.eIsC, Ob.isC, Ob.sRaise, Ob.eLenSet, Ob.lenSet, List.lookup_cons, List.lookup_nil, Bool.false_eq_true, List.set_set, beq_self_eq_true, Option.isNone_none, Option.map_none, Option.bind_none, u1, u2, q]
      rw [e1]
      dsimp only
      rw [show Ob.eVar 5 [x0, V (cT nm), x2, x3, x4, V (.obj e.n)] st = some (.ok (.obj e.n) st) from rfl]
      dsimp only
      rw [ih, show oth nm (e :: es) = e :: oth nm es by unfold oth; rw [List.filter_cons_of_pos (by simp [q])]]
      rfl
theorem mv_pick {F : Ob.Fn} (hp : st[p]? = some (oP es g)) : Ob.pick [("Plan", F)] "envelope" (.obj p) st = some F := by
  simp only [Ob.pick, hp, List.lookup_cons, List.lookup_nil, beq_self_eq_true, Option.isNone_none, reduceIte, bq_envelope_row, qe_envelope_row, bq_envelope_gone, qe_envelope_gone]
theorem pmv_pick {F : Ob.Fn} (hp : st[p]? = some (oP es g)) : Ob.pick [("Plan", F)] "move" (.obj p) st = some F := by
  simp only [Ob.pick, hp, List.lookup_cons, List.lookup_nil, beq_self_eq_true, Option.isNone_none, reduceIte, bq_move_row, qe_move_row, bq_move_gone, qe_move_gone]
theorem ppick {F : Ob.Fn} (hp : st[p]? = some (oP es g)) : Ob.pick [("Plan", F)] "pour" (.obj p) st = some F := by
  simp only [Ob.pick, hp, List.lookup_cons, List.lookup_nil, beq_self_eq_true, Option.isNone_none, reduceIte, bq_pour_row, qe_pour_row, bq_pour_gone, qe_pour_gone]
theorem ppickP {F : Ob.Fn} (hp : st[p]? = some (oP es g)) : Ob.pickP [("Plan", F)] (.obj p) st = some F := by
  simp only [Ob.pickP, hp, List.lookup_cons, beq_self_eq_true]
theorem move_ok {e : Ev} {k : Nat} (R : Row st es) (hp : st[p]? = some (oP es g)) (he : e ∈ es) (hk : k < es.length) (hl : es.length ≤ 6) :
    F_Plan_move [.obj p, cT e.nm, cI k] st = some (.ok (.val (.py .none)) (st.set p (oP (mvE e k es) g))) := by
  have p1 := mv_pick (F := F_Plan_envelope) hp
  have p2 := penv_ok R.ok hp R.nn he
  have i1 : F_is_integer [.int k, .int 0, .int ((es.length : Int) - 1)] = some (.val (.bool true)) := isint_ok (by omega) (by omega)
  have lc : lc_Plan_move_0 [V (.obj p), V (cT e.nm), V (cI k), V (.obj e.n), none, none] st = some (.ok ((oth e.nm es).map Ev.o) st) := lLc_ok (ds := es.map Ev.o) (s1 := st) (by simp only [sSeq, sSet, sOwn, sPar, sParL,  sIf, sRet, sRetL, sRetO, sDrop, sAug, sApp, sFrz, frz, sAsg, gSet, gsNil, gsCons, gTupF, Fi.gSub, sFor, iL, iT, iR1, iR2, iZ, iEn, itemsK, eVar, eC, Fi.e2, Fi.e1, asB, eChain, tAndF, tOrF, tNotF, eAnd, eOr, eNot, eIf, aNil, aCons, eTup, lLst, eL, eCall, lCall, eCallF, lCallF, eSlT, lSl, oNone, oSome, ownIx, ownLen, lLc, wipeE, pYes, sNext, fnD, entry, fAdd_int, fSub, fMul_l, fMul_r, fDiv_ok, fMod_ok, fPow_ok, fLt, fLe, fGt, fGe, fEq_int, fEq_str, fEq_bool, fNe_int, fNe_str, fNe_bool, isN, fIs, fIsNot, fIx, fNeg, fLen, fMin, fMax, fTuple, fList, fIntB, fSum, fAll, fAny, at_0, at_1, at_2, eT, eS, eStep, eR, getInts_map, Option.bind_some, Option.map_some, List.getElem?_cons_succ, List.getElem?_cons_zero, List.set_cons_succ, List.set_cons_zero, List.length_cons, List.length_nil, List.length_map, List.map_cons, List.map_nil, List.nil_append, List.cons_append, List.replicate, Nat.zero_add, Nat.reduceAdd, Nat.reduceSub, decide_true, decide_false, reduceIte, Nat.reduceLeDiff, Nat.reduceLT, Int.reduceLT, Int.reduceLE, Int.reduceNeg, Int.reducePow, and_self, or_self, and_true, true_and, or_true, true_or, Bool.not_true, Bool.not_false, pour_spend, spend_pour, Ob.sSeq, Ob.sSet, Ob.sOwn, Ob.sIf, Ob.sRet, Ob.sRetL, Ob.sRetO, Ob.sRetN, Ob.sDrop, Ob.sApp, Ob.sAug, Ob.sFrz, Ob.frz, Ob.sAsg, Ob.sPar, Ob.sE, Ob.bnd, Ob.lft, Ob.gSet, Ob.gsNil, Ob.gsCons, Ob.gTup, Ob.gLst, Ob.sFor, Ob.iL, Ob.iT, Ob.eVar, Ob.e2, Ob.op2, Ob.asB, Ob.truD, Ob.eChain, Ob.tAndF, Ob.tOrF, Ob.tNotF, Ob.eAnd, Ob.eOr, Ob.eNot, Ob.eIf, Ob.aNil, Ob.aCons, Ob.eTup, Ob.mkT, Ob.lLst, Ob.eL, Ob.mkL, Ob.eCall, Ob.pyAll, Ob.pE, Ob.pL, Ob.pT, Ob.pv, Ob.pvS, Ob.eIx, Ob.ixD, Ob.D.lst?, Ob.D.tup?, Ob.lLc, Ob.lcD, Ob.wipeE, Ob.pYes, Ob.sNext, Ob.fnO, Ob.entry, Ob.goE, Ob.goL, Ob.goN, Ob.eG, Ob.lG, Ob.eP, Ob.eFld, Ob.fld, Ob.sFld, Ob.setFld, Ob.putD, Ob.sFldAug, Ob.clsOf, Ob.eMeth, Ob.eMeth0, Ob.pick, Ob.eProp, Ob.pickP, Ob.eMake, Ob.eMakeK, Ob.made, Ob.eSup, Ob.eSup0, Ob.eSupK, Ob.Mr.list, Ob.eIsC, Ob.isC, Ob.sRaise, Ob.eLenSet, Ob.lenSet, List.lookup_cons, List.lookup_nil, Bool.false_eq_true, List.set_set, beq_self_eq_true, Option.isNone_none, Option.map_none, Option.bind_none, hp, List.mem_singleton,]) (by rw [List.length_map]; omega) (lc_oth R.ok)
  have lo : (oth e.nm es).length ≤ 6 := Nat.le_trans (List.length_filter_le ..) hl
  have hb : b_Plan_move [V (.obj p), V (cT e.nm), V (cI k), none, none, none] st = some (.next [V (.obj p), V (cT e.nm), V (cI k), V (.obj e.n), V (Ob.mkL ((oth e.nm es).map Ev.o)), none] (st.set p (oP (mvE e k es) g))) := by
    unfold b_Plan_move
    refine oseq (e := [V (.obj p), V (cT e.nm), V (cI k), V (.obj e.n), none, none]) (s := st) (by simp only [sSeq, sSet, sOwn, sPar, sParL,  sIf, sRet, sRetL, sRetO, sDrop, sAug, sApp, sFrz, frz, sAsg, gSet, gsNil, gsCons, gTupF, Fi.gSub, sFor, iL, iT, iR1, iR2, iZ, iEn, itemsK, eVar, eC, Fi.e2, Fi.e1, asB, eChain, tAndF, tOrF, tNotF, eAnd, eOr, eNot, eIf, aNil, aCons, eTup, lLst, eL, eCall, lCall, eCallF, lCallF, eSlT, lSl, oNone, oSome, ownIx, ownLen, lLc, wipeE, pYes, sNext, fnD, entry, fAdd_int, fSub, fMul_l, fMul_r, fDiv_ok, fMod_ok, fPow_ok, fLt, fLe, fGt, fGe, fEq_int, fEq_str, fEq_bool, fNe_int, fNe_str, fNe_bool, isN, fIs, fIsNot, fIx, fNeg, fLen, fMin, fMax, fTuple, fList, fIntB, fSum, fAll, fAny, at_0, at_1, at_2, eT, eS, eStep, eR, getInts_map, Option.bind_some, Option.map_some, List.getElem?_cons_succ, List.getElem?_cons_zero, List.set_cons_succ, List.set_cons_zero, List.length_cons, List.length_nil, List.length_map, List.map_cons, List.map_nil, List.nil_append, List.cons_append, List.replicate, Nat.zero_add, Nat.reduceAdd, Nat.reduceSub, decide_true, decide_false, reduceIte, Nat.reduceLeDiff, Nat.reduceLT, Int.reduceLT, Int.reduceLE, Int.reduceNeg, Int.reducePow, and_self, or_self, and_true, true_and, or_true, true_or, Bool.not_true, Bool.not_false, pour_spend, spend_pour, Ob.sSeq, Ob.sSet, Ob.sOwn, Ob.sIf, Ob.sRet, Ob.sRetL, Ob.sRetO, Ob.sRetN, Ob.sDrop, Ob.sApp, Ob.sAug, Ob.sFrz, Ob.frz, Ob.sAsg, Ob.sPar, Ob.sE, Ob.bnd, Ob.lft, Ob.gSet, Ob.gsNil, Ob.gsCons, Ob.gTup, Ob.gLst, Ob.sFor, Ob.iL, Ob.iT, Ob.eVar, Ob.e2, Ob.op2, Ob.asB, Ob.truD, Ob.eChain, Ob.tAndF, Ob.tOrF, Ob.tNotF, Ob.eAnd, Ob.eOr, Ob.eNot, Ob.eIf, Ob.aNil, Ob.aCons, Ob.eTup, Ob.mkT, Ob.lLst, Ob.eL, Ob.mkL, Ob.eCall, Ob.pyAll, Ob.pE, Ob.pL, Ob.pT, Ob.pv, Ob.pvS, Ob.eIx, Ob.ixD, Ob.D.lst?, Ob.D.tup?, Ob.lLc, Ob.lcD, Ob.wipeE, Ob.pYes, Ob.sNext, Ob.fnO, Ob.entry, Ob.goE, Ob.goL, Ob.goN, Ob.eG, Ob.lG, Ob.eP, Ob.eFld, Ob.fld, Ob.sFld, Ob.setFld, Ob.putD, Ob.sFldAug, Ob.clsOf, Ob.eMeth, Ob.eMeth0, Ob.eProp, Ob.eMake, Ob.eMakeK, Ob.made, Ob.eSup, Ob.eSup0, Ob.eSupK, Ob.Mr.list, Ob.eIsC, Ob.isC, Ob.sRaise, Ob.eLenSet, Ob.lenSet, List.lookup_cons, List.lookup_nil, Bool.false_eq_true, List.set_set, beq_self_eq_true, Option.isNone_none, Option.map_none, Option.bind_none, p1, p2]) ?_
    refine oseq (e := [V (.obj p), V (cT e.nm), V (cI k), V (.obj e.n), none, none]) (s := st) (by simp only [sSeq, sSet, sOwn, sPar, sParL,  sIf, sRet, sRetL, sRetO, sDrop, sAug, sApp, sFrz, frz, sAsg, gSet, gsNil, gsCons, gTupF, Fi.gSub, sFor, iL, iT, iR1, iR2, iZ, iEn, itemsK, eVar, eC, Fi.e2, Fi.e1, asB, eChain, tAndF, tOrF, tNotF, eAnd, eOr, eNot, eIf, aNil, aCons, eTup, lLst, eL, eCall, lCall, eCallF, lCallF, eSlT, lSl, oNone, oSome, ownIx, ownLen, lLc, wipeE, pYes, sNext, fnD, entry, fAdd_int, fSub, fMul_l, fMul_r, fDiv_ok, fMod_ok, fPow_ok, fLt, fLe, fGt, fGe, fEq_int, fEq_str, fEq_bool, fNe_int, fNe_str, fNe_bool, isN, fIs, fIsNot, fIx, fNeg, fLen, fMin, fMax, fTuple, fList, fIntB, fSum, fAll, fAny, at_0, at_1, at_2, eT, eS, eStep, eR, getInts_map, Option.bind_some, Option.map_some, List.getElem?_cons_succ, List.getElem?_cons_zero, List.set_cons_succ, List.set_cons_zero, List.length_cons, List.length_nil, List.length_map, List.map_cons, List.map_nil, List.nil_append, List.cons_append, List.replicate, Nat.zero_add, Nat.reduceAdd, Nat.reduceSub, decide_true, decide_false, reduceIte, Nat.reduceLeDiff, Nat.reduceLT, Int.reduceLT, Int.reduceLE, Int.reduceNeg, Int.reducePow, and_self, or_self, and_true, true_and, or_true, true_or, Bool.not_true, Bool.not_false, pour_spend, spend_pour, Ob.sSeq, Ob.sSet, Ob.sOwn, Ob.sIf, Ob.sRet, Ob.sRetL, Ob.sRetO, Ob.sRetN, Ob.sDrop, Ob.sApp, Ob.sAug, Ob.sFrz, Ob.frz, Ob.sAsg, Ob.sPar, Ob.sE, Ob.bnd, Ob.lft, Ob.gSet, Ob.gsNil, Ob.gsCons, Ob.gTup, Ob.gLst, Ob.sFor, Ob.iL, Ob.iT, Ob.eVar, Ob.e2, Ob.op2, Ob.asB, Ob.truD, Ob.eChain, Ob.tAndF, Ob.tOrF, Ob.tNotF, Ob.eAnd, Ob.eOr, Ob.eNot, Ob.eIf, Ob.aNil, Ob.aCons, Ob.eTup, Ob.mkT, Ob.lLst, Ob.eL, Ob.mkL, Ob.eCall, Ob.pyAll, Ob.pE, Ob.pL, Ob.pT, Ob.pv, Ob.pvS, Ob.eIx, Ob.ixD, Ob.D.lst?, Ob.D.tup?, Ob.lLc, Ob.lcD, Ob.wipeE, Ob.pYes, Ob.sNext, Ob.fnO, Ob.entry, Ob.goE, Ob.goL, Ob.goN, Ob.eG, Ob.lG, Ob.eP, Ob.eFld, Ob.fld, Ob.sFld, Ob.setFld, Ob.putD, Ob.sFldAug, Ob.clsOf, Ob.eMeth, Ob.eMeth0, Ob.eProp, Ob.eMake, Ob.eMakeK, Ob.made, Ob.eSup, Ob.eSup0, Ob.eSupK, Ob.Mr.list, Ob.eIsC, Ob.isC, Ob.sRaise, Ob.eLenSet, Ob.lenSet, List.lookup_cons, List.lookup_nil, Bool.false_eq_true, List.set_set, beq_self_eq_true, Option.isNone_none, Option.map_none, Option.bind_none, hp, List.mem_singleton, Ob.eLenD, Ob.D.seq?, List.length_map, i1,]) ?_
    refine oseq (e := [V (.obj p), V (cT e.nm), V (cI k), V (.obj e.n), some (.own ((oth e.nm es).map Ev.o)), none]) (s := st) (by simp only [sSeq, sSet, sOwn, sPar, sParL,  sIf, sRet, sRetL, sRetO, sDrop, sAug, sApp, sFrz, frz, sAsg, gSet, gsNil, gsCons, gTupF, Fi.gSub, sFor, iL, iT, iR1, iR2, iZ, iEn, itemsK, eVar, eC, Fi.e2, Fi.e1, asB, eChain, tAndF, tOrF, tNotF, eAnd, eOr, eNot, eIf, aNil, aCons, eTup, lLst, eL, eCall, lCall, eCallF, lCallF, eSlT, lSl, oNone, oSome, ownIx, ownLen, lLc, wipeE, pYes, sNext, fnD, entry, fAdd_int, fSub, fMul_l, fMul_r, fDiv_ok, fMod_ok, fPow_ok, fLt, fLe, fGt, fGe, fEq_int, fEq_str, fEq_bool, fNe_int, fNe_str, fNe_bool, isN, fIs, fIsNot, fIx, fNeg, fLen, fMin, fMax, fTuple, fList, fIntB, fSum, fAll, fAny, at_0, at_1, at_2, eT, eS, eStep, eR, getInts_map, Option.bind_some, Option.map_some, List.getElem?_cons_succ, List.getElem?_cons_zero, List.set_cons_succ, List.set_cons_zero, List.length_cons, List.length_nil, List.length_map, List.map_cons, List.map_nil, List.nil_append, List.cons_append, List.replicate, Nat.zero_add, Nat.reduceAdd, Nat.reduceSub, decide_true, decide_false, reduceIte, Nat.reduceLeDiff, Nat.reduceLT, Int.reduceLT, Int.reduceLE, Int.reduceNeg, Int.reducePow, and_self, or_self, and_true, true_and, or_true, true_or, Bool.not_true, Bool.not_false, pour_spend, spend_pour, Ob.sSeq, Ob.sSet, Ob.sOwn, Ob.sIf, Ob.sRet, Ob.sRetL, Ob.sRetO, Ob.sRetN, Ob.sDrop, Ob.sApp, Ob.sAug, Ob.sFrz, Ob.frz, Ob.sAsg, Ob.sPar, Ob.sE, Ob.bnd, Ob.lft, Ob.gSet, Ob.gsNil, Ob.gsCons, Ob.gTup, Ob.gLst, Ob.sFor, Ob.iL, Ob.iT, Ob.eVar, Ob.e2, Ob.op2, Ob.asB, Ob.truD, Ob.eChain, Ob.tAndF, Ob.tOrF, Ob.tNotF, Ob.eAnd, Ob.eOr, Ob.eNot, Ob.eIf, Ob.aNil, Ob.aCons, Ob.eTup, Ob.mkT, Ob.lLst, Ob.eL, Ob.mkL, Ob.eCall, Ob.pyAll, Ob.pE, Ob.pL, Ob.pT, Ob.pv, Ob.pvS, Ob.eIx, Ob.ixD, Ob.D.lst?, Ob.D.tup?, Ob.lLc, Ob.lcD, Ob.wipeE, Ob.pYes, Ob.sNext, Ob.fnO, Ob.entry, Ob.goE, Ob.goL, Ob.goN, Ob.eG, Ob.lG, Ob.eP, Ob.eFld, Ob.fld, Ob.sFld, Ob.setFld, Ob.putD, Ob.sFldAug, Ob.clsOf, Ob.eMeth, Ob.eMeth0, Ob.eProp, Ob.eMake, Ob.eMakeK, Ob.made, Ob.eSup, Ob.eSup0, Ob.eSupK, Ob.Mr.list, Ob.eIsC, Ob.isC, Ob.sRaise, Ob.eLenSet, Ob.lenSet, List.lookup_cons, List.lookup_nil, Bool.false_eq_true, List.set_set, beq_self_eq_true, Option.isNone_none, Option.map_none, Option.bind_none, lc]) ?_
    show Ob.sFld ["Plan"] "row" _ _ [V (.obj p), V (cT e.nm), V (cI k), V (.obj e.n), V (Ob.mkL ((oth e.nm es).map Ev.o)), none] st = _
    have m1 := lst_mkL (oth e.nm es)
    have m2 := lst_mkL ((oth e.nm es).take k)
    have m3 := lst_mkL ((oth e.nm es).drop k)
    have m4 := lst_mkL ((oth e.nm es).take k ++ [e])
    rw [List.map_take] at m2
    rw [List.map_drop] at m3
    rw [List.map_append, List.map_take] at m4
    have c1 : ((oth e.nm es).map Ev.o).take k = ((oth e.nm es).take k).map Ev.o := by rw [List.map_take]
    have n1 : (((oth e.nm es).map Ev.o).take k).length + 1 ≤ 100000 := by rw [List.length_take, List.length_map]; omega
    have n2 : (((oth e.nm es).map Ev.o).take k ++ [Ob.D.obj e.n]).length + (((oth e.nm es).map Ev.o).drop k).length ≤ 100000 := by rw [List.length_append, List.length_take, List.length_drop, List.length_map]; simp; omega
    have n3 : Ob.mkL (((oth e.nm es).map Ev.o).take k ++ [Ob.D.obj e.n] ++ ((oth e.nm es).map Ev.o).drop k) = .lst ((mvE e k es).map Ev.o) := by
      have hm : (mvE e k es).map Ev.o = ((oth e.nm es).map Ev.o).take k ++ [Ob.D.obj e.n] ++ ((oth e.nm es).map Ev.o).drop k := by
        unfold mvE
        rw [List.map_append, List.map_cons, List.map_take, List.map_drop, List.append_assoc]
        rfl
      rw [← hm]
      exact mkL_o (by unfold mvE; simp)
    have hv : Ob.eL (Ob.lCatD (Ob.eL (Ob.lCatD (Ob.eL (Ob.lSlD (Ob.eVar 4) (Ob.lft (some none)) (Ob.oInt (Ob.pE (eVar 2))))) (Ob.eL (Ob.lLst (Ob.aCons (Ob.eVar 3) Ob.aNil))))) (Ob.eL (Ob.lSlD (Ob.eVar 4) (Ob.oInt (Ob.pE (eVar 2))) (Ob.lft (some none))))) [V (.obj p), V (cT e.nm), V (cI k), V (.obj e.n), V (Ob.mkL ((oth e.nm es).map Ev.o)), none] st = some (.ok (.lst ((mvE e k es).map Ev.o)) st) := by
      have s1 : Ob.eL (Ob.lSlD (Ob.eVar 4) (Ob.lft (some none)) (Ob.oInt (Ob.pE (eVar 2)))) [V (.obj p), V (cT e.nm), V (cI k), V (.obj e.n), V (Ob.mkL ((oth e.nm es).map Ev.o)), none] st = some (.ok (Ob.mkL (((oth e.nm es).map Ev.o).take k)) st) := by
        rw [← cutQ_to]
        generalize Ob.mkL ((oth e.nm es).map Ev.o) = ml at *
        simp only [Ob.eL, Ob.lSlD, Ob.bnd, Ob.eVar, List.getElem?_cons_succ, List.getElem?_cons_zero, Ob.lft, Ob.oInt, Ob.pE, eVar, Ob.pv, List.map_cons, m1, Option.map_some]
        rfl
      have s2 : Ob.eL (Ob.lSlD (Ob.eVar 4) (Ob.oInt (Ob.pE (eVar 2))) (Ob.lft (some none))) [V (.obj p), V (cT e.nm), V (cI k), V (.obj e.n), V (Ob.mkL ((oth e.nm es).map Ev.o)), none] st = some (.ok (Ob.mkL (((oth e.nm es).map Ev.o).drop k)) st) := by
        rw [← cutQ_from]
        generalize Ob.mkL ((oth e.nm es).map Ev.o) = ml at *
        simp only [Ob.eL, Ob.lSlD, Ob.bnd, Ob.eVar, List.getElem?_cons_succ, List.getElem?_cons_zero, Ob.lft, Ob.oInt, Ob.pE, eVar, Ob.pv, List.map_cons, m1, Option.map_some]
        rfl
      have s3 : Ob.eL (Ob.lLst (Ob.aCons (Ob.eVar 3) Ob.aNil)) [V (.obj p), V (cT e.nm), V (cI k), V (.obj e.n), V (Ob.mkL ((oth e.nm es).map Ev.o)), none] st = some (.ok (.lst [Ob.D.obj e.n]) st) := rfl
      rw [← n3]
      exact catL (catL s1 s3 m2 rfl n1) s2 m4 m3 n2
    unfold Ob.sFld Ob.sE
    rw [hv]
    simp only [sSeq, sSet, sOwn, sPar, sParL,  sIf, sRet, sRetL, sRetO, sDrop, sAug, sApp, sFrz, frz, sAsg, gSet, gsNil, gsCons, gTupF, Fi.gSub, sFor, iL, iT, iR1, iR2, iZ, iEn, itemsK, eVar, eC, Fi.e2, Fi.e1, asB, eChain, tAndF, tOrF, tNotF, eAnd, eOr, eNot, eIf, aNil, aCons, eTup, lLst, eL, eCall, lCall, eCallF, lCallF, eSlT, lSl, oNone, oSome, ownIx, ownLen, lLc, wipeE, pYes, sNext, fnD, entry, fAdd_int, fSub, fMul_l, fMul_r, fDiv_ok, fMod_ok, fPow_ok, fLt, fLe, fGt, fGe, fEq_int, fEq_str, fEq_bool, fNe_int, fNe_str, fNe_bool, isN, fIs, fIsNot, fIx, fNeg, fLen, fMin, fMax, fTuple, fList, fIntB, fSum, fAll, fAny, at_0, at_1, at_2, eT, eS, eStep, eR, getInts_map, Option.bind_some, Option.map_some, List.getElem?_cons_succ, List.getElem?_cons_zero, List.set_cons_succ, List.set_cons_zero, List.length_cons, List.length_nil, List.length_map, List.map_cons, List.map_nil, List.nil_append, List.cons_append, List.replicate, Nat.zero_add, Nat.reduceAdd, Nat.reduceSub, decide_true, decide_false, reduceIte, Nat.reduceLeDiff, Nat.reduceLT, Int.reduceLT, Int.reduceLE, Int.reduceNeg, Int.reducePow, and_self, or_self, and_true, true_and, or_true, true_or, Bool.not_true, Bool.not_false, pour_spend, spend_pour, Ob.sSeq, Ob.sSet, Ob.sOwn, Ob.sIf, Ob.sRet, Ob.sRetL, Ob.sRetO, Ob.sRetN, Ob.sDrop, Ob.sApp, Ob.sAug, Ob.sFrz, Ob.frz, Ob.sAsg, Ob.sPar, Ob.sE, Ob.bnd, Ob.lft, Ob.gSet, Ob.gsNil, Ob.gsCons, Ob.gTup, Ob.gLst, Ob.sFor, Ob.iL, Ob.iT, Ob.eVar, Ob.e2, Ob.op2, Ob.asB, Ob.truD, Ob.eChain, Ob.tAndF, Ob.tOrF, Ob.tNotF, Ob.eAnd, Ob.eOr, Ob.eNot, Ob.eIf, Ob.aNil, Ob.aCons, Ob.eTup, Ob.mkT, Ob.lLst, Ob.eL, Ob.mkL, Ob.eCall, Ob.pyAll, Ob.pE, Ob.pL, Ob.pT, Ob.pv, Ob.pvS, Ob.eIx, Ob.ixD, Ob.D.lst?, Ob.D.tup?, Ob.lLc, Ob.lcD, Ob.wipeE, Ob.pYes, Ob.sNext, Ob.fnO, Ob.entry, Ob.goE, Ob.goL, Ob.goN, Ob.eG, Ob.lG, Ob.eP, Ob.eFld, Ob.fld, Ob.sFld, Ob.setFld, Ob.putD, Ob.sFldAug, Ob.clsOf, Ob.eMeth, Ob.eMeth0, Ob.eProp, Ob.eMake, Ob.eMakeK, Ob.made, Ob.eSup, Ob.eSup0, Ob.eSupK, Ob.Mr.list, Ob.eIsC, Ob.isC, Ob.sRaise, Ob.eLenSet, Ob.lenSet, List.lookup_cons, List.lookup_nil, Bool.false_eq_true, List.set_set, beq_self_eq_true, Option.isNone_none, Option.map_none, Option.bind_none, hp, List.mem_singleton, bq_row_gone, qe_row_gone, bq_gone_row, qe_gone_row]
  show Ob.fnO 6 b_Plan_move [.obj p, cT e.nm, cI k] st = _
  unfold Ob.fnO
  rw [show Ob.entry 6 [Ob.D.obj p, cT e.nm, cI k] = [V (.obj p), V (cT e.nm), V (cI k), none, none, none] from rfl, hb]
end
end Lw

namespace Lw
open PySem L2 Fi
/-! ### neighbours exchanged -/
section
variable {st : Ob.Stor} {p : Nat} {es : List Ev} {g : Int} {nm : Str}
theorem move_bad {e : Ev} {v : PyData} (R : Row st es) (hp : st[p]? = some (oP es g)) (he : e ∈ es) (ha : atm v = true) (hi : isI v 0 ((es.length : Int) - 1) = false) : F_Plan_move [.obj p, cT e.nm, .py v] st = some (.err "InvalidPlace" st) := by
  have p1 := mv_pick (F := F_Plan_envelope) hp
  have p2 := penv_ok R.ok hp R.nn he
  have i1 := isint_gen (lo := 0) (hi := (es.length : Int) - 1) ha
  rw [hi] at i1
  simp only [sSeq, sSet, sOwn, sPar, sParL,  sIf, sRet, sRetL, sRetO, sDrop, sAug, sApp, sFrz, frz, sAsg, gSet, gsNil, gsCons, gTupF, Fi.gSub, sFor, iL, iT, iR1, iR2, iZ, iEn, itemsK, eVar, eC, Fi.e2, Fi.e1, asB, eChain, tAndF, tOrF, tNotF, eAnd, eOr, eNot, eIf, aNil, aCons, eTup, lLst, eL, eCall, lCall, eCallF, lCallF, eSlT, lSl, oNone, oSome, ownIx, ownLen, lLc, wipeE, pYes, sNext, fnD, entry, fAdd_int, fSub, fMul_l, fMul_r, fDiv_ok, fMod_ok, fPow_ok, fLt, fLe, fGt, fGe, fEq_int, fEq_str, fEq_bool, fNe_int, fNe_str, fNe_bool, isN, fIs, fIsNot, fIx, fNeg, fLen, fMin, fMax, fTuple, fList, fIntB, fSum, fAll, fAny, at_0, at_1, at_2, eT, eS, eStep, eR, getInts_map, Option.bind_some, Option.map_some, List.getElem?_cons_succ, List.getElem?_cons_zero, List.set_cons_succ, List.set_cons_zero, List.length_cons, List.length_nil, List.length_map, List.map_cons, List.map_nil, List.nil_append, List.cons_append, List.replicate, Nat.zero_add, Nat.reduceAdd, Nat.reduceSub, decide_true, decide_false, reduceIte, Nat.reduceLeDiff, Nat.reduceLT, Int.reduceLT, Int.reduceLE, Int.reduceNeg, Int.reducePow, and_self, or_self, and_true, true_and, or_true, true_or, Bool.not_true, Bool.not_false, pour_spend, spend_pour, Ob.sSeq, Ob.sSet, Ob.sOwn, Ob.sIf, Ob.sRet, Ob.sRetL, Ob.sRetO, Ob.sRetN, Ob.sDrop, Ob.sApp, Ob.sAug, Ob.sFrz, Ob.frz, Ob.sAsg, Ob.sPar, Ob.sE, Ob.bnd, Ob.lft, Ob.gSet, Ob.gsNil, Ob.gsCons, Ob.gTup, Ob.gLst, Ob.sFor, Ob.iL, Ob.iT, Ob.eVar, Ob.e2, Ob.op2, Ob.asB, Ob.truD, Ob.eChain, Ob.tAndF, Ob.tOrF, Ob.tNotF, Ob.eAnd, Ob.eOr, Ob.eNot, Ob.eIf, Ob.aNil, Ob.aCons, Ob.eTup, Ob.mkT, Ob.lLst, Ob.eL, Ob.mkL, Ob.eCall, Ob.pyAll, Ob.pE, Ob.pL, Ob.pT, Ob.pv, Ob.pvS, Ob.eIx, Ob.ixD, Ob.D.lst?, Ob.D.tup?, Ob.lLc, Ob.lcD, Ob.wipeE, Ob.pYes, Ob.sNext, Ob.fnO, Ob.entry, Ob.goE, Ob.goL, Ob.goN, Ob.eG, Ob.lG, Ob.eP, Ob.eFld, Ob.fld, Ob.sFld, Ob.setFld, Ob.putD, Ob.sFldAug, Ob.clsOf, Ob.eMeth, Ob.eMeth0, Ob.eProp, Ob.eMake, Ob.eMakeK, Ob.made, Ob.eSup, Ob.eSup0, Ob.eSupK, Ob.Mr.list, Ob.eIsC, Ob.isC, Ob.sRaise, Ob.eLenSet, Ob.lenSet, List.lookup_cons, List.lookup_nil, Bool.false_eq_true, List.set_set, beq_self_eq_true, Option.isNone_none, Option.map_none, Option.bind_none, F_Plan_move, b_Plan_move, p1, p2, hp, List.mem_singleton, Ob.eLenD, Ob.D.seq?, List.length_map, i1,]
theorem move_unk {v : PyData} (R : Row st es) (hp : st[p]? = some (oP es g)) (hn : ∀ e ∈ es, e.nm ≠ nm) : F_Plan_move [.obj p, cT nm, .py v] st = some (.err "UnknownEnvelope" st) := by
  have p1 := mv_pick (F := F_Plan_envelope) hp
  have p2 := penv_no R.ok hp hn
  simp only [sSeq, sSet, sOwn, sPar, sParL,  sIf, sRet, sRetL, sRetO, sDrop, sAug, sApp, sFrz, frz, sAsg, gSet, gsNil, gsCons, gTupF, Fi.gSub, sFor, iL, iT, iR1, iR2, iZ, iEn, itemsK, eVar, eC, Fi.e2, Fi.e1, asB, eChain, tAndF, tOrF, tNotF, eAnd, eOr, eNot, eIf, aNil, aCons, eTup, lLst, eL, eCall, lCall, eCallF, lCallF, eSlT, lSl, oNone, oSome, ownIx, ownLen, lLc, wipeE, pYes, sNext, fnD, entry, fAdd_int, fSub, fMul_l, fMul_r, fDiv_ok, fMod_ok, fPow_ok, fLt, fLe, fGt, fGe, fEq_int, fEq_str, fEq_bool, fNe_int, fNe_str, fNe_bool, isN, fIs, fIsNot, fIx, fNeg, fLen, fMin, fMax, fTuple, fList, fIntB, fSum, fAll, fAny, at_0, at_1, at_2, eT, eS, eStep, eR, getInts_map, Option.bind_some, Option.map_some, List.getElem?_cons_succ, List.getElem?_cons_zero, List.set_cons_succ, List.set_cons_zero, List.length_cons, List.length_nil, List.length_map, List.map_cons, List.map_nil, List.nil_append, List.cons_append, List.replicate, Nat.zero_add, Nat.reduceAdd, Nat.reduceSub, decide_true, decide_false, reduceIte, Nat.reduceLeDiff, Nat.reduceLT, Int.reduceLT, Int.reduceLE, Int.reduceNeg, Int.reducePow, and_self, or_self, and_true, true_and, or_true, true_or, Bool.not_true, Bool.not_false, pour_spend, spend_pour, Ob.sSeq, Ob.sSet, Ob.sOwn, Ob.sIf, Ob.sRet, Ob.sRetL, Ob.sRetO, Ob.sRetN, Ob.sDrop, Ob.sApp, Ob.sAug, Ob.sFrz, Ob.frz, Ob.sAsg, Ob.sPar, Ob.sE, Ob.bnd, Ob.lft, Ob.gSet, Ob.gsNil, Ob.gsCons, Ob.gTup, Ob.gLst, Ob.sFor, Ob.iL, Ob.iT, Ob.eVar, Ob.e2, Ob.op2, Ob.asB, Ob.truD, Ob.eChain, Ob.tAndF, Ob.tOrF, Ob.tNotF, Ob.eAnd, Ob.eOr, Ob.eNot, Ob.eIf, Ob.aNil, Ob.aCons, Ob.eTup, Ob.mkT, Ob.lLst, Ob.eL, Ob.mkL, Ob.eCall, Ob.pyAll, Ob.pE, Ob.pL, Ob.pT, Ob.pv, Ob.pvS, Ob.eIx, Ob.ixD, Ob.D.lst?, Ob.D.tup?, Ob.lLc, Ob.lcD, Ob.wipeE, Ob.pYes, Ob.sNext, Ob.fnO, Ob.entry, Ob.goE, Ob.goL, Ob.goN, Ob.eG, Ob.lG, Ob.eP, Ob.eFld, Ob.fld, Ob.sFld, Ob.setFld, Ob.putD, Ob.sFldAug, Ob.clsOf, Ob.eMeth, Ob.eMeth0, Ob.eProp, Ob.eMake, Ob.eMakeK, Ob.made, Ob.eSup, Ob.eSup0, Ob.eSupK, Ob.Mr.list, Ob.eIsC, Ob.isC, Ob.sRaise, Ob.eLenSet, Ob.lenSet, List.lookup_cons, List.lookup_nil, Bool.false_eq_true, List.set_set, beq_self_eq_true, Option.isNone_none, Option.map_none, Option.bind_none, F_Plan_move, b_Plan_move, p1, p2]
end
theorem oth_all {z : Str} : ∀ {es : List Ev}, z ∉ es.map (·.nm) → oth z es = es
  | [], _ => rfl
  | x :: es, h => by
    rw [List.map_cons, List.mem_cons, not_or] at h
    unfold oth
    rw [List.filter_cons_of_pos (by simp [Ne.symm h.1])]
    congr 1
    exact oth_all h.2
theorem oth_perm {e : Ev} : ∀ {es : List Ev}, e ∈ es → (es.map (·.nm)).Nodup → (e :: oth e.nm es).Perm es
  | x :: es, he, hd => by
    rw [List.map_cons, List.nodup_cons] at hd
    rcases List.mem_cons.mp he with rfl | he
    · unfold oth
      rw [List.filter_cons_of_neg (by simp)]
      have := oth_all hd.1
      unfold oth at this
      rw [this]
    · have hne : x.nm ≠ e.nm := fun z => hd.1 (List.mem_map.mpr ⟨e, he, z.symm⟩)
      have ih := oth_perm he hd.2
      unfold oth at *
      rw [List.filter_cons_of_pos (by simp [hne])]
      exact (List.Perm.swap ..).trans (ih.cons x)
theorem mv_perm {e : Ev} {es : List Ev} (k : Nat) (he : e ∈ es) (hd : (es.map (·.nm)).Nodup) : (mvE e k es).Perm es := by
  unfold mvE
  refine List.perm_middle.trans ?_
  rw [List.take_append_drop]
  exact oth_perm he hd
theorem Row.perm {st : Ob.Stor} {es fs : List Ev} (R : Row st es) (h : fs.Perm es) : Row st fs :=
  ⟨fun e he => R.ok e (h.mem_iff.mp he), fun e he => R.wf e (h.mem_iff.mp he), (h.map _).nodup_iff.mpr R.nd, (h.map _).nodup_iff.mpr R.nn⟩
theorem Row.setP {st : Ob.Stor} {es fs : List Ev} {p : Nat} {o : Ob.Oj} (R : Row st es) (h : p ∉ es.map (·.n)) : Row (st.set p o) es :=
  ⟨fun e he => ⟨(R.ok e he).1, by rw [set_ne fun z => h (List.mem_map.mpr ⟨e, he, z.symm⟩)]; exact (R.ok e he).2⟩, R.wf, R.nd, R.nn⟩
/-- the moved neighbour -/
theorem mv_swap {A C : List Ev} {a b : Ev} (hd : ((A ++ a :: b :: C).map (·.nm)).Nodup) : mvE a (A.length + 1) (A ++ a :: b :: C) = A ++ b :: a :: C := by
  rw [List.map_append, List.map_cons, List.map_cons, List.nodup_append, List.nodup_cons, List.nodup_cons] at hd
  obtain ⟨h1, ⟨h2, h3, h4⟩, h5⟩ := hd
  have o1 : oth a.nm A = A := oth_all fun z => h5 a.nm z a.nm (List.mem_cons_self ..) rfl
  have o2 : oth a.nm (b :: C) = b :: C := oth_all h2
  have o3 : oth a.nm (A ++ a :: b :: C) = A ++ b :: C := by
    unfold oth at *
    rw [List.filter_append, List.filter_cons_of_neg (by simp), o1, o2]
  unfold mvE
  rw [o3, show A ++ b :: C = (A ++ [b]) ++ C by simp, List.take_append_of_le_length (by simp), List.take_of_length_le (by simp), List.drop_append_of_le_length (by simp), List.drop_of_length_le (by simp)]
  simp
/-! what a row shows -/
def key (e : Ev) : Str × Int × Int := (e.nm, e.cap, e.h)
theorem key_pour : ∀ {A B : List Ev} {x : Int}, A.map key = B.map key → (pourE x A).map key = (pourE x B).map key ∧ restE x A = restE x B
  | [], [], _, _ => ⟨rfl, rfl⟩
  | a :: A, b :: B, x, h => by
    rw [List.map_cons, List.map_cons, List.cons.injEq] at h
    obtain ⟨h1, h2⟩ := h
    have e1 : a.nm = b.nm := congrArg (·.1) h1
    have e2 : a.cap = b.cap := congrArg (·.2.1) h1
    have e3 : a.h = b.h := congrArg (·.2.2) h1
    rw [pourE, pourE, restE, restE, List.map_cons, List.map_cons, e2, e3]
    obtain ⟨i1, i2⟩ := key_pour (x := x - min x (b.cap - b.h)) h2
    refine ⟨?_, i2⟩
    rw [i1]
    unfold key inc
    simp [e1, e2, e3]
  | [], _ :: _, _, h => by simp at h
  | _ :: _, [], _, h => by simp at h
theorem pour_app : ∀ {A B : List Ev} {x : Int}, pourE x (A ++ B) = pourE x A ++ pourE (restE x A) B ∧ restE x (A ++ B) = restE (restE x A) B
  | [], B, x => ⟨rfl, rfl⟩
  | a :: A, B, x => by
    obtain ⟨h1, h2⟩ := pour_app (A := A) (B := B) (x := x - min x (a.cap - a.h))
    rw [List.cons_append, pourE, pourE, restE, restE, h1, h2]
    exact ⟨rfl, rfl⟩
theorem pour_len : ∀ (es : List Ev) (a : Int), (pourE a es).length = es.length
  | [], a => rfl
  | e :: es, a => by rw [pourE, List.length_cons, List.length_cons, pour_len]
theorem rest_nn : ∀ (es : List Ev) (a : Int), 0 ≤ a → 0 ≤ restE a es
  | [], a, h => h
  | e :: es, a, h => by
    rw [restE]
    exact rest_nn es _ (by omega)
/-- taken by name -/
def tkE (z : Str) (d : Int) (es : List Ev) : List Ev := es.map fun e => if e.nm = z then inc e (-d) else e
theorem tk_not {z : Str} {d : Int} : ∀ {es : List Ev}, z ∉ es.map (·.nm) → tkE z d es = es
  | [], _ => rfl
  | x :: es, h => by
    rw [List.map_cons, List.mem_cons, not_or] at h
    unfold tkE
    rw [List.map_cons, if_neg (Ne.symm h.1)]
    congr 1
    exact tk_not h.2
theorem key_tk {z : Str} {d : Int} : ∀ {A B : List Ev}, A.map key = B.map key → (tkE z d A).map key = (tkE z d B).map key
  | [], [], _ => rfl
  | a :: A, b :: B, h => by
    rw [List.map_cons, List.map_cons, List.cons.injEq] at h
    obtain ⟨h1, h2⟩ := h
    have e1 : a.nm = b.nm := congrArg (·.1) h1
    have e2 : a.cap = b.cap := congrArg (·.2.1) h1
    have e3 : a.h = b.h := congrArg (·.2.2) h1
    have ih := key_tk (z := z) (d := d) h2
    unfold tkE at *
    rw [List.map_cons, List.map_cons, List.map_cons, List.map_cons, ih, e1]
    congr 1
    by_cases q : b.nm = z
    · rw [if_pos q, if_pos q]
      unfold key inc
      simp [e1, e2, e3]
    · rw [if_neg q, if_neg q]
      exact h1
  | [], _ :: _, h => by simp at h
  | _ :: _, [], h => by simp at h
theorem take_ok {st : Ob.Stor} {es : List Ev} {p : Nat} {gone d : Int} {e : Ev} (R : Row st es) (hp : st[p]? = some (oP es gone)) (he : e ∈ es) (h0 : 0 ≤ d) (h1 : d ≤ e.h) :
    ∃ st', F_Envelope_take [.obj e.n, cI d] st = some (.ok (.val (.py .none)) st') ∧ Row st' (tkE e.nm d es) ∧ st'[p]? = some (oP (tkE e.nm d es) gone) ∧ Frm st st' p es := by
  have w := R.wf e he
  have w0 := w.h0
  have w1 := w.h1
  have w2 := w.c2
  have t1 := ktake (a := d) (R.ok e he).2 h0 (by omega) h1
  have hpn := row_plan R.ok hp
  have hne : e.n ≠ p := fun z => hpn (List.mem_map.mpr ⟨e, he, z⟩)
  obtain ⟨l1, l2, rfl⟩ := List.append_of_mem he
  have nn := R.nn
  rw [List.map_append, List.map_cons, List.nodup_append, List.nodup_cons] at nn
  have e1 : tkE e.nm d (l1 ++ e :: l2) = l1 ++ inc e (-d) :: l2 := by
    have a1 := tk_not (d := d) (z := e.nm) (es := l1) fun z => nn.2.2 e.nm z e.nm (List.mem_cons_self ..) rfl
    have a2 := tk_not (d := d) (z := e.nm) (es := l2) nn.2.1.1
    unfold tkE at *
    rw [List.map_append, List.map_cons, if_pos rfl, a1, a2]
  have R2 := R.set (e' := inc e (-d)) rfl rfl (inc_wf w (by omega) (by omega))
  rw [e1]
  refine ⟨_, t1, R2, ?_, by rw [List.length_set], fun i h1 h2 => ?_⟩
  · rw [set_ne hne, hp]
    unfold oP
    rw [List.map_append, List.map_append, List.map_cons, List.map_cons]
    rfl
  · rw [set_ne fun z => h2 (List.mem_map.mpr ⟨e, he, z⟩)]
end Lw

namespace Lw
open PySem L2 Fi
/-! ### law k11: two plans, neighbours exchanged -/
structure Xc (st : Ob.Stor) (p q at_ : Nat) (zs : List Str) (A C A' C' : List Ev) (a b a' b' : Ev) (g : Int) : Prop where
  R1 : Row st (A ++ a :: b :: C)
  R2 : Row st (A' ++ b' :: a' :: C')
  p1 : st[p]? = some (oP (A ++ a :: b :: C) g)
  p2 : st[q]? = some (oP (A' ++ b' :: a' :: C') g)
  pq : p ≠ q
  dj : ∀ e ∈ A ++ a :: b :: C, e.n ∉ (A' ++ b' :: a' :: C').map (·.n)
  kA : A.map key = A'.map key
  kC : C.map key = C'.map key
  na : a.nm = a'.nm
  nb : b.nm = b'.nm
  ca : a.cap = a'.cap
  cb : b.cap = b'.cap
  sm : a.h + b.h = a'.h + b'.h
  hz : (A ++ a :: b :: C).map (·.nm) = zs
  hA : A.length = at_
  l6 : zs.length ≤ 6
  tb : st[0]? = some (.tab "law")
theorem Frm.tab {st st' : Ob.Stor} {p : Nat} {es : List Ev} {g : Int} {x : Str} (F : Frm st st' p es) (R : EvsOk st es) (hp : st[p]? = some (oP es g)) (h : st[0]? = some (.tab x)) : st'[0]? = some (.tab x) := by
  rw [F.2 0 (fun z => by rw [← z, h] at hp; cases hp) (fun z => by
    obtain ⟨e, he, ee⟩ := List.mem_map.mp z
    have := (R e he).2
    rw [ee, h] at this
    cases this)]
  exact h
def XI (st : Ob.Stor) (p q at_ : Nat) (zs : List Str) : Prop := ∃ A C A' C' a b a' b' g, Xc st p q at_ zs A C A' C' a b a' b' g
theorem pour_nm : ∀ (es : List Ev) (a : Int), (pourE a es).map (·.nm) = es.map (·.nm)
  | [], a => rfl
  | e :: es, a => by rw [pourE, List.map_cons, List.map_cons, pour_nm]; rfl
theorem tk_nm {z : Str} {d : Int} : ∀ es : List Ev, (tkE z d es).map (·.nm) = es.map (·.nm)
  | [] => rfl
  | e :: es => by
    have ih := tk_nm (z := z) (d := d) es
    unfold tkE at *
    rw [List.map_cons, List.map_cons, List.map_cons, ih]
    congr 1
    by_cases q : e.nm = z
    · rw [if_pos q]; rfl
    · rw [if_neg q]
theorem tk_n {z : Str} {d : Int} : ∀ es : List Ev, (tkE z d es).map (·.n) = es.map (·.n)
  | [] => rfl
  | e :: es => by
    have ih := tk_n (z := z) (d := d) es
    unfold tkE at *
    rw [List.map_cons, List.map_cons, List.map_cons, ih]
    congr 1
    by_cases q : e.nm = z
    · rw [if_pos q]; rfl
    · rw [if_neg q]
theorem key_nm {A B : List Ev} (h : A.map key = B.map key) : A.map (·.nm) = B.map (·.nm) := by
  have := congrArg (List.map fun k : Str × Int × Int => k.1) h
  rw [List.map_map, List.map_map] at this
  exact this
theorem key_h {A B : List Ev} (h : A.map key = B.map key) : A.map (·.h) = B.map (·.h) := by
  have := congrArg (List.map fun k : Str × Int × Int => k.2.2) h
  rw [List.map_map, List.map_map] at this
  exact this
section
variable {st : Ob.Stor} {p q at_ : Nat} {zs : List Str}
theorem XI.pour {x : Int} (X : XI st p q at_ zs) (h0 : 0 ≤ x) (h1 : x ≤ 1000) : ∃ r s1 s2, Ob.pick [("Plan", F_Plan_pour)] "pour" (.obj p) st = some F_Plan_pour ∧ F_Plan_pour [.obj p, cI x] st = some (.ok (.val (cI r)) s1) ∧ Ob.pick [("Plan", F_Plan_pour)] "pour" (.obj q) s1 = some F_Plan_pour ∧ F_Plan_pour [.obj q, cI x] s1 = some (.ok (.val (cI r)) s2) ∧ XI s2 p q at_ zs := by
  obtain ⟨A, C, A', C', a, b, a', b', g, X⟩ := X
  obtain ⟨s1, e1, r1, p1, f1⟩ := pour_ok (a := x) X.R1 X.p1 h0 (by omega)
  have hq1 := row_plan X.R1.ok X.p2
  have hp2 := row_plan X.R2.ok X.p1
  have R2 := X.R2.frm f1 (fun f hf z => by
    obtain ⟨e, he, ee⟩ := List.mem_map.mp z
    exact X.dj e he (List.mem_map.mpr ⟨f, hf, ee.symm⟩)) hp2
  have p2 : s1[q]? = some (oP (A' ++ b' :: a' :: C') g) := by rw [f1.2 q (Ne.symm X.pq) hq1]; exact X.p2
  obtain ⟨s2, e2, r2, p2', f2⟩ := pour_ok (a := x) R2 p2 h0 (by omega)
  have tb2 := f2.tab R2.ok p2 (f1.tab X.R1.ok X.p1 X.tb)
  have wa := X.R1.wf a (by simp)
  have wb := X.R1.wf b (by simp)
  have wa' := X.R2.wf a' (by simp)
  have wb' := X.R2.wf b' (by simp)
  obtain ⟨k1, k2⟩ := key_pour (x := x) X.kA
  have hrr := rest_nn A x h0
  have u1 := pour_app (A := A) (B := a :: b :: C) (x := x)
  have u2 := pour_app (A := A') (B := b' :: a' :: C') (x := x)
  rw [← k2] at u2
  generalize hr : restE x A = r at *
  simp only [pourE, restE] at u1 u2
  have hsum : min r (a.cap - a.h) + min (r - min r (a.cap - a.h)) (b.cap - b.h) = min r (b'.cap - b'.h) + min (r - min r (b'.cap - b'.h)) (a'.cap - a'.h) := by
    have := X.sm
    have := X.ca
    have := X.cb
    have := wa.h1
    have := wb.h1
    have := wa'.h1
    have := wb'.h1
    omega
  have hsm := X.sm
  generalize min r (a.cap - a.h) = ta at *
  generalize min (r - ta) (b.cap - b.h) = tb at *
  generalize min r (b'.cap - b'.h) = tb' at *
  generalize min (r - tb') (a'.cap - a'.h) = ta' at *
  have hrest : r - ta - tb = r - tb' - ta' := by omega
  rw [hrest] at u1
  obtain ⟨c1, c2⟩ := key_pour (x := r - tb' - ta') X.kC
  have er : restE x (A ++ a :: b :: C) = restE x (A' ++ b' :: a' :: C') := by rw [u1.2, u2.2, c2]
  rw [← er] at e2 p2'
  rw [u1.1] at r1 p1
  rw [u2.1] at r2 p2'
  have hp2n : p ∉ (A' ++ b' :: a' :: C').map (·.n) := hp2
  have R1' := r1.frm f2 (fun f hf z => by
    have hm : f.n ∈ (pourE x (A ++ a :: b :: C)).map (·.n) := by rw [u1.1]; exact List.mem_map.mpr ⟨f, hf, rfl⟩
    rw [pour_n] at hm
    obtain ⟨e, he, ee⟩ := List.mem_map.mp hm
    exact X.dj e he (by rw [ee]; exact z)) (by
      have : (pourE x A ++ inc a ta :: inc b tb :: pourE (r - tb' - ta') C).map (·.n) = (A ++ a :: b :: C).map (·.n) := by rw [← u1.1, pour_n]
      rw [this]
      exact hq1)
  have p1' : s2[p]? = some (oP (pourE x A ++ inc a ta :: inc b tb :: pourE (r - tb' - ta') C) (g + restE x (A ++ a :: b :: C))) := by rw [f2.2 p X.pq hp2n]; exact p1
  refine ⟨_, s1, s2, ppick X.p1, e1, ppick p2, e2, _, _, _, _, _, _, _, _, _, ⟨R1', r2, p1', p2', X.pq, fun e he z => ?_, k1, c1, X.na, X.nb, X.ca, X.cb, ?_, ?_, ?_, X.l6, tb2⟩⟩
  · have m1 : e.n ∈ (pourE x (A ++ a :: b :: C)).map (·.n) := by rw [u1.1]; exact List.mem_map.mpr ⟨e, he, rfl⟩
    rw [pour_n] at m1
    have m2 : e.n ∈ (pourE x (A' ++ b' :: a' :: C')).map (·.n) := by rw [u2.1]; exact z
    rw [pour_n] at m2
    obtain ⟨f, hf, ef⟩ := List.mem_map.mp m1
    exact X.dj f hf (by rw [ef]; exact m2)
  · show a.h + ta + (b.h + tb) = a'.h + ta' + (b'.h + tb')
    omega
  · rw [← u1.1, pour_nm]
    exact X.hz
  · rw [pour_len]
    exact X.hA
theorem mem_nm {es : List Ev} {z : Str} (h : z ∈ es.map (·.nm)) : ∃ e ∈ es, e.nm = z := by
  obtain ⟨e, he, ee⟩ := List.mem_map.mp h
  exact ⟨e, he, ee⟩
theorem Xc.zs2 {A C A' C' : List Ev} {a b a' b' : Ev} {g : Int} (X : Xc st p q at_ zs A C A' C' a b a' b' g) {z : Str} (h : z ∈ zs) : z ∈ (A' ++ b' :: a' :: C').map (·.nm) := by
  have hz := X.hz
  rw [List.map_append, List.map_cons, List.map_cons] at hz
  rw [List.map_append, List.map_cons, List.map_cons, ← key_nm X.kA, ← key_nm X.kC, ← X.na, ← X.nb]
  rw [← hz] at h
  simp only [List.mem_append, List.mem_cons] at h ⊢
  rcases h with h | h | h | h
  · exact .inl h
  · exact .inr (.inr (.inl h))
  · exact .inr (.inl h)
  · exact .inr (.inr (.inr h))
/-- the envelopes of a name -/
structure Ens (st : Ob.Stor) (p q : Nat) (z : Str) (n m : Nat) (h h' : Int) : Prop where
  k1 : Ob.pick [("Plan", F_Plan_envelope)] "envelope" (.obj p) st = some F_Plan_envelope
  e1 : F_Plan_envelope [.obj p, cT z] st = some (.ok (.val (.obj n)) st)
  k2 : Ob.pick [("Plan", F_Plan_envelope)] "envelope" (.obj q) st = some F_Plan_envelope
  e2 : F_Plan_envelope [.obj q, cT z] st = some (.ok (.val (.obj m)) st)
  v1 : Ob.pickP [("Envelope", F_Envelope_level)] (.obj n) st = some F_Envelope_level
  w1 : F_Envelope_level [.obj n] st = some (.ok (.val (cI h)) st)
  v2 : Ob.pickP [("Envelope", F_Envelope_level)] (.obj m) st = some F_Envelope_level
  w2 : F_Envelope_level [.obj m] st = some (.ok (.val (cI h')) st)
theorem Xc.ens {A C A' C' : List Ev} {a b a' b' : Ev} {g : Int} (X : Xc st p q at_ zs A C A' C' a b a' b' g) {e e' : Ev} (he : e ∈ A ++ a :: b :: C) (he' : e' ∈ A' ++ b' :: a' :: C') (hn : e.nm = e'.nm) : Ens st p q e.nm e.n e'.n e.h e'.h :=
  ⟨mv_pick X.p1, penv_ok X.R1.ok X.p1 X.R1.nn he, mv_pick X.p2, by rw [hn]; exact penv_ok X.R2.ok X.p2 X.R2.nn he', kpick (X.R1.ok e he).2, klev (X.R1.ok e he).2, kpick (X.R2.ok e' he').2, klev (X.R2.ok e' he').2⟩
theorem XI.take {z : Str} (X : XI st p q at_ zs) (hz : z ∈ zs) : ∃ n m h h', Ens st p q z n m h h' ∧ 0 ≤ h ∧ 0 ≤ h' ∧ h ≤ 1000000 ∧ ∀ d, 0 ≤ d → d ≤ h → d ≤ h' → ∃ s1 s2, Ob.pick [("Envelope", F_Envelope_take)] "take" (.obj n) st = some F_Envelope_take ∧ F_Envelope_take [.obj n, cI d] st = some (.ok (.val (.py .none)) s1) ∧
    Ob.pick [("Plan", F_Plan_envelope)] "envelope" (.obj q) s1 = some F_Plan_envelope ∧ F_Plan_envelope [.obj q, cT z] s1 = some (.ok (.val (.obj m)) s1) ∧ Ob.pick [("Envelope", F_Envelope_take)] "take" (.obj m) s1 = some F_Envelope_take ∧ F_Envelope_take [.obj m, cI d] s1 = some (.ok (.val (.py .none)) s2) ∧ XI s2 p q at_ zs := by
  obtain ⟨A, C, A', C', a, b, a', b', g, X⟩ := X
  obtain ⟨e', he', hn'⟩ := mem_nm (X.zs2 hz)
  rw [← X.hz] at hz
  obtain ⟨e, he, rfl⟩ := mem_nm hz
  have w := X.R1.wf e he
  have w' := X.R2.wf e' he'
  have := w.h1
  have := w.c2
  refine ⟨e.n, e'.n, e.h, e'.h, X.ens he he' hn'.symm, w.h0, w'.h0, by omega, fun d d0 d1 d2 => ?_⟩
  obtain ⟨s1, t1, r1, p1, f1⟩ := take_ok X.R1 X.p1 he d0 d1
  have hq1 := row_plan X.R1.ok X.p2
  have hp2 := row_plan X.R2.ok X.p1
  have R2 := X.R2.frm f1 (fun f hf z => by
    obtain ⟨e, he, ee⟩ := List.mem_map.mp z
    exact X.dj e he (List.mem_map.mpr ⟨f, hf, ee.symm⟩)) hp2
  have p2 : s1[q]? = some (oP (A' ++ b' :: a' :: C') g) := by rw [f1.2 q (Ne.symm X.pq) hq1]; exact X.p2
  obtain ⟨s2, t2, r2, p2', f2⟩ := take_ok R2 p2 he' d0 d2
  have tb2 := f2.tab R2.ok p2 (f1.tab X.R1.ok X.p1 X.tb)
  have R1' := r1.frm f2 (fun f hf z => by
    have hm : f.n ∈ (tkE e.nm d (A ++ a :: b :: C)).map (·.n) := List.mem_map.mpr ⟨f, hf, rfl⟩
    rw [tk_n] at hm
    obtain ⟨e0, he0, ee⟩ := List.mem_map.mp hm
    exact X.dj e0 he0 (by rw [ee]; exact z)) (by rw [tk_n]; exact hq1)
  have p1' : s2[p]? = some (oP (tkE e.nm d (A ++ a :: b :: C)) g) := by rw [f2.2 p X.pq hp2]; exact p1
  refine ⟨s1, s2, ktake_pick (X.R1.ok e he).2, t1, mv_pick p2, by rw [← hn']; exact penv_ok R2.ok p2 R2.nn he', ktake_pick (R2.ok e' he').2, t2, ?_⟩
  rw [hn'] at r2 p2'
  have ex : ∀ (z : Str) (A : List Ev) (a b : Ev) (C : List Ev), tkE z d (A ++ a :: b :: C) = tkE z d A ++ (if a.nm = z then inc a (-d) else a) :: (if b.nm = z then inc b (-d) else b) :: tkE z d C := fun z A a b C => by
    unfold tkE
    rw [List.map_append, List.map_cons, List.map_cons]
  rw [ex] at R1' p1' r2 p2'
  refine ⟨_, _, _, _, _, _, _, _, g, ⟨R1', r2, p1', p2', X.pq, fun f hf z => ?_, key_tk X.kA, key_tk X.kC, ?_, ?_, ?_, ?_, ?_, ?_, ?_, X.l6, tb2⟩⟩
  · rw [← ex, tk_n] at z
    have hm : f.n ∈ (tkE e.nm d (A ++ a :: b :: C)).map (·.n) := by rw [ex]; exact List.mem_map.mpr ⟨f, hf, rfl⟩
    rw [tk_n] at hm
    obtain ⟨e0, he0, ee⟩ := List.mem_map.mp hm
    exact X.dj e0 he0 (by rw [ee]; exact z)
  · rw [← X.na]
    split <;> exact X.na
  · rw [← X.nb]
    split <;> exact X.nb
  · rw [← X.na]
    split <;> exact X.ca
  · rw [← X.nb]
    split <;> exact X.cb
  · rw [← X.na, ← X.nb]
    have := X.sm
    split <;> split <;> (try simp only [inc]) <;> omega
  · rw [← ex, tk_nm]
    exact X.hz
  · unfold tkE
    rw [List.length_map]
    exact X.hA
theorem key_mem {A B : List Ev} (h : A.map key = B.map key) {e : Ev} (he : e ∈ A) : ∃ f ∈ B, e.nm = f.nm ∧ e.h = f.h := by
  have : key e ∈ B.map key := by rw [← h]; exact List.mem_map.mpr ⟨e, he, rfl⟩
  obtain ⟨f, hf, ef⟩ := List.mem_map.mp this
  exact ⟨f, hf, (congrArg (·.1) ef).symm, (congrArg (·.2.2) ef).symm⟩
theorem XI.alike {z : Str} (X : XI st p q at_ zs) (hz : z ∈ zs.take at_ ++ zs.drop (at_ + 2)) : ∃ n m h, Ens st p q z n m h h := by
  obtain ⟨A, C, A', C', a, b, a', b', g, X⟩ := X
  have e0 := X.hz
  rw [List.map_append, List.map_cons, List.map_cons] at e0
  have hl : (A.map (·.nm)).length = at_ := by rw [List.length_map]; exact X.hA
  have e1 : zs.take at_ = A.map (·.nm) := by rw [← e0, ← hl, List.take_left]
  have e2 : zs.drop (at_ + 2) = C.map (·.nm) := by
    rw [← e0, ← hl, List.drop_append]
    simp
  rw [e1, e2, List.mem_append] at hz
  rcases hz with hz | hz
  · obtain ⟨e, he, rfl⟩ := mem_nm hz
    obtain ⟨f, hf, fn, fh⟩ := key_mem X.kA he
    have := X.ens (e := e) (e' := f) (List.mem_append_left _ he) (List.mem_append_left _ hf) fn
    rw [← fh] at this
    exact ⟨_, _, _, this⟩
  · obtain ⟨e, he, rfl⟩ := mem_nm hz
    obtain ⟨f, hf, fn, fh⟩ := key_mem X.kC he
    have := X.ens (e := e) (e' := f) (by simp [he]) (by simp [hf]) fn
    rw [← fh] at this
    exact ⟨_, _, _, this⟩
theorem XI.sums (X : XI st p q at_ zs) : ∃ t g, Ob.pickP [("Plan", F_Plan_total)] (.obj p) st = some F_Plan_total ∧ Ob.pickP [("Plan", F_Plan_total)] (.obj q) st = some F_Plan_total ∧ Ob.pickP [("Plan", F_Plan_lost)] (.obj p) st = some F_Plan_lost ∧ Ob.pickP [("Plan", F_Plan_lost)] (.obj q) st = some F_Plan_lost ∧
    F_Plan_total [.obj p] st = some (.ok (.val (cI t)) st) ∧ F_Plan_total [.obj q] st = some (.ok (.val (cI t)) st) ∧ F_Plan_lost [.obj p] st = some (.ok (.val (cI g)) st) ∧ F_Plan_lost [.obj q] st = some (.ok (.val (cI g)) st) := by
  obtain ⟨A, C, A', C', a, b, a', b', g, X⟩ := X
  have hl1 : (A ++ a :: b :: C).length < 100000 := by
    have := congrArg List.length X.hz
    rw [List.length_map] at this
    have := X.l6
    omega
  have hl2 : (A' ++ b' :: a' :: C').length < 100000 := by
    have h1 := congrArg List.length X.kA
    have h2 := congrArg List.length X.kC
    rw [List.length_map, List.length_map] at h1 h2
    rw [List.length_append, List.length_cons, List.length_cons] at hl1 ⊢
    omega
  have t1 := ptotal_ok X.R1.ok hl1 X.p1
  have t2 := ptotal_ok X.R2.ok hl2 X.p2
  have hs : ((A' ++ b' :: a' :: C').map (·.h)).sum = ((A ++ a :: b :: C).map (·.h)).sum := by
    rw [List.map_append, List.map_append, List.map_cons, List.map_cons, List.map_cons, List.map_cons, key_h X.kA, key_h X.kC]
    simp only [List.sum_append, List.sum_cons]
    have := X.sm
    omega
  rw [hs] at t2
  exact ⟨_, g, ppickP X.p1, ppickP X.p2, ppickP X.p1, ppickP X.p2, t1, t2, plost_ok X.p1, plost_ok X.p2⟩
end
end Lw

namespace Lw
open PySem L2 Fi
structure Good (z : Str) : Prop where
  nm : F_Envelope_is_name [.str z] = some (.val (.bool true))
  lay : PyData.canLay0 (.str z) = true
/-- rows: name, cap, level -/
structure Rw where
  nm : Str
  cap : Int
  h : Int
def Rw.tup (r : Rw) : PyData := .tuple [.str r.nm, .int r.cap, .int r.h]
structure Rw.Ok (r : Rw) : Prop where
  g : Good r.nm
  c1 : 1 ≤ r.cap
  c2 : r.cap ≤ 1000000
  h0 : 0 ≤ r.h
  h1 : r.h ≤ r.cap
def Rw.ev (n : Nat) (r : Rw) : Ev := ⟨n, 0, r.nm, r.cap, r.h, 0, false⟩
def mkR : Nat → List Rw → List Ev
  | _, [] => []
  | n, r :: rs => r.ev n :: mkR (n + 1) rs
theorem mkR_len : ∀ {n : Nat} {rs : List Rw}, (mkR n rs).length = rs.length
  | _, [] => rfl
  | n, r :: rs => by rw [mkR, List.length_cons, List.length_cons, mkR_len]
theorem mkR_nm : ∀ {n : Nat} {rs : List Rw}, (mkR n rs).map (·.nm) = rs.map (·.nm)
  | _, [] => rfl
  | n, r :: rs => by rw [mkR, List.map_cons, List.map_cons, mkR_nm]; rfl
theorem mkR_key : ∀ {n m : Nat} {rs : List Rw}, (mkR n rs).map key = (mkR m rs).map key
  | _, _, [] => rfl
  | n, m, r :: rs => by rw [mkR, mkR, List.map_cons, List.map_cons, mkR_key (m := m + 1)]; rfl
theorem mkR_n : ∀ {n : Nat} {rs : List Rw} {e : Ev}, e ∈ mkR n rs → n ≤ e.n ∧ e.n < n + rs.length
  | _, [], e, he => absurd he List.not_mem_nil
  | n, r :: rs, e, he => by
    rw [mkR] at he
    rcases List.mem_cons.mp he with rfl | he
    · exact ⟨Nat.le_refl _, by rw [List.length_cons]; show n < n + (rs.length + 1); omega⟩
    · have := mkR_n he
      rw [List.length_cons]
      omega
theorem Row.appL {st : Ob.Stor} {es : List Ev} : ∀ {l : List Ob.Oj}, Row st es → Row (st ++ l) es
  | [], R => by rw [List.append_nil]; exact R
  | o :: l, R => by
    rw [show st ++ o :: l = (st ++ [o]) ++ l by simp]
    exact Row.appL R.app
theorem getL {st : Ob.Stor} {l : List Ob.Oj} {n : Nat} {o : Ob.Oj} (h : st[n]? = some o) : (st ++ l)[n]? = some o := by
  rw [List.getElem?_append_left (get_lt h)]
  exact h
theorem mkR_row : ∀ {rs : List Rw} {st : Ob.Stor} {es : List Ev}, Row st es → (∀ r ∈ rs, r.Ok) → (rs.map (·.nm)).Nodup → (∀ r ∈ rs, r.nm ∉ es.map (·.nm)) → Row (st ++ (mkR st.length rs).map Ev.oj) (es ++ mkR st.length rs)
  | [], st, es, R, _, _, _ => by
    rw [mkR, List.map_nil, List.append_nil, List.append_nil]
    exact R
  | r :: rs, st, es, R, hg, hd, hs => by
    rw [List.map_cons, List.nodup_cons] at hd
    have g := hg r (List.mem_cons_self ..)
    have R2 := R.push (e := r.ev st.length) rfl ⟨rfl, g.c1, g.c2, g.h0, g.h1, Int.le_refl 0, g.g.nm, g.g.lay⟩ (hs r (List.mem_cons_self ..))
    have ih := mkR_row (rs := rs) R2 (fun y hy => hg y (List.mem_cons_of_mem _ hy)) hd.2 fun y hy q => by
      rw [List.map_append, List.mem_append] at q
      rcases q with q | q
      · exact hs y (List.mem_cons_of_mem _ hy) q
      · have q' : y.nm = r.nm := by simpa [Rw.ev] using q
        exact hd.1 (List.mem_map.mpr ⟨y, hy, q'⟩)
    rw [List.length_append, List.append_assoc, List.append_assoc] at ih
    exact ih
theorem rowplan {st : Ob.Stor} {rs : List Rw} (hg : ∀ r ∈ rs, r.Ok) (hd : (rs.map (·.nm)).Nodup) (l1 : rs ≠ []) (l2 : rs.length ≤ 6) :
    F__law_plan [.lst ((mkR st.length rs).map Ev.o)] (st ++ (mkR st.length rs).map Ev.oj) = some (.ok (.val (.obj (st.length + rs.length))) (st ++ (mkR st.length rs).map Ev.oj ++ [oP (mkR st.length rs) 0])) ∧
    Row (st ++ (mkR st.length rs).map Ev.oj ++ [oP (mkR st.length rs) 0]) (mkR st.length rs) ∧ (st ++ (mkR st.length rs).map Ev.oj ++ [oP (mkR st.length rs) 0])[st.length + rs.length]? = some (oP (mkR st.length rs) 0) := by
  have R := mkR_row (rs := rs) (st := st) (es := []) Row.nil hg hd (fun _ _ => List.not_mem_nil)
  rw [List.nil_append] at R
  have hl : (st ++ (mkR st.length rs).map Ev.oj).length = st.length + rs.length := by rw [List.length_append, List.length_map, mkR_len]
  have e := lplan_ok (by intro z; have := congrArg List.length z; rw [mkR_len] at this; exact l1 (List.length_eq_zero_iff.mp this)) (by rw [mkR_len]; exact l2) R
  rw [hl] at e
  refine ⟨e, R.app, ?_⟩
  rw [← hl]
  exact app_get
section
variable {x0 x1 x2 x3 x4 x5 x6 x7 x8 x9 x10 : Option Ob.Sl}
theorem lc_rows : ∀ {rs : List Rw} {st : Ob.Stor}, (∀ r ∈ rs, r.Ok) →
    Ob.lcD (Ob.gTup 3 (Ob.gsCons (Ob.gSet 7) (Ob.gsCons (Ob.gSet 9) (Ob.gsCons (Ob.gSet 10) Ob.gsNil)))) Ob.pYes (Ob.eMake F_Envelope___init__ "Envelope" 3 (Ob.pL (aCons (eVar 7) (aCons (eVar 9) (aCons (eVar 10) aNil))))) [x0, x1, x2, x3, x4, x5, x6, none, x8, none, none] ((rs.map Rw.tup).map Ob.D.py) st = some ((mkR st.length rs).map Ev.o, st ++ (mkR st.length rs).map Ev.oj)
  | [], st, _ => by simp [Ob.lcD, mkR]
  | r :: rs, st, hg => by
    have g := hg r (List.mem_cons_self ..)
    have e := in_E (st := st) (nm := r.nm) g.g.nm g.c1 g.c2 g.h0 g.h1
    have ih := lc_rows (rs := rs) (st := st ++ [(r.ev st.length).oj]) fun y hy => hg y (List.mem_cons_of_mem _ hy)
    rw [List.length_append, List.append_assoc] at ih
    rw [mkR, List.map_cons, List.map_cons, List.map_cons, List.map_cons]
    exact lcD_yes (s1 := st ++ [(r.ev st.length).oj]) (e1 := [x0, x1, x2, x3, x4, x5, x6, V (cT r.nm), x8, V (cI r.cap), V (cI r.h)]) rfl (by simp only [sSeq, sSet, sOwn, sPar, sParL,  sIf, sRet, sRetL, sRetO, sDrop, sAug, sApp, sFrz, frz, sAsg, gSet, gsNil, gsCons, gTupF, Fi.gSub, sFor, iL, iT, iR1, iR2, iZ, iEn, itemsK, eVar, eC, Fi.e2, Fi.e1, asB, eChain, tAndF, tOrF, tNotF, eAnd, eOr, eNot, eIf, aNil, aCons, eTup, lLst, eL, eCall, lCall, eCallF, lCallF, eSlT, lSl, oNone, oSome, ownIx, ownLen, lLc, wipeE, pYes, sNext, fnD, entry, fAdd_int, fSub, fMul_l, fMul_r, fDiv_ok, fMod_ok, fPow_ok, fLt, fLe, fGt, fGe, fEq_int, fEq_str, fEq_bool, fNe_int, fNe_str, fNe_bool, isN, fIs, fIsNot, fIx, fNeg, fLen, fMin, fMax, fTuple, fList, fIntB, fSum, fAll, fAny, at_0, at_1, at_2, eT, eS, eStep, eR, getInts_map, Option.bind_some, Option.map_some, List.getElem?_cons_succ, List.getElem?_cons_zero, List.set_cons_succ, List.set_cons_zero, List.length_cons, List.length_nil, List.length_map, List.map_cons, List.map_nil, List.nil_append, List.cons_append, List.replicate, Nat.zero_add, Nat.reduceAdd, Nat.reduceSub, decide_true, decide_false, reduceIte, Nat.reduceLeDiff, Nat.reduceLT, Int.reduceLT, Int.reduceLE, Int.reduceNeg, Int.reducePow, and_self, or_self, and_true, true_and, or_true, true_or, Bool.not_true, Bool.not_false, pour_spend, spend_pour, Ob.sSeq, Ob.sSet, Ob.sOwn, Ob.sIf, Ob.sRet, Ob.sRetL, Ob.sRetO, Ob.sRetN, Ob.sDrop, Ob.sApp, Ob.sAug, Ob.sFrz, Ob.frz, Ob.sAsg, Ob.sPar, Ob.sE, Ob.bnd, Ob.lft, Ob.gSet, Ob.gsNil, Ob.gsCons, Ob.gTup, Ob.gLst, Ob.sFor, Ob.iL, Ob.iT, Ob.eVar, Ob.e2, Ob.op2, Ob.asB, Ob.truD, Ob.eChain, Ob.tAndF, Ob.tOrF, Ob.tNotF, Ob.eAnd, Ob.eOr, Ob.eNot, Ob.eIf, Ob.aNil, Ob.aCons, Ob.eTup, Ob.mkT, Ob.lLst, Ob.eL, Ob.mkL, Ob.eCall, Ob.pyAll, Ob.pE, Ob.pL, Ob.pT, Ob.pv, Ob.pvS, Ob.eIx, Ob.ixD, Ob.D.lst?, Ob.D.tup?, Ob.lLc, Ob.lcD, Ob.wipeE, Ob.pYes, Ob.sNext, Ob.fnO, Ob.entry, Ob.goE, Ob.goL, Ob.goN, Ob.eG, Ob.lG, Ob.eP, Ob.eFld, Ob.fld, Ob.sFld, Ob.setFld, Ob.putD, Ob.sFldAug, Ob.clsOf, Ob.eMeth, Ob.eMeth0, Ob.pick, Ob.eProp, Ob.pickP, Ob.eMake, Ob.eMakeK, Ob.made, Ob.eSup, Ob.eSup0, Ob.eSupK, Ob.Mr.list, Ob.eIsC, Ob.isC, Ob.sRaise, Ob.eLenSet, Ob.lenSet, List.lookup_cons, List.lookup_nil, Bool.false_eq_true, List.set_set, beq_self_eq_true, Option.isNone_none, Option.map_none, Option.bind_none, e]; rfl) ih
end
theorem mkR_app : ∀ {ra rb : List Rw} {n : Nat}, mkR n (ra ++ rb) = mkR n ra ++ mkR (n + ra.length) rb
  | [], rb, n => rfl
  | r :: ra, rb, n => by
    rw [List.cons_append, mkR, mkR, mkR_app, List.length_cons, List.cons_append, show n + 1 + ra.length = n + (ra.length + 1) by omega]
/-- the two plans, as made; then moved -/
theorem XI.start {S2 : Ob.Stor} {p q n m at_ : Nat} {rs : List Rw} {z : Str} (R1 : Row S2 (mkR n rs)) (R2 : Row S2 (mkR m rs)) (p1 : S2[p]? = some (oP (mkR n rs) 0)) (p2 : S2[q]? = some (oP (mkR m rs) 0)) (pq : p ≠ q) (hnm : n + rs.length ≤ m) (l2 : rs.length ≤ 6) (ha : at_ + 1 < rs.length) (hz : (rs.map (·.nm))[at_]? = some z) (tb : S2[0]? = some (.tab "law")) :
    ∃ S3, Ob.pick [("Plan", F_Plan_move)] "move" (.obj q) S2 = some F_Plan_move ∧ F_Plan_move [.obj q, cT z, cI ((at_ : Int) + 1)] S2 = some (.ok (.val (.py .none)) S3) ∧ XI S3 p q at_ (rs.map (·.nm)) := by
  obtain ⟨ra, r1, r2, rc, rfl, hl⟩ : ∃ ra r1 r2 rc, rs = ra ++ r1 :: r2 :: rc ∧ ra.length = at_ := by
    refine ⟨rs.take at_, rs[at_], rs[at_ + 1], rs.drop (at_ + 2), ?_, by rw [List.length_take]; omega⟩
    rw [← List.drop_eq_getElem_cons (by omega : at_ + 1 < rs.length), ← List.drop_eq_getElem_cons (by omega : at_ < rs.length), List.take_append_drop]
  subst hl
  have hz1 : z = r1.nm := by
    rw [List.map_append, List.getElem?_append_right (by simp)] at hz
    simp at hz
    exact hz.symm
  subst hz1
  rw [mkR_app, mkR, mkR] at R1 R2 p1 p2
  have nd := R2.nn
  have hlen : (mkR m ra ++ r1.ev (m + ra.length) :: r2.ev (m + ra.length + 1) :: mkR (m + ra.length + 1 + 1) rc).length = (ra ++ r1 :: r2 :: rc).length := by
    rw [List.length_append, List.length_cons, List.length_cons, mkR_len, mkR_len, List.length_append, List.length_cons, List.length_cons]
  have mv := move_ok (e := r1.ev (m + ra.length)) (k := (mkR m ra).length + 1) R2 p2 (by simp) (by rw [hlen, mkR_len]; exact ha) (by rw [hlen]; exact l2)
  rw [mv_swap nd, mkR_len] at mv
  have hpn1 := row_plan R1.ok p2
  have hpn2 := row_plan R2.ok p2
  have R2' : Row S2 (mkR m ra ++ r2.ev (m + ra.length + 1) :: r1.ev (m + ra.length) :: mkR (m + ra.length + 1 + 1) rc) := by
    have := R2.perm (mv_perm ((mkR m ra).length + 1) (e := r1.ev (m + ra.length)) (by simp) R2.nn)
    rwa [mv_swap nd] at this
  refine ⟨_, pmv_pick p2, mv, mkR n ra, mkR (n + ra.length + 1 + 1) rc, mkR m ra, mkR (m + ra.length + 1 + 1) rc, _, _, r1.ev (m + ra.length), r2.ev (m + ra.length + 1), 0, ⟨R1.setP (fs := []) hpn1, R2'.setP (fs := []) ?_, ?_, set_get p2, pq, ?_, mkR_key, mkR_key, rfl, rfl, rfl, rfl, rfl, ?_, mkR_len, by rw [List.length_map]; exact l2, by rw [set_ne fun z => by rw [z, tb] at p2; cases p2]; exact tb⟩⟩
  · intro z
    obtain ⟨e, he, ee⟩ := List.mem_map.mp z
    refine hpn2 (List.mem_map.mpr ⟨e, ?_, ee⟩)
    simp only [List.mem_append, List.mem_cons] at he ⊢
    rcases he with h | h | h | h
    · exact .inl h
    · exact .inr (.inr (.inl h))
    · exact .inr (.inl h)
    · exact .inr (.inr (.inr h))
  · rw [set_ne (Ne.symm pq)]
    exact p1
  · intro e he z
    obtain ⟨f, hf, ef⟩ := List.mem_map.mp z
    have b1 : n ≤ e.n ∧ e.n < n + (ra ++ r1 :: r2 :: rc).length := mkR_n (rs := ra ++ r1 :: r2 :: rc) (by rw [mkR_app, mkR, mkR]; exact he)
    have b2 : m ≤ f.n ∧ f.n < m + (ra ++ r1 :: r2 :: rc).length := by
      refine mkR_n (rs := ra ++ r1 :: r2 :: rc) ?_
      rw [mkR_app, mkR, mkR]
      simp only [List.mem_append, List.mem_cons] at hf ⊢
      rcases hf with h | h | h | h
      · exact .inl h
      · exact .inr (.inr (.inl h))
      · exact .inr (.inl h)
      · exact .inr (.inr (.inr h))
    omega
  · have := mkR_nm (n := n) (rs := ra ++ r1 :: r2 :: rc)
    rw [mkR_app, mkR, mkR] at this
    exact this
abbrev En11 (dsl zsl rsl : List PyData) (at_ p q : Nat) (r : List (Option Ob.Sl)) : List (Option Ob.Sl) := V (.py (.list dsl)) :: V (.py (.list zsl)) :: V (.py (.list rsl)) :: V (cI at_) :: V (.obj p) :: V (.obj q) :: r
section
variable {st : Ob.Stor} {p q at_ : Nat} {zs : List Str} {rsl : List PyData} {x6 x7 x8 x9 x10 : Option Ob.Sl}
theorem chk_loop {dsl zsl : List PyData} (X : XI st p q at_ zs) : ∀ (ys : List Str) (x7 : Option Ob.Sl), (∀ y ∈ ys, y ∈ zs.take at_ ++ zs.drop (at_ + 2)) →
    ∃ y7, Ob.forD (Ob.gSet 7) lp__law_exchanged_alike_0 ((ys.map PyData.str).map Ob.D.py) (En11 dsl zsl rsl at_ p q [x6, x7, x8, x9, x10]) st = some (.next (En11 dsl zsl rsl at_ p q [x6, y7, x8, x9, x10]) st)
  | [], x7, _ => ⟨x7, rfl⟩
  | y :: ys, x7, h => by
    obtain ⟨n, m, hh, E⟩ := X.alike (h y (List.mem_cons_self ..))
    obtain ⟨y7, ih⟩ := chk_loop (dsl := dsl) (zsl := zsl) X ys (V (cT y)) fun z hz => h z (List.mem_cons_of_mem _ hz)
    have n1 : fNe (.int hh) (.int hh) = some (.bool false) := by simp [fNe]
    have a1 := E.k1
    have a2 := E.e1
    have a3 := E.k2
    have a4 := E.e2
    have a5 := E.v1
    have a6 := E.w1
    have a7 := E.v2
    have a8 := E.w2
    have e1 : lp__law_exchanged_alike_0 (En11 dsl zsl rsl at_ p q [x6, V (cT y), x8, x9, x10]) st = some (.next (En11 dsl zsl rsl at_ p q [x6, V (cT y), x8, x9, x10]) st) := by
      simp only [sSeq, sSet, sOwn, sPar, sParL,  sIf, sRet, sRetL, sRetO, sDrop, sAug, sApp, sFrz, frz, sAsg, gSet, gsNil, gsCons, gTupF, Fi.gSub, sFor, iL, iT, iR1, iR2, iZ, iEn, itemsK, eVar, eC, Fi.e2, Fi.e1, asB, eChain, tAndF, tOrF, tNotF, eAnd, eOr, eNot, eIf, aNil, aCons, eTup, lLst, eL, eCall, lCall, eCallF, lCallF, eSlT, lSl, oNone, oSome, ownIx, ownLen, lLc, wipeE, pYes, sNext, fnD, entry, fAdd_int, fSub, fMul_l, fMul_r, fDiv_ok, fMod_ok, fPow_ok, fLt, fLe, fGt, fGe, fEq_int, fEq_str, fEq_bool, fNe_int, fNe_str, fNe_bool, isN, fIs, fIsNot, fIx, fNeg, fLen, fMin, fMax, fTuple, fList, fIntB, fSum, fAll, fAny, at_0, at_1, at_2, eT, eS, eStep, eR, getInts_map, Option.bind_some, Option.map_some, List.getElem?_cons_succ, List.getElem?_cons_zero, List.set_cons_succ, List.set_cons_zero, List.length_cons, List.length_nil, List.length_map, List.map_cons, List.map_nil, List.nil_append, List.cons_append, List.replicate, Nat.zero_add, Nat.reduceAdd, Nat.reduceSub, decide_true, decide_false, reduceIte, Nat.reduceLeDiff, Nat.reduceLT, Int.reduceLT, Int.reduceLE, Int.reduceNeg, Int.reducePow, and_self, or_self, and_true, true_and, or_true, true_or, Bool.not_true, Bool.not_false, pour_spend, spend_pour, Ob.sSeq, Ob.sSet, Ob.sOwn, Ob.sIf, Ob.sRet, Ob.sRetL, Ob.sRetO, Ob.sRetN, Ob.sDrop, Ob.sApp, Ob.sAug, Ob.sFrz, Ob.frz, Ob.sAsg, Ob.sPar, Ob.sE, Ob.bnd, Ob.lft, Ob.gSet, Ob.gsNil, Ob.gsCons, Ob.gTup, Ob.gLst, Ob.sFor, Ob.iL, Ob.iT, Ob.eVar, Ob.e2, Ob.op2, Ob.asB, Ob.truD, Ob.eChain, Ob.tAndF, Ob.tOrF, Ob.tNotF, Ob.eAnd, Ob.eOr, Ob.eNot, Ob.eIf, Ob.aNil, Ob.aCons, Ob.eTup, Ob.mkT, Ob.lLst, Ob.eL, Ob.mkL, Ob.eCall, Ob.pyAll, Ob.pE, Ob.pL, Ob.pT, Ob.pv, Ob.pvS, Ob.eIx, Ob.ixD, Ob.D.lst?, Ob.D.tup?, Ob.lLc, Ob.lcD, Ob.wipeE, Ob.pYes, Ob.sNext, Ob.fnO, Ob.entry, Ob.goE, Ob.goL, Ob.goN, Ob.eG, Ob.lG, Ob.eP, Ob.eFld, Ob.fld, Ob.sFld, Ob.setFld, Ob.putD, Ob.sFldAug, Ob.clsOf, Ob.eMeth, Ob.eMeth0, Ob.eProp, Ob.eMake, Ob.eMakeK, Ob.made, Ob.eSup, Ob.eSup0, Ob.eSupK, Ob.Mr.list, Ob.eIsC, Ob.isC, Ob.sRaise, Ob.eLenSet, Ob.lenSet, List.lookup_cons, List.lookup_nil, Bool.false_eq_true, List.set_set, beq_self_eq_true, Option.isNone_none, Option.map_none, Option.bind_none, lp__law_exchanged_alike_0, q__law_exchanged_alike_6, a1, a2, a3, a4, a5, a6, a7, a8, n1]
    refine ⟨y7, ?_⟩
    rw [List.map_cons, List.map_cons, Ob.forD]
    show (Option.bind (some (En11 dsl zsl rsl at_ p q [x6, V (cT y), x8, x9, x10])) _) = _
    rw [Option.bind_some, e1]
    exact ih
theorem turn11 {ds : List Int} (hds : ds.length = 90) {k : Nat} (hk : k < 12) (h2 : 2 ≤ zs.length) (X : XI st p q at_ zs) (x7 x8 x9 x10 : Option Ob.Sl) :
    ∃ y7 y8 y9 y10 s', lp__law_exchanged_alike_1 (En11 (ds.map .int) (zs.map .str) rsl at_ p q [V (cI k), x7, x8, x9, x10]) st = some (.next (En11 (ds.map .int) (zs.map .str) rsl at_ p q [V (cI k), y7, y8, y9, y10]) s') ∧ XI s' p q at_ zs := by
  have i0 := at_getZ (l := ds) (z := 50 + (k : Int)) (by omega) (by omega)
  have i1 := at_getZ (l := ds) (z := 65 + (k : Int)) (by omega) (by omega)
  generalize ds.getD (50 + (k : Int)).toNat 0 = v0 at i0
  generalize ds.getD (65 + (k : Int)).toNat 0 = v1 at i1
  have m0 : fMod (.int v0) (.int (zs.length : Int)) = some (.int (v0 % (zs.length : Int))) := fMod_ok (by omega)
  have b0 := Int.emod_nonneg v0 (show (zs.length : Int) ≠ 0 by omega)
  have b1 := Int.emod_lt_of_pos v0 (show (0 : Int) < (zs.length : Int) by omega)
  have m1 : fMod (.int v1) (.int 120) = some (.int (v1 % 120)) := fMod_ok (by decide)
  have c0 := Int.emod_nonneg v1 (show (120 : Int) ≠ 0 by decide)
  have c1 := Int.emod_lt_of_pos v1 (show (0 : Int) < 120 by decide)
  have d0 : fDiv (.int v0) (.int 7) = some (.int (v0 / 7)) := fDiv_ok (by decide) (by decide)
  have m2 : fMod (.int (v0 / 7)) (.int 2) = some (.int (v0 / 7 % 2)) := fMod_ok (by decide)
  obtain ⟨j, hj⟩ : ∃ j : Nat, v0 % (zs.length : Int) = j := ⟨(v0 % (zs.length : Int)).toNat, by omega⟩
  rw [hj] at m0 b1
  have hjl : j < zs.length := by omega
  have a0 : atI (zs.map PyData.str) (j : Int) = some (.str zs[j]) := atI_nat (by rw [List.getElem?_map, List.getElem?_eq_getElem hjl]; rfl)
  have hmem : zs[j] ∈ zs := List.getElem_mem hjl
  generalize zs[j] = z at a0 hmem
  generalize v1 % 120 = dg at *
  have l6 : zs.length ≤ 6 := by
    obtain ⟨_, _, _, _, _, _, _, _, _, X⟩ := X
    exact X.l6
  have hlenz : (zs.map PyData.str).length = zs.length := List.length_map ..
  -- the middle
  have mid : ∃ dg2 s1, q__law_exchanged_alike_5 (En11 (ds.map .int) (zs.map .str) rsl at_ p q [V (cI k), V (cT z), V (cI dg), x9, x10]) st = some (.next (En11 (ds.map .int) (zs.map .str) rsl at_ p q [V (cI k), V (cT z), V (cI dg2), x9, x10]) s1) ∧ XI s1 p q at_ zs := by
    generalize ds.map PyData.int = dsl at *
    generalize zs.map PyData.str = zsl at *
    by_cases c : v0 / 7 % 2 = 0
    · obtain ⟨r, s1, s2, e1, e2, e3, e4, X2⟩ := X.pour c0 (by omega)
      have n1 : fNe (.int r) (.int r) = some (.bool false) := by simp [fNe]
      exact ⟨dg, s2, by simp only [sSeq, sSet, sOwn, sPar, sParL,  sIf, sRet, sRetL, sRetO, sDrop, sAug, sApp, sFrz, frz, sAsg, gSet, gsNil, gsCons, gTupF, Fi.gSub, sFor, iL, iT, iR1, iR2, iZ, iEn, itemsK, eVar, eC, Fi.e2, Fi.e1, asB, eChain, tAndF, tOrF, tNotF, eAnd, eOr, eNot, eIf, aNil, aCons, eTup, lLst, eL, eCall, lCall, eCallF, lCallF, eSlT, lSl, oNone, oSome, ownIx, ownLen, lLc, wipeE, pYes, sNext, fnD, entry, fAdd_int, fSub, fMul_l, fMul_r, fDiv_ok, fMod_ok, fPow_ok, fLt, fLe, fGt, fGe, fEq_int, fEq_str, fEq_bool, fNe_int, fNe_str, fNe_bool, isN, fIs, fIsNot, fIx, fNeg, fLen, fMin, fMax, fTuple, fList, fIntB, fSum, fAll, fAny, at_0, at_1, at_2, eT, eS, eStep, eR, getInts_map, Option.bind_some, Option.map_some, List.getElem?_cons_succ, List.getElem?_cons_zero, List.set_cons_succ, List.set_cons_zero, List.length_cons, List.length_nil, List.length_map, List.map_cons, List.map_nil, List.nil_append, List.cons_append, List.replicate, Nat.zero_add, Nat.reduceAdd, Nat.reduceSub, decide_true, decide_false, reduceIte, Nat.reduceLeDiff, Nat.reduceLT, Int.reduceLT, Int.reduceLE, Int.reduceNeg, Int.reducePow, and_self, or_self, and_true, true_and, or_true, true_or, Bool.not_true, Bool.not_false, pour_spend, spend_pour, Ob.sSeq, Ob.sSet, Ob.sOwn, Ob.sIf, Ob.sRet, Ob.sRetL, Ob.sRetO, Ob.sRetN, Ob.sDrop, Ob.sApp, Ob.sAug, Ob.sFrz, Ob.frz, Ob.sAsg, Ob.sPar, Ob.sE, Ob.bnd, Ob.lft, Ob.gSet, Ob.gsNil, Ob.gsCons, Ob.gTup, Ob.gLst, Ob.sFor, Ob.iL, Ob.iT, Ob.eVar, Ob.e2, Ob.op2, Ob.asB, Ob.truD, Ob.eChain, Ob.tAndF, Ob.tOrF, Ob.tNotF, Ob.eAnd, Ob.eOr, Ob.eNot, Ob.eIf, Ob.aNil, Ob.aCons, Ob.eTup, Ob.mkT, Ob.lLst, Ob.eL, Ob.mkL, Ob.eCall, Ob.pyAll, Ob.pE, Ob.pL, Ob.pT, Ob.pv, Ob.pvS, Ob.eIx, Ob.ixD, Ob.D.lst?, Ob.D.tup?, Ob.lLc, Ob.lcD, Ob.wipeE, Ob.pYes, Ob.sNext, Ob.fnO, Ob.entry, Ob.goE, Ob.goL, Ob.goN, Ob.eG, Ob.lG, Ob.eP, Ob.eFld, Ob.fld, Ob.sFld, Ob.setFld, Ob.putD, Ob.sFldAug, Ob.clsOf, Ob.eMeth, Ob.eMeth0, Ob.eProp, Ob.eMake, Ob.eMakeK, Ob.made, Ob.eSup, Ob.eSup0, Ob.eSupK, Ob.Mr.list, Ob.eIsC, Ob.isC, Ob.sRaise, Ob.eLenSet, Ob.lenSet, List.lookup_cons, List.lookup_nil, Bool.false_eq_true, List.set_set, beq_self_eq_true, Option.isNone_none, Option.map_none, Option.bind_none, q__law_exchanged_alike_5, i0, d0, m2, c, q__law_exchanged_alike_1, e1, e2, e3, e4, n1], X2⟩
    · obtain ⟨n, m, h, h', E, h0, h0', hb, tk⟩ := X.take hmem
      have u1 := E.k1
      have u2 := E.e1
      have u3 := E.k2
      have u4 := E.e2
      have u5 := E.v1
      have u6 := E.w1
      have u7 := E.v2
      have u8 := E.w2
      have m3 : fMod (.int dg) (.int (1 + min h h')) = some (.int (dg % (1 + min h h'))) := fMod_ok (by omega)
      have g0 := Int.emod_nonneg dg (show 1 + min h h' ≠ 0 by omega)
      have g1 := Int.emod_lt_of_pos dg (show 0 < 1 + min h h' by omega)
      obtain ⟨s1, s2, t1, t2, t3, t4, t5, t6, X2⟩ := tk (dg % (1 + min h h')) g0 (by omega) (by omega)
      refine ⟨dg % (1 + min h h'), s2, ?_, X2⟩
      have q2 : q__law_exchanged_alike_2 (En11 dsl zsl rsl at_ p q [V (cI k), V (cT z), V (cI dg), x9, x10]) st = some (.next (En11 dsl zsl rsl at_ p q [V (cI k), V (cT z), V (cI (dg % (1 + min h h'))), x9, x10]) st) := by
        simp only [sSeq, sSet, sOwn, sPar, sParL,  sIf, sRet, sRetL, sRetO, sDrop, sAug, sApp, sFrz, frz, sAsg, gSet, gsNil, gsCons, gTupF, Fi.gSub, sFor, iL, iT, iR1, iR2, iZ, iEn, itemsK, eVar, eC, Fi.e2, Fi.e1, asB, eChain, tAndF, tOrF, tNotF, eAnd, eOr, eNot, eIf, aNil, aCons, eTup, lLst, eL, eCall, lCall, eCallF, lCallF, eSlT, lSl, oNone, oSome, ownIx, ownLen, lLc, wipeE, pYes, sNext, fnD, entry, fAdd_int, fSub, fMul_l, fMul_r, fDiv_ok, fMod_ok, fPow_ok, fLt, fLe, fGt, fGe, fEq_int, fEq_str, fEq_bool, fNe_int, fNe_str, fNe_bool, isN, fIs, fIsNot, fIx, fNeg, fLen, fMin, fMax, fTuple, fList, fIntB, fSum, fAll, fAny, at_0, at_1, at_2, eT, eS, eStep, eR, getInts_map, Option.bind_some, Option.map_some, List.getElem?_cons_succ, List.getElem?_cons_zero, List.set_cons_succ, List.set_cons_zero, List.length_cons, List.length_nil, List.length_map, List.map_cons, List.map_nil, List.nil_append, List.cons_append, List.replicate, Nat.zero_add, Nat.reduceAdd, Nat.reduceSub, decide_true, decide_false, reduceIte, Nat.reduceLeDiff, Nat.reduceLT, Int.reduceLT, Int.reduceLE, Int.reduceNeg, Int.reducePow, and_self, or_self, and_true, true_and, or_true, true_or, Bool.not_true, Bool.not_false, pour_spend, spend_pour, Ob.sSeq, Ob.sSet, Ob.sOwn, Ob.sIf, Ob.sRet, Ob.sRetL, Ob.sRetO, Ob.sRetN, Ob.sDrop, Ob.sApp, Ob.sAug, Ob.sFrz, Ob.frz, Ob.sAsg, Ob.sPar, Ob.sE, Ob.bnd, Ob.lft, Ob.gSet, Ob.gsNil, Ob.gsCons, Ob.gTup, Ob.gLst, Ob.sFor, Ob.iL, Ob.iT, Ob.eVar, Ob.e2, Ob.op2, Ob.asB, Ob.truD, Ob.eChain, Ob.tAndF, Ob.tOrF, Ob.tNotF, Ob.eAnd, Ob.eOr, Ob.eNot, Ob.eIf, Ob.aNil, Ob.aCons, Ob.eTup, Ob.mkT, Ob.lLst, Ob.eL, Ob.mkL, Ob.eCall, Ob.pyAll, Ob.pE, Ob.pL, Ob.pT, Ob.pv, Ob.pvS, Ob.eIx, Ob.ixD, Ob.D.lst?, Ob.D.tup?, Ob.lLc, Ob.lcD, Ob.wipeE, Ob.pYes, Ob.sNext, Ob.fnO, Ob.entry, Ob.goE, Ob.goL, Ob.goN, Ob.eG, Ob.lG, Ob.eP, Ob.eFld, Ob.fld, Ob.sFld, Ob.setFld, Ob.putD, Ob.sFldAug, Ob.clsOf, Ob.eMeth, Ob.eMeth0, Ob.eProp, Ob.eMake, Ob.eMakeK, Ob.made, Ob.eSup, Ob.eSup0, Ob.eSupK, Ob.Mr.list, Ob.eIsC, Ob.isC, Ob.sRaise, Ob.eLenSet, Ob.lenSet, List.lookup_cons, List.lookup_nil, Bool.false_eq_true, List.set_set, beq_self_eq_true, Option.isNone_none, Option.map_none, Option.bind_none, q__law_exchanged_alike_2, u1, u2, u3, u4, u5, u6, u7, u8, fMin, m3]
      generalize dg % (1 + min h h') = dd at *
      have q3 : q__law_exchanged_alike_3 (En11 dsl zsl rsl at_ p q [V (cI k), V (cT z), V (cI dd), x9, x10]) st = some (.next (En11 dsl zsl rsl at_ p q [V (cI k), V (cT z), V (cI dd), x9, x10]) s1) := by
        simp only [sSeq, sSet, sOwn, sPar, sParL,  sIf, sRet, sRetL, sRetO, sDrop, sAug, sApp, sFrz, frz, sAsg, gSet, gsNil, gsCons, gTupF, Fi.gSub, sFor, iL, iT, iR1, iR2, iZ, iEn, itemsK, eVar, eC, Fi.e2, Fi.e1, asB, eChain, tAndF, tOrF, tNotF, eAnd, eOr, eNot, eIf, aNil, aCons, eTup, lLst, eL, eCall, lCall, eCallF, lCallF, eSlT, lSl, oNone, oSome, ownIx, ownLen, lLc, wipeE, pYes, sNext, fnD, entry, fAdd_int, fSub, fMul_l, fMul_r, fDiv_ok, fMod_ok, fPow_ok, fLt, fLe, fGt, fGe, fEq_int, fEq_str, fEq_bool, fNe_int, fNe_str, fNe_bool, isN, fIs, fIsNot, fIx, fNeg, fLen, fMin, fMax, fTuple, fList, fIntB, fSum, fAll, fAny, at_0, at_1, at_2, eT, eS, eStep, eR, getInts_map, Option.bind_some, Option.map_some, List.getElem?_cons_succ, List.getElem?_cons_zero, List.set_cons_succ, List.set_cons_zero, List.length_cons, List.length_nil, List.length_map, List.map_cons, List.map_nil, List.nil_append, List.cons_append, List.replicate, Nat.zero_add, Nat.reduceAdd, Nat.reduceSub, decide_true, decide_false, reduceIte, Nat.reduceLeDiff, Nat.reduceLT, Int.reduceLT, Int.reduceLE, Int.reduceNeg, Int.reducePow, and_self, or_self, and_true, true_and, or_true, true_or, Bool.not_true, Bool.not_false, pour_spend, spend_pour, Ob.sSeq, Ob.sSet, Ob.sOwn, Ob.sIf, Ob.sRet, Ob.sRetL, Ob.sRetO, Ob.sRetN, Ob.sDrop, Ob.sApp, Ob.sAug, Ob.sFrz, Ob.frz, Ob.sAsg, Ob.sPar, Ob.sE, Ob.bnd, Ob.lft, Ob.gSet, Ob.gsNil, Ob.gsCons, Ob.gTup, Ob.gLst, Ob.sFor, Ob.iL, Ob.iT, Ob.eVar, Ob.e2, Ob.op2, Ob.asB, Ob.truD, Ob.eChain, Ob.tAndF, Ob.tOrF, Ob.tNotF, Ob.eAnd, Ob.eOr, Ob.eNot, Ob.eIf, Ob.aNil, Ob.aCons, Ob.eTup, Ob.mkT, Ob.lLst, Ob.eL, Ob.mkL, Ob.eCall, Ob.pyAll, Ob.pE, Ob.pL, Ob.pT, Ob.pv, Ob.pvS, Ob.eIx, Ob.ixD, Ob.D.lst?, Ob.D.tup?, Ob.lLc, Ob.lcD, Ob.wipeE, Ob.pYes, Ob.sNext, Ob.fnO, Ob.entry, Ob.goE, Ob.goL, Ob.goN, Ob.eG, Ob.lG, Ob.eP, Ob.eFld, Ob.fld, Ob.sFld, Ob.setFld, Ob.putD, Ob.sFldAug, Ob.clsOf, Ob.eMeth, Ob.eMeth0, Ob.eProp, Ob.eMake, Ob.eMakeK, Ob.made, Ob.eSup, Ob.eSup0, Ob.eSupK, Ob.Mr.list, Ob.eIsC, Ob.isC, Ob.sRaise, Ob.eLenSet, Ob.lenSet, List.lookup_cons, List.lookup_nil, Bool.false_eq_true, List.set_set, beq_self_eq_true, Option.isNone_none, Option.map_none, Option.bind_none, q__law_exchanged_alike_3, u1, u2, t1, t2]
      have q4 : q__law_exchanged_alike_4 (En11 dsl zsl rsl at_ p q [V (cI k), V (cT z), V (cI dd), x9, x10]) s1 = some (.next (En11 dsl zsl rsl at_ p q [V (cI k), V (cT z), V (cI dd), x9, x10]) s2) := by
        simp only [sSeq, sSet, sOwn, sPar, sParL,  sIf, sRet, sRetL, sRetO, sDrop, sAug, sApp, sFrz, frz, sAsg, gSet, gsNil, gsCons, gTupF, Fi.gSub, sFor, iL, iT, iR1, iR2, iZ, iEn, itemsK, eVar, eC, Fi.e2, Fi.e1, asB, eChain, tAndF, tOrF, tNotF, eAnd, eOr, eNot, eIf, aNil, aCons, eTup, lLst, eL, eCall, lCall, eCallF, lCallF, eSlT, lSl, oNone, oSome, ownIx, ownLen, lLc, wipeE, pYes, sNext, fnD, entry, fAdd_int, fSub, fMul_l, fMul_r, fDiv_ok, fMod_ok, fPow_ok, fLt, fLe, fGt, fGe, fEq_int, fEq_str, fEq_bool, fNe_int, fNe_str, fNe_bool, isN, fIs, fIsNot, fIx, fNeg, fLen, fMin, fMax, fTuple, fList, fIntB, fSum, fAll, fAny, at_0, at_1, at_2, eT, eS, eStep, eR, getInts_map, Option.bind_some, Option.map_some, List.getElem?_cons_succ, List.getElem?_cons_zero, List.set_cons_succ, List.set_cons_zero, List.length_cons, List.length_nil, List.length_map, List.map_cons, List.map_nil, List.nil_append, List.cons_append, List.replicate, Nat.zero_add, Nat.reduceAdd, Nat.reduceSub, decide_true, decide_false, reduceIte, Nat.reduceLeDiff, Nat.reduceLT, Int.reduceLT, Int.reduceLE, Int.reduceNeg, Int.reducePow, and_self, or_self, and_true, true_and, or_true, true_or, Bool.not_true, Bool.not_false, pour_spend, spend_pour, Ob.sSeq, Ob.sSet, Ob.sOwn, Ob.sIf, Ob.sRet, Ob.sRetL, Ob.sRetO, Ob.sRetN, Ob.sDrop, Ob.sApp, Ob.sAug, Ob.sFrz, Ob.frz, Ob.sAsg, Ob.sPar, Ob.sE, Ob.bnd, Ob.lft, Ob.gSet, Ob.gsNil, Ob.gsCons, Ob.gTup, Ob.gLst, Ob.sFor, Ob.iL, Ob.iT, Ob.eVar, Ob.e2, Ob.op2, Ob.asB, Ob.truD, Ob.eChain, Ob.tAndF, Ob.tOrF, Ob.tNotF, Ob.eAnd, Ob.eOr, Ob.eNot, Ob.eIf, Ob.aNil, Ob.aCons, Ob.eTup, Ob.mkT, Ob.lLst, Ob.eL, Ob.mkL, Ob.eCall, Ob.pyAll, Ob.pE, Ob.pL, Ob.pT, Ob.pv, Ob.pvS, Ob.eIx, Ob.ixD, Ob.D.lst?, Ob.D.tup?, Ob.lLc, Ob.lcD, Ob.wipeE, Ob.pYes, Ob.sNext, Ob.fnO, Ob.entry, Ob.goE, Ob.goL, Ob.goN, Ob.eG, Ob.lG, Ob.eP, Ob.eFld, Ob.fld, Ob.sFld, Ob.setFld, Ob.putD, Ob.sFldAug, Ob.clsOf, Ob.eMeth, Ob.eMeth0, Ob.eProp, Ob.eMake, Ob.eMakeK, Ob.made, Ob.eSup, Ob.eSup0, Ob.eSupK, Ob.Mr.list, Ob.eIsC, Ob.isC, Ob.sRaise, Ob.eLenSet, Ob.lenSet, List.lookup_cons, List.lookup_nil, Bool.false_eq_true, List.set_set, beq_self_eq_true, Option.isNone_none, Option.map_none, Option.bind_none, q__law_exchanged_alike_4, t3, t4, t5, t6]
      simp only [sSeq, sSet, sOwn, sPar, sParL,  sIf, sRet, sRetL, sRetO, sDrop, sAug, sApp, sFrz, frz, sAsg, gSet, gsNil, gsCons, gTupF, Fi.gSub, sFor, iL, iT, iR1, iR2, iZ, iEn, itemsK, eVar, eC, Fi.e2, Fi.e1, asB, eChain, tAndF, tOrF, tNotF, eAnd, eOr, eNot, eIf, aNil, aCons, eTup, lLst, eL, eCall, lCall, eCallF, lCallF, eSlT, lSl, oNone, oSome, ownIx, ownLen, lLc, wipeE, pYes, sNext, fnD, entry, fAdd_int, fSub, fMul_l, fMul_r, fDiv_ok, fMod_ok, fPow_ok, fLt, fLe, fGt, fGe, fEq_int, fEq_str, fEq_bool, fNe_int, fNe_str, fNe_bool, isN, fIs, fIsNot, fIx, fNeg, fLen, fMin, fMax, fTuple, fList, fIntB, fSum, fAll, fAny, at_0, at_1, at_2, eT, eS, eStep, eR, getInts_map, Option.bind_some, Option.map_some, List.getElem?_cons_succ, List.getElem?_cons_zero, List.set_cons_succ, List.set_cons_zero, List.length_cons, List.length_nil, List.length_map, List.map_cons, List.map_nil, List.nil_append, List.cons_append, List.replicate, Nat.zero_add, Nat.reduceAdd, Nat.reduceSub, decide_true, decide_false, reduceIte, Nat.reduceLeDiff, Nat.reduceLT, Int.reduceLT, Int.reduceLE, Int.reduceNeg, Int.reducePow, and_self, or_self, and_true, true_and, or_true, true_or, Bool.not_true, Bool.not_false, pour_spend, spend_pour, Ob.sSeq, Ob.sSet, Ob.sOwn, Ob.sIf, Ob.sRet, Ob.sRetL, Ob.sRetO, Ob.sRetN, Ob.sDrop, Ob.sApp, Ob.sAug, Ob.sFrz, Ob.frz, Ob.sAsg, Ob.sPar, Ob.sE, Ob.bnd, Ob.lft, Ob.gSet, Ob.gsNil, Ob.gsCons, Ob.gTup, Ob.gLst, Ob.sFor, Ob.iL, Ob.iT, Ob.eVar, Ob.e2, Ob.op2, Ob.asB, Ob.truD, Ob.eChain, Ob.tAndF, Ob.tOrF, Ob.tNotF, Ob.eAnd, Ob.eOr, Ob.eNot, Ob.eIf, Ob.aNil, Ob.aCons, Ob.eTup, Ob.mkT, Ob.lLst, Ob.eL, Ob.mkL, Ob.eCall, Ob.pyAll, Ob.pE, Ob.pL, Ob.pT, Ob.pv, Ob.pvS, Ob.eIx, Ob.ixD, Ob.D.lst?, Ob.D.tup?, Ob.lLc, Ob.lcD, Ob.wipeE, Ob.pYes, Ob.sNext, Ob.fnO, Ob.entry, Ob.goE, Ob.goL, Ob.goN, Ob.eG, Ob.lG, Ob.eP, Ob.eFld, Ob.fld, Ob.sFld, Ob.setFld, Ob.putD, Ob.sFldAug, Ob.clsOf, Ob.eMeth, Ob.eMeth0, Ob.eProp, Ob.eMake, Ob.eMakeK, Ob.made, Ob.eSup, Ob.eSup0, Ob.eSupK, Ob.Mr.list, Ob.eIsC, Ob.isC, Ob.sRaise, Ob.eLenSet, Ob.lenSet, List.lookup_cons, List.lookup_nil, Bool.false_eq_true, List.set_set, beq_self_eq_true, Option.isNone_none, Option.map_none, Option.bind_none, q__law_exchanged_alike_5, i0, d0, m2, c, q2, q3, q4]
  obtain ⟨dg2, s1, q5, X2⟩ := mid
  obtain ⟨y7, q7⟩ := chk_loop (dsl := ds.map .int) (zsl := zs.map .str) (rsl := rsl) (x6 := V (cI k)) (x8 := V (cI dg2)) (x9 := x9) (x10 := x10) X2 (zs.take at_ ++ zs.drop (at_ + 2)) (V (cT z)) (fun _ h => h)
  obtain ⟨t, g, s1a, s1b, s1c, s1d, s2a, s2b, s2c, s2d⟩ := X2.sums
  have n1 : fNe (.int t) (.int t) = some (.bool false) := by simp [fNe]
  have n2 : fNe (.int g) (.int g) = some (.bool false) := by simp [fNe]
  refine ⟨y7, V (cI dg2), x9, x10, s1, ?_, X2⟩
  have ct1 : cutD (zs.map PyData.str) none (some (at_ : Int)) = (zs.take at_).map PyData.str := by rw [cut_to, List.map_take]
  have ct2 : cutD (zs.map PyData.str) (some ((at_ : Int) + 2)) none = (zs.drop (at_ + 2)).map PyData.str := by rw [show (at_ : Int) + 2 = ((at_ + 2 : Nat) : Int) by omega, cut_from, List.map_drop]
  have q7' : q__law_exchanged_alike_7 (En11 (ds.map .int) (zs.map .str) rsl at_ p q [V (cI k), V (cT z), V (cI dg2), x9, x10]) s1 = some (.next (En11 (ds.map .int) (zs.map .str) rsl at_ p q [V (cI k), y7, V (cI dg2), x9, x10]) s1) := by
    have hl : ((zs.take at_).map PyData.str).length + ((zs.drop (at_ + 2)).map PyData.str).length ≤ 100000 := by rw [List.length_map, List.length_map, List.length_take, List.length_drop]; omega
    rw [List.map_append] at q7
    generalize (zs.take at_).map PyData.str = t1 at *
    generalize (zs.drop (at_ + 2)).map PyData.str = t2 at *
    generalize ds.map PyData.int = dsl at *
    generalize zs.map PyData.str = zsl at *
    unfold q__law_exchanged_alike_7 Ob.sFor Ob.sE
    rw [show Ob.pL (iL (eL (lCat (eL (lSl (eVar 1) oNone (oSome (eVar 3)))) (eL (lSl (eVar 1) (oSome (e2 fAdd (eVar 3) (eC (.int 2)))) oNone))))) (En11 dsl zsl rsl at_ p q [V (cI k), V (cT z), V (cI dg2), x9, x10]) s1 = some (.ok ((t1 ++ t2).map Ob.D.py) s1) by simp only [sSeq, sSet, sOwn, sPar, sParL,  sIf, sRet, sRetL, sRetO, sDrop, sAug, sApp, sFrz, frz, sAsg, gSet, gsNil, gsCons, gTupF, Fi.gSub, sFor, iL, iT, iR1, iR2, iZ, iEn, itemsK, eVar, eC, Fi.e2, Fi.e1, asB, eChain, tAndF, tOrF, tNotF, eAnd, eOr, eNot, eIf, aNil, aCons, eTup, lLst, eL, eCall, lCall, eCallF, lCallF, eSlT, lSl, oNone, oSome, ownIx, ownLen, lLc, wipeE, pYes, sNext, fnD, entry, fAdd_int, fSub, fMul_l, fMul_r, fDiv_ok, fMod_ok, fPow_ok, fLt, fLe, fGt, fGe, fEq_int, fEq_str, fEq_bool, fNe_int, fNe_str, fNe_bool, isN, fIs, fIsNot, fIx, fNeg, fLen, fMin, fMax, fTuple, fList, fIntB, fSum, fAll, fAny, at_0, at_1, at_2, eT, eS, eStep, eR, getInts_map, Option.bind_some, Option.map_some, List.getElem?_cons_succ, List.getElem?_cons_zero, List.set_cons_succ, List.set_cons_zero, List.length_cons, List.length_nil, List.length_map, List.map_cons, List.map_nil, List.nil_append, List.cons_append, List.replicate, Nat.zero_add, Nat.reduceAdd, Nat.reduceSub, decide_true, decide_false, reduceIte, Nat.reduceLeDiff, Nat.reduceLT, Int.reduceLT, Int.reduceLE, Int.reduceNeg, Int.reducePow, and_self, or_self, and_true, true_and, or_true, true_or, Bool.not_true, Bool.not_false, pour_spend, spend_pour, Ob.sSeq, Ob.sSet, Ob.sOwn, Ob.sIf, Ob.sRet, Ob.sRetL, Ob.sRetO, Ob.sRetN, Ob.sDrop, Ob.sApp, Ob.sAug, Ob.sFrz, Ob.frz, Ob.sAsg, Ob.sPar, Ob.sE, Ob.bnd, Ob.lft, Ob.gSet, Ob.gsNil, Ob.gsCons, Ob.gTup, Ob.gLst, Ob.sFor, Ob.iL, Ob.iT, Ob.eVar, Ob.e2, Ob.op2, Ob.asB, Ob.truD, Ob.eChain, Ob.tAndF, Ob.tOrF, Ob.tNotF, Ob.eAnd, Ob.eOr, Ob.eNot, Ob.eIf, Ob.aNil, Ob.aCons, Ob.eTup, Ob.mkT, Ob.lLst, Ob.eL, Ob.mkL, Ob.eCall, Ob.pyAll, Ob.pE, Ob.pL, Ob.pT, Ob.pv, Ob.pvS, Ob.eIx, Ob.ixD, Ob.D.lst?, Ob.D.tup?, Ob.lLc, Ob.lcD, Ob.wipeE, Ob.pYes, Ob.sNext, Ob.fnO, Ob.entry, Ob.goE, Ob.goL, Ob.goN, Ob.eG, Ob.lG, Ob.eP, Ob.eFld, Ob.fld, Ob.sFld, Ob.setFld, Ob.putD, Ob.sFldAug, Ob.clsOf, Ob.eMeth, Ob.eMeth0, Ob.eProp, Ob.eMake, Ob.eMakeK, Ob.made, Ob.eSup, Ob.eSup0, Ob.eSupK, Ob.Mr.list, Ob.eIsC, Ob.isC, Ob.sRaise, Ob.eLenSet, Ob.lenSet, List.lookup_cons, List.lookup_nil, Bool.false_eq_true, List.set_set, beq_self_eq_true, Option.isNone_none, Option.map_none, Option.bind_none, lSl, lCat, ct1, ct2, hl]]
    exact q7
  generalize ds.map PyData.int = dsl at *
  generalize hzl : zs.map PyData.str = zsl at *
  unfold lp__law_exchanged_alike_1
  refine oseq (e := En11 dsl zsl rsl at_ p q [V (cI k), V (cT z), x8, x9, x10]) (s := st) (by simp only [sSeq, sSet, sOwn, sPar, sParL,  sIf, sRet, sRetL, sRetO, sDrop, sAug, sApp, sFrz, frz, sAsg, gSet, gsNil, gsCons, gTupF, Fi.gSub, sFor, iL, iT, iR1, iR2, iZ, iEn, itemsK, eVar, eC, Fi.e2, Fi.e1, asB, eChain, tAndF, tOrF, tNotF, eAnd, eOr, eNot, eIf, aNil, aCons, eTup, lLst, eL, eCall, lCall, eCallF, lCallF, eSlT, lSl, oNone, oSome, ownIx, ownLen, lLc, wipeE, pYes, sNext, fnD, entry, fAdd_int, fSub, fMul_l, fMul_r, fDiv_ok, fMod_ok, fPow_ok, fLt, fLe, fGt, fGe, fEq_int, fEq_str, fEq_bool, fNe_int, fNe_str, fNe_bool, isN, fIs, fIsNot, fIx, fNeg, fLen, fMin, fMax, fTuple, fList, fIntB, fSum, fAll, fAny, at_0, at_1, at_2, eT, eS, eStep, eR, getInts_map, Option.bind_some, Option.map_some, List.getElem?_cons_succ, List.getElem?_cons_zero, List.set_cons_succ, List.set_cons_zero, List.length_cons, List.length_nil, List.length_map, List.map_cons, List.map_nil, List.nil_append, List.cons_append, List.replicate, Nat.zero_add, Nat.reduceAdd, Nat.reduceSub, decide_true, decide_false, reduceIte, Nat.reduceLeDiff, Nat.reduceLT, Int.reduceLT, Int.reduceLE, Int.reduceNeg, Int.reducePow, and_self, or_self, and_true, true_and, or_true, true_or, Bool.not_true, Bool.not_false, pour_spend, spend_pour, Ob.sSeq, Ob.sSet, Ob.sOwn, Ob.sIf, Ob.sRet, Ob.sRetL, Ob.sRetO, Ob.sRetN, Ob.sDrop, Ob.sApp, Ob.sAug, Ob.sFrz, Ob.frz, Ob.sAsg, Ob.sPar, Ob.sE, Ob.bnd, Ob.lft, Ob.gSet, Ob.gsNil, Ob.gsCons, Ob.gTup, Ob.gLst, Ob.sFor, Ob.iL, Ob.iT, Ob.eVar, Ob.e2, Ob.op2, Ob.asB, Ob.truD, Ob.eChain, Ob.tAndF, Ob.tOrF, Ob.tNotF, Ob.eAnd, Ob.eOr, Ob.eNot, Ob.eIf, Ob.aNil, Ob.aCons, Ob.eTup, Ob.mkT, Ob.lLst, Ob.eL, Ob.mkL, Ob.eCall, Ob.pyAll, Ob.pE, Ob.pL, Ob.pT, Ob.pv, Ob.pvS, Ob.eIx, Ob.ixD, Ob.D.lst?, Ob.D.tup?, Ob.lLc, Ob.lcD, Ob.wipeE, Ob.pYes, Ob.sNext, Ob.fnO, Ob.entry, Ob.goE, Ob.goL, Ob.goN, Ob.eG, Ob.lG, Ob.eP, Ob.eFld, Ob.fld, Ob.sFld, Ob.setFld, Ob.putD, Ob.sFldAug, Ob.clsOf, Ob.eMeth, Ob.eMeth0, Ob.eProp, Ob.eMake, Ob.eMakeK, Ob.made, Ob.eSup, Ob.eSup0, Ob.eSupK, Ob.Mr.list, Ob.eIsC, Ob.isC, Ob.sRaise, Ob.eLenSet, Ob.lenSet, List.lookup_cons, List.lookup_nil, Bool.false_eq_true, List.set_set, beq_self_eq_true, Option.isNone_none, Option.map_none, Option.bind_none, i0, hlenz, m0, a0]) ?_
  refine oseq (e := En11 dsl zsl rsl at_ p q [V (cI k), V (cT z), V (cI dg), x9, x10]) (s := st) (by simp only [sSeq, sSet, sOwn, sPar, sParL,  sIf, sRet, sRetL, sRetO, sDrop, sAug, sApp, sFrz, frz, sAsg, gSet, gsNil, gsCons, gTupF, Fi.gSub, sFor, iL, iT, iR1, iR2, iZ, iEn, itemsK, eVar, eC, Fi.e2, Fi.e1, asB, eChain, tAndF, tOrF, tNotF, eAnd, eOr, eNot, eIf, aNil, aCons, eTup, lLst, eL, eCall, lCall, eCallF, lCallF, eSlT, lSl, oNone, oSome, ownIx, ownLen, lLc, wipeE, pYes, sNext, fnD, entry, fAdd_int, fSub, fMul_l, fMul_r, fDiv_ok, fMod_ok, fPow_ok, fLt, fLe, fGt, fGe, fEq_int, fEq_str, fEq_bool, fNe_int, fNe_str, fNe_bool, isN, fIs, fIsNot, fIx, fNeg, fLen, fMin, fMax, fTuple, fList, fIntB, fSum, fAll, fAny, at_0, at_1, at_2, eT, eS, eStep, eR, getInts_map, Option.bind_some, Option.map_some, List.getElem?_cons_succ, List.getElem?_cons_zero, List.set_cons_succ, List.set_cons_zero, List.length_cons, List.length_nil, List.length_map, List.map_cons, List.map_nil, List.nil_append, List.cons_append, List.replicate, Nat.zero_add, Nat.reduceAdd, Nat.reduceSub, decide_true, decide_false, reduceIte, Nat.reduceLeDiff, Nat.reduceLT, Int.reduceLT, Int.reduceLE, Int.reduceNeg, Int.reducePow, and_self, or_self, and_true, true_and, or_true, true_or, Bool.not_true, Bool.not_false, pour_spend, spend_pour, Ob.sSeq, Ob.sSet, Ob.sOwn, Ob.sIf, Ob.sRet, Ob.sRetL, Ob.sRetO, Ob.sRetN, Ob.sDrop, Ob.sApp, Ob.sAug, Ob.sFrz, Ob.frz, Ob.sAsg, Ob.sPar, Ob.sE, Ob.bnd, Ob.lft, Ob.gSet, Ob.gsNil, Ob.gsCons, Ob.gTup, Ob.gLst, Ob.sFor, Ob.iL, Ob.iT, Ob.eVar, Ob.e2, Ob.op2, Ob.asB, Ob.truD, Ob.eChain, Ob.tAndF, Ob.tOrF, Ob.tNotF, Ob.eAnd, Ob.eOr, Ob.eNot, Ob.eIf, Ob.aNil, Ob.aCons, Ob.eTup, Ob.mkT, Ob.lLst, Ob.eL, Ob.mkL, Ob.eCall, Ob.pyAll, Ob.pE, Ob.pL, Ob.pT, Ob.pv, Ob.pvS, Ob.eIx, Ob.ixD, Ob.D.lst?, Ob.D.tup?, Ob.lLc, Ob.lcD, Ob.wipeE, Ob.pYes, Ob.sNext, Ob.fnO, Ob.entry, Ob.goE, Ob.goL, Ob.goN, Ob.eG, Ob.lG, Ob.eP, Ob.eFld, Ob.fld, Ob.sFld, Ob.setFld, Ob.putD, Ob.sFldAug, Ob.clsOf, Ob.eMeth, Ob.eMeth0, Ob.eProp, Ob.eMake, Ob.eMakeK, Ob.made, Ob.eSup, Ob.eSup0, Ob.eSupK, Ob.Mr.list, Ob.eIsC, Ob.isC, Ob.sRaise, Ob.eLenSet, Ob.lenSet, List.lookup_cons, List.lookup_nil, Bool.false_eq_true, List.set_set, beq_self_eq_true, Option.isNone_none, Option.map_none, Option.bind_none, i1, m1]) ?_
  refine oseq q5 ?_
  refine oseq q7' ?_
  simp only [sSeq, sSet, sOwn, sPar, sParL,  sIf, sRet, sRetL, sRetO, sDrop, sAug, sApp, sFrz, frz, sAsg, gSet, gsNil, gsCons, gTupF, Fi.gSub, sFor, iL, iT, iR1, iR2, iZ, iEn, itemsK, eVar, eC, Fi.e2, Fi.e1, asB, eChain, tAndF, tOrF, tNotF, eAnd, eOr, eNot, eIf, aNil, aCons, eTup, lLst, eL, eCall, lCall, eCallF, lCallF, eSlT, lSl, oNone, oSome, ownIx, ownLen, lLc, wipeE, pYes, sNext, fnD, entry, fAdd_int, fSub, fMul_l, fMul_r, fDiv_ok, fMod_ok, fPow_ok, fLt, fLe, fGt, fGe, fEq_int, fEq_str, fEq_bool, fNe_int, fNe_str, fNe_bool, isN, fIs, fIsNot, fIx, fNeg, fLen, fMin, fMax, fTuple, fList, fIntB, fSum, fAll, fAny, at_0, at_1, at_2, eT, eS, eStep, eR, getInts_map, Option.bind_some, Option.map_some, List.getElem?_cons_succ, List.getElem?_cons_zero, List.set_cons_succ, List.set_cons_zero, List.length_cons, List.length_nil, List.length_map, List.map_cons, List.map_nil, List.nil_append, List.cons_append, List.replicate, Nat.zero_add, Nat.reduceAdd, Nat.reduceSub, decide_true, decide_false, reduceIte, Nat.reduceLeDiff, Nat.reduceLT, Int.reduceLT, Int.reduceLE, Int.reduceNeg, Int.reducePow, and_self, or_self, and_true, true_and, or_true, true_or, Bool.not_true, Bool.not_false, pour_spend, spend_pour, Ob.sSeq, Ob.sSet, Ob.sOwn, Ob.sIf, Ob.sRet, Ob.sRetL, Ob.sRetO, Ob.sRetN, Ob.sDrop, Ob.sApp, Ob.sAug, Ob.sFrz, Ob.frz, Ob.sAsg, Ob.sPar, Ob.sE, Ob.bnd, Ob.lft, Ob.gSet, Ob.gsNil, Ob.gsCons, Ob.gTup, Ob.gLst, Ob.sFor, Ob.iL, Ob.iT, Ob.eVar, Ob.e2, Ob.op2, Ob.asB, Ob.truD, Ob.eChain, Ob.tAndF, Ob.tOrF, Ob.tNotF, Ob.eAnd, Ob.eOr, Ob.eNot, Ob.eIf, Ob.aNil, Ob.aCons, Ob.eTup, Ob.mkT, Ob.lLst, Ob.eL, Ob.mkL, Ob.eCall, Ob.pyAll, Ob.pE, Ob.pL, Ob.pT, Ob.pv, Ob.pvS, Ob.eIx, Ob.ixD, Ob.D.lst?, Ob.D.tup?, Ob.lLc, Ob.lcD, Ob.wipeE, Ob.pYes, Ob.sNext, Ob.fnO, Ob.entry, Ob.goE, Ob.goL, Ob.goN, Ob.eG, Ob.lG, Ob.eP, Ob.eFld, Ob.fld, Ob.sFld, Ob.setFld, Ob.putD, Ob.sFldAug, Ob.clsOf, Ob.eMeth, Ob.eMeth0, Ob.eProp, Ob.eMake, Ob.eMakeK, Ob.made, Ob.eSup, Ob.eSup0, Ob.eSupK, Ob.Mr.list, Ob.eIsC, Ob.isC, Ob.sRaise, Ob.eLenSet, Ob.lenSet, List.lookup_cons, List.lookup_nil, Bool.false_eq_true, List.set_set, beq_self_eq_true, Option.isNone_none, Option.map_none, Option.bind_none, q__law_exchanged_alike_8, s1a, s1b, s1c, s1d, s2a, s2b, s2c, s2d, n1, n2]
end
end Lw

namespace Lw
open PySem L2 Fi
theorem exch_ok {ds : List Int} (hds : ds.length = 90) {rs : List Rw} (hg : ∀ r ∈ rs, r.Ok) (hd : (rs.map (·.nm)).Nodup) (l1 : 2 ≤ rs.length) (l2 : rs.length ≤ 6) (st : Ob.Stor) (tb : st[0]? = some (.tab "law")) :
    ∃ st', st'[0]? = some (.tab "law") ∧ F__law_exchanged_alike [.py (.list (ds.map .int)), .py (.list ((rs.map (·.nm)).map .str)), .py (.list (rs.map Rw.tup))] st = some (.ok (.val (cB true)) st') := by
  have i0 := at_getZ (l := ds) (z := 40) (by omega) (by omega)
  generalize ds.getD (40 : Int).toNat 0 = v0 at i0
  have m0 : fMod (.int v0) (.int ((rs.length : Int) - 1)) = some (.int (v0 % ((rs.length : Int) - 1))) := fMod_ok (by omega)
  have b0 := Int.emod_nonneg v0 (show (rs.length : Int) - 1 ≠ 0 by omega)
  have b1 := Int.emod_lt_of_pos v0 (show (0 : Int) < (rs.length : Int) - 1 by omega)
  obtain ⟨at_, hat⟩ : ∃ j : Nat, v0 % ((rs.length : Int) - 1) = j := ⟨(v0 % ((rs.length : Int) - 1)).toNat, by omega⟩
  rw [hat] at m0 b1
  have hal : at_ + 1 < rs.length := by omega
  have z1 : rs ≠ [] := fun z => by rw [z] at l1; simp at l1
  have pa_o : ∀ {n : Nat}, Ob.pyAll ((mkR n rs).map Ev.o) = none := fun {n} => pyAll_on fun z => by
    have := congrArg List.length z
    rw [mkR_len] at this
    exact z1 (List.length_eq_zero_iff.mp this)
  have zl : ((rs.map (·.nm)).map PyData.str).length = rs.length := by rw [List.length_map, List.length_map]
  obtain ⟨a1, R1, p1⟩ := rowplan (st := st) hg hd z1 l2
  have tb1 := getL (l := (mkR st.length rs).map Ev.oj ++ [oP (mkR st.length rs) 0]) tb
  rw [← List.append_assoc] at tb1
  have lc1 : lc__law_exchanged_alike_0 [V (.py (.list (ds.map .int))), V (.py (.list ((rs.map (·.nm)).map .str))), V (.py (.list (rs.map Rw.tup))), V (cI at_), none, none, none, none, none, none, none] st = some (.ok ((mkR st.length rs).map Ev.o) (st ++ (mkR st.length rs).map Ev.oj)) := lLc_ok (ds := (rs.map Rw.tup).map Ob.D.py) (s1 := st) (by simp only [sSeq, sSet, sOwn, sPar, sParL,  sIf, sRet, sRetL, sRetO, sDrop, sAug, sApp, sFrz, frz, sAsg, gSet, gsNil, gsCons, gTupF, Fi.gSub, sFor, iL, iT, iR1, iR2, iZ, iEn, itemsK, eVar, eC, Fi.e2, Fi.e1, asB, eChain, tAndF, tOrF, tNotF, eAnd, eOr, eNot, eIf, aNil, aCons, eTup, lLst, eL, eCall, lCall, eCallF, lCallF, eSlT, lSl, oNone, oSome, ownIx, ownLen, lLc, wipeE, pYes, sNext, fnD, entry, fAdd_int, fSub, fMul_l, fMul_r, fDiv_ok, fMod_ok, fPow_ok, fLt, fLe, fGt, fGe, fEq_int, fEq_str, fEq_bool, fNe_int, fNe_str, fNe_bool, isN, fIs, fIsNot, fIx, fNeg, fLen, fMin, fMax, fTuple, fList, fIntB, fSum, fAll, fAny, at_0, at_1, at_2, eT, eS, eStep, eR, getInts_map, Option.bind_some, Option.map_some, List.getElem?_cons_succ, List.getElem?_cons_zero, List.set_cons_succ, List.set_cons_zero, List.length_cons, List.length_nil, List.length_map, List.map_cons, List.map_nil, List.nil_append, List.cons_append, List.replicate, Nat.zero_add, Nat.reduceAdd, Nat.reduceSub, decide_true, decide_false, reduceIte, Nat.reduceLeDiff, Nat.reduceLT, Int.reduceLT, Int.reduceLE, Int.reduceNeg, Int.reducePow, and_self, or_self, and_true, true_and, or_true, true_or, Bool.not_true, Bool.not_false, pour_spend, spend_pour, Ob.sSeq, Ob.sSet, Ob.sOwn, Ob.sIf, Ob.sRet, Ob.sRetL, Ob.sRetO, Ob.sRetN, Ob.sDrop, Ob.sApp, Ob.sAug, Ob.sFrz, Ob.frz, Ob.sAsg, Ob.sPar, Ob.sE, Ob.bnd, Ob.lft, Ob.gSet, Ob.gsNil, Ob.gsCons, Ob.gTup, Ob.gLst, Ob.sFor, Ob.iL, Ob.iT, Ob.eVar, Ob.e2, Ob.op2, Ob.asB, Ob.truD, Ob.eChain, Ob.tAndF, Ob.tOrF, Ob.tNotF, Ob.eAnd, Ob.eOr, Ob.eNot, Ob.eIf, Ob.aNil, Ob.aCons, Ob.eTup, Ob.mkT, Ob.lLst, Ob.eL, Ob.mkL, Ob.eCall, Ob.pyAll, Ob.pE, Ob.pL, Ob.pT, Ob.pv, Ob.pvS, Ob.eIx, Ob.ixD, Ob.D.lst?, Ob.D.tup?, Ob.lLc, Ob.lcD, Ob.wipeE, Ob.pYes, Ob.sNext, Ob.fnO, Ob.entry, Ob.goE, Ob.goL, Ob.goN, Ob.eG, Ob.lG, Ob.eP, Ob.eFld, Ob.fld, Ob.sFld, Ob.setFld, Ob.putD, Ob.sFldAug, Ob.clsOf, Ob.eMeth, Ob.eMeth0, Ob.pick, Ob.eProp, Ob.pickP, Ob.eMake, Ob.eMakeK, Ob.made, Ob.eSup, Ob.eSup0, Ob.eSupK, Ob.Mr.list, Ob.eIsC, Ob.isC, Ob.sRaise, Ob.eLenSet, Ob.lenSet, List.lookup_cons, List.lookup_nil, Bool.false_eq_true, List.set_set, beq_self_eq_true, Option.isNone_none, Option.map_none, Option.bind_none]) (by rw [List.length_map, List.length_map]; omega) (lc_rows hg)
  have len1 : (st ++ (mkR st.length rs).map Ev.oj ++ [oP (mkR st.length rs) 0]).length = st.length + rs.length + 1 := by rw [List.length_append, List.length_append, List.length_map, mkR_len]; rfl
  generalize hS : st ++ (mkR st.length rs).map Ev.oj ++ [oP (mkR st.length rs) 0] = S at *
  obtain ⟨a2, R2, p2⟩ := rowplan (st := S) hg hd z1 l2
  have lc2 : lc__law_exchanged_alike_1 [V (.py (.list (ds.map .int))), V (.py (.list ((rs.map (·.nm)).map .str))), V (.py (.list (rs.map Rw.tup))), V (cI at_), V (.obj (st.length + rs.length)), none, none, none, none, none, none] S = some (.ok ((mkR S.length rs).map Ev.o) (S ++ (mkR S.length rs).map Ev.oj)) := lLc_ok (ds := (rs.map Rw.tup).map Ob.D.py) (s1 := S) (by simp only [sSeq, sSet, sOwn, sPar, sParL,  sIf, sRet, sRetL, sRetO, sDrop, sAug, sApp, sFrz, frz, sAsg, gSet, gsNil, gsCons, gTupF, Fi.gSub, sFor, iL, iT, iR1, iR2, iZ, iEn, itemsK, eVar, eC, Fi.e2, Fi.e1, asB, eChain, tAndF, tOrF, tNotF, eAnd, eOr, eNot, eIf, aNil, aCons, eTup, lLst, eL, eCall, lCall, eCallF, lCallF, eSlT, lSl, oNone, oSome, ownIx, ownLen, lLc, wipeE, pYes, sNext, fnD, entry, fAdd_int, fSub, fMul_l, fMul_r, fDiv_ok, fMod_ok, fPow_ok, fLt, fLe, fGt, fGe, fEq_int, fEq_str, fEq_bool, fNe_int, fNe_str, fNe_bool, isN, fIs, fIsNot, fIx, fNeg, fLen, fMin, fMax, fTuple, fList, fIntB, fSum, fAll, fAny, at_0, at_1, at_2, eT, eS, eStep, eR, getInts_map, Option.bind_some, Option.map_some, List.getElem?_cons_succ, List.getElem?_cons_zero, List.set_cons_succ, List.set_cons_zero, List.length_cons, List.length_nil, List.length_map, List.map_cons, List.map_nil, List.nil_append, List.cons_append, List.replicate, Nat.zero_add, Nat.reduceAdd, Nat.reduceSub, decide_true, decide_false, reduceIte, Nat.reduceLeDiff, Nat.reduceLT, Int.reduceLT, Int.reduceLE, Int.reduceNeg, Int.reducePow, and_self, or_self, and_true, true_and, or_true, true_or, Bool.not_true, Bool.not_false, pour_spend, spend_pour, Ob.sSeq, Ob.sSet, Ob.sOwn, Ob.sIf, Ob.sRet, Ob.sRetL, Ob.sRetO, Ob.sRetN, Ob.sDrop, Ob.sApp, Ob.sAug, Ob.sFrz, Ob.frz, Ob.sAsg, Ob.sPar, Ob.sE, Ob.bnd, Ob.lft, Ob.gSet, Ob.gsNil, Ob.gsCons, Ob.gTup, Ob.gLst, Ob.sFor, Ob.iL, Ob.iT, Ob.eVar, Ob.e2, Ob.op2, Ob.asB, Ob.truD, Ob.eChain, Ob.tAndF, Ob.tOrF, Ob.tNotF, Ob.eAnd, Ob.eOr, Ob.eNot, Ob.eIf, Ob.aNil, Ob.aCons, Ob.eTup, Ob.mkT, Ob.lLst, Ob.eL, Ob.mkL, Ob.eCall, Ob.pyAll, Ob.pE, Ob.pL, Ob.pT, Ob.pv, Ob.pvS, Ob.eIx, Ob.ixD, Ob.D.lst?, Ob.D.tup?, Ob.lLc, Ob.lcD, Ob.wipeE, Ob.pYes, Ob.sNext, Ob.fnO, Ob.entry, Ob.goE, Ob.goL, Ob.goN, Ob.eG, Ob.lG, Ob.eP, Ob.eFld, Ob.fld, Ob.sFld, Ob.setFld, Ob.putD, Ob.sFldAug, Ob.clsOf, Ob.eMeth, Ob.eMeth0, Ob.pick, Ob.eProp, Ob.pickP, Ob.eMake, Ob.eMakeK, Ob.made, Ob.eSup, Ob.eSup0, Ob.eSupK, Ob.Mr.list, Ob.eIsC, Ob.isC, Ob.sRaise, Ob.eLenSet, Ob.lenSet, List.lookup_cons, List.lookup_nil, Bool.false_eq_true, List.set_set, beq_self_eq_true, Option.isNone_none, Option.map_none, Option.bind_none]) (by rw [List.length_map, List.length_map]; omega) (lc_rows hg)
  have R1' := R1.appL (l := (mkR S.length rs).map Ev.oj ++ [oP (mkR S.length rs) 0])
  have p1' := getL (l := (mkR S.length rs).map Ev.oj ++ [oP (mkR S.length rs) 0]) p1
  have tb2 := getL (l := (mkR S.length rs).map Ev.oj ++ [oP (mkR S.length rs) 0]) tb1
  rw [← List.append_assoc] at R1' p1' tb2
  generalize hS2 : S ++ (mkR S.length rs).map Ev.oj ++ [oP (mkR S.length rs) 0] = S2 at *
  have hzl : at_ < (rs.map (·.nm)).length := by rw [List.length_map]; omega
  obtain ⟨S3, k1, mv, X⟩ := XI.start (at_ := at_) (z := (rs.map (·.nm))[at_]) R1' R2 p1' p2 (by omega) (by omega) l2 hal (List.getElem?_eq_getElem hzl) tb2
  have a0 : atI ((rs.map (·.nm)).map PyData.str) (at_ : Int) = some (.str (rs.map (·.nm))[at_]) := atI_nat (by rw [List.getElem?_map, List.getElem?_eq_getElem hzl]; rfl)
  generalize (rs.map (·.nm))[at_] = z at a0 mv
  have zl2 : (rs.map (·.nm)).length = rs.length := List.length_map ..
  generalize hzs : rs.map (·.nm) = zs at *
  generalize rs.map Rw.tup = rsl at *
  generalize hp : st.length + rs.length = p at *
  generalize hq : S.length + rs.length = q at *
  obtain ⟨e, s4, f4, X4, y6, y7, y8, y9, y10, rfl⟩ : ∃ e s, Ob.forD (Ob.gSet 6) lp__law_exchanged_alike_1 (((List.range 12).map fun (i : Nat) => PyData.int (i : Int)).map Ob.D.py) (En11 (ds.map .int) (zs.map .str) rsl at_ p q [none, none, none, none, none]) S3 = some (.next e s) ∧ XI s p q at_ zs ∧ ∃ y6 y7 y8 y9 y10, e = En11 (ds.map .int) (zs.map .str) rsl at_ p q [y6, y7, y8, y9, y10] := by
    refine ofor_inv (fun _ e s => XI s p q at_ zs ∧ ∃ y6 y7 y8 y9 y10, e = En11 (ds.map .int) (zs.map .str) rsl at_ p q [y6, y7, y8, y9, y10]) _ 0 _ _ ⟨X, _, _, _, _, _, rfl⟩ fun i d e s hd he => ?_
    obtain ⟨X, y6, y7, y8, y9, y10, rfl⟩ := he
    obtain ⟨hi, rfl⟩ := orange_get hd
    obtain ⟨w7, w8, w9, w10, s', h, X2⟩ := turn11 hds hi (by omega) X y7 y8 y9 y10
    exact ⟨_, _, _, rfl, h, X2, _, _, _, _, _, rfl⟩
  refine ⟨s4, by obtain ⟨_, _, _, _, _, _, _, _, _, X5⟩ := X4; exact X5.tb, ?_⟩
  show Ob.fnO 11 b__law_exchanged_alike [.py (.list (ds.map .int)), .py (.list (zs.map .str)), .py (.list rsl)] st = _
  have hb : b__law_exchanged_alike [V (.py (.list (ds.map .int))), V (.py (.list (zs.map .str))), V (.py (.list rsl)), none, none, none, none, none, none, none, none] st = some (.ret (cB true) s4) := by
    have q1 := pa_o (n := st.length)
    have q2 := pa_o (n := S.length)
    generalize ds.map PyData.int = dsl at *
    generalize zs.map PyData.str = zsl at *
    generalize st ++ (mkR st.length rs).map Ev.oj = T1 at *
    generalize S ++ (mkR S.length rs).map Ev.oj = T2 at *
    generalize (mkR st.length rs).map Ev.o = o1 at *
    generalize (mkR S.length rs).map Ev.o = o2 at *
    unfold b__law_exchanged_alike
    refine oseq (e := [V (.py (.list dsl)), V (.py (.list zsl)), V (.py (.list rsl)), V (cI at_), none, none, none, none, none, none, none]) (s := st) (by simp only [sSeq, sSet, sOwn, sPar, sParL,  sIf, sRet, sRetL, sRetO, sDrop, sAug, sApp, sFrz, frz, sAsg, gSet, gsNil, gsCons, gTupF, Fi.gSub, sFor, iL, iT, iR1, iR2, iZ, iEn, itemsK, eVar, eC, Fi.e2, Fi.e1, asB, eChain, tAndF, tOrF, tNotF, eAnd, eOr, eNot, eIf, aNil, aCons, eTup, lLst, eL, eCall, lCall, eCallF, lCallF, eSlT, lSl, oNone, oSome, ownIx, ownLen, lLc, wipeE, pYes, sNext, fnD, entry, fAdd_int, fSub, fMul_l, fMul_r, fDiv_ok, fMod_ok, fPow_ok, fLt, fLe, fGt, fGe, fEq_int, fEq_str, fEq_bool, fNe_int, fNe_str, fNe_bool, isN, fIs, fIsNot, fIx, fNeg, fLen, fMin, fMax, fTuple, fList, fIntB, fSum, fAll, fAny, at_0, at_1, at_2, eT, eS, eStep, eR, getInts_map, Option.bind_some, Option.map_some, List.getElem?_cons_succ, List.getElem?_cons_zero, List.set_cons_succ, List.set_cons_zero, List.length_cons, List.length_nil, List.length_map, List.map_cons, List.map_nil, List.nil_append, List.cons_append, List.replicate, Nat.zero_add, Nat.reduceAdd, Nat.reduceSub, decide_true, decide_false, reduceIte, Nat.reduceLeDiff, Nat.reduceLT, Int.reduceLT, Int.reduceLE, Int.reduceNeg, Int.reducePow, and_self, or_self, and_true, true_and, or_true, true_or, Bool.not_true, Bool.not_false, pour_spend, spend_pour, Ob.sSeq, Ob.sSet, Ob.sOwn, Ob.sIf, Ob.sRet, Ob.sRetL, Ob.sRetO, Ob.sRetN, Ob.sDrop, Ob.sApp, Ob.sAug, Ob.sFrz, Ob.frz, Ob.sAsg, Ob.sPar, Ob.sE, Ob.bnd, Ob.lft, Ob.gSet, Ob.gsNil, Ob.gsCons, Ob.gTup, Ob.gLst, Ob.sFor, Ob.iL, Ob.iT, Ob.eVar, Ob.e2, Ob.op2, Ob.asB, Ob.truD, Ob.eChain, Ob.tAndF, Ob.tOrF, Ob.tNotF, Ob.eAnd, Ob.eOr, Ob.eNot, Ob.eIf, Ob.aNil, Ob.aCons, Ob.eTup, Ob.mkT, Ob.lLst, Ob.eL, Ob.mkL, Ob.eCall, Ob.pyAll, Ob.pE, Ob.pL, Ob.pT, Ob.pv, Ob.pvS, Ob.eIx, Ob.ixD, Ob.D.lst?, Ob.D.tup?, Ob.lLc, Ob.lcD, Ob.wipeE, Ob.pYes, Ob.sNext, Ob.fnO, Ob.entry, Ob.goE, Ob.goL, Ob.goN, Ob.eG, Ob.lG, Ob.eP, Ob.eFld, Ob.fld, Ob.sFld, Ob.setFld, Ob.putD, Ob.sFldAug, Ob.clsOf, Ob.eMeth, Ob.eMeth0, Ob.eProp, Ob.eMake, Ob.eMakeK, Ob.made, Ob.eSup, Ob.eSup0, Ob.eSupK, Ob.Mr.list, Ob.eIsC, Ob.isC, Ob.sRaise, Ob.eLenSet, Ob.lenSet, List.lookup_cons, List.lookup_nil, Bool.false_eq_true, List.set_set, beq_self_eq_true, Option.isNone_none, Option.map_none, Option.bind_none, i0, zl, m0]) ?_
    refine oseq (e := [V (.py (.list dsl)), V (.py (.list zsl)), V (.py (.list rsl)), V (cI at_), V (.obj p), none, none, none, none, none, none]) (s := S) (by simp only [sSeq, sSet, sOwn, sPar, sParL,  sIf, sRet, sRetL, sRetO, sDrop, sAug, sApp, sFrz, frz, sAsg, gSet, gsNil, gsCons, gTupF, Fi.gSub, sFor, iL, iT, iR1, iR2, iZ, iEn, itemsK, eVar, eC, Fi.e2, Fi.e1, asB, eChain, tAndF, tOrF, tNotF, eAnd, eOr, eNot, eIf, aNil, aCons, eTup, lLst, eL, eCall, lCall, eCallF, lCallF, eSlT, lSl, oNone, oSome, ownIx, ownLen, lLc, wipeE, pYes, sNext, fnD, entry, fAdd_int, fSub, fMul_l, fMul_r, fDiv_ok, fMod_ok, fPow_ok, fLt, fLe, fGt, fGe, fEq_int, fEq_str, fEq_bool, fNe_int, fNe_str, fNe_bool, isN, fIs, fIsNot, fIx, fNeg, fLen, fMin, fMax, fTuple, fList, fIntB, fSum, fAll, fAny, at_0, at_1, at_2, eT, eS, eStep, eR, getInts_map, Option.bind_some, Option.map_some, List.getElem?_cons_succ, List.getElem?_cons_zero, List.set_cons_succ, List.set_cons_zero, List.length_cons, List.length_nil, List.length_map, List.map_cons, List.map_nil, List.nil_append, List.cons_append, List.replicate, Nat.zero_add, Nat.reduceAdd, Nat.reduceSub, decide_true, decide_false, reduceIte, Nat.reduceLeDiff, Nat.reduceLT, Int.reduceLT, Int.reduceLE, Int.reduceNeg, Int.reducePow, and_self, or_self, and_true, true_and, or_true, true_or, Bool.not_true, Bool.not_false, pour_spend, spend_pour, Ob.sSeq, Ob.sSet, Ob.sOwn, Ob.sIf, Ob.sRet, Ob.sRetL, Ob.sRetO, Ob.sRetN, Ob.sDrop, Ob.sApp, Ob.sAug, Ob.sFrz, Ob.frz, Ob.sAsg, Ob.sPar, Ob.sE, Ob.bnd, Ob.lft, Ob.gSet, Ob.gsNil, Ob.gsCons, Ob.gTup, Ob.gLst, Ob.sFor, Ob.iL, Ob.iT, Ob.eVar, Ob.e2, Ob.op2, Ob.asB, Ob.truD, Ob.eChain, Ob.tAndF, Ob.tOrF, Ob.tNotF, Ob.eAnd, Ob.eOr, Ob.eNot, Ob.eIf, Ob.aNil, Ob.aCons, Ob.eTup, Ob.mkT, Ob.lLst, Ob.eL, Ob.mkL, Ob.eCall, Ob.pyAll, Ob.pE, Ob.pL, Ob.pT, Ob.pv, Ob.pvS, Ob.eIx, Ob.ixD, Ob.D.lst?, Ob.D.tup?, Ob.lLc, Ob.lcD, Ob.wipeE, Ob.pYes, Ob.sNext, Ob.fnO, Ob.entry, Ob.goE, Ob.goL, Ob.goN, Ob.eG, Ob.lG, Ob.eP, Ob.eFld, Ob.fld, Ob.sFld, Ob.setFld, Ob.putD, Ob.sFldAug, Ob.clsOf, Ob.eMeth, Ob.eMeth0, Ob.eProp, Ob.eMake, Ob.eMakeK, Ob.made, Ob.eSup, Ob.eSup0, Ob.eSupK, Ob.Mr.list, Ob.eIsC, Ob.isC, Ob.sRaise, Ob.eLenSet, Ob.lenSet, List.lookup_cons, List.lookup_nil, Bool.false_eq_true, List.set_set, beq_self_eq_true, Option.isNone_none, Option.map_none, Option.bind_none, lc1, q1, a1]) ?_
    refine oseq (e := En11 dsl zsl rsl at_ p q [none, none, none, none, none]) (s := S2) (by simp only [sSeq, sSet, sOwn, sPar, sParL,  sIf, sRet, sRetL, sRetO, sDrop, sAug, sApp, sFrz, frz, sAsg, gSet, gsNil, gsCons, gTupF, Fi.gSub, sFor, iL, iT, iR1, iR2, iZ, iEn, itemsK, eVar, eC, Fi.e2, Fi.e1, asB, eChain, tAndF, tOrF, tNotF, eAnd, eOr, eNot, eIf, aNil, aCons, eTup, lLst, eL, eCall, lCall, eCallF, lCallF, eSlT, lSl, oNone, oSome, ownIx, ownLen, lLc, wipeE, pYes, sNext, fnD, entry, fAdd_int, fSub, fMul_l, fMul_r, fDiv_ok, fMod_ok, fPow_ok, fLt, fLe, fGt, fGe, fEq_int, fEq_str, fEq_bool, fNe_int, fNe_str, fNe_bool, isN, fIs, fIsNot, fIx, fNeg, fLen, fMin, fMax, fTuple, fList, fIntB, fSum, fAll, fAny, at_0, at_1, at_2, eT, eS, eStep, eR, getInts_map, Option.bind_some, Option.map_some, List.getElem?_cons_succ, List.getElem?_cons_zero, List.set_cons_succ, List.set_cons_zero, List.length_cons, List.length_nil, List.length_map, List.map_cons, List.map_nil, List.nil_append, List.cons_append, List.replicate, Nat.zero_add, Nat.reduceAdd, Nat.reduceSub, decide_true, decide_false, reduceIte, Nat.reduceLeDiff, Nat.reduceLT, Int.reduceLT, Int.reduceLE, Int.reduceNeg, Int.reducePow, and_self, or_self, and_true, true_and, or_true, true_or, Bool.not_true, Bool.not_false, pour_spend, spend_pour, Ob.sSeq, Ob.sSet, Ob.sOwn, Ob.sIf, Ob.sRet, Ob.sRetL, Ob.sRetO, Ob.sRetN, Ob.sDrop, Ob.sApp, Ob.sAug, Ob.sFrz, Ob.frz, Ob.sAsg, Ob.sPar, Ob.sE, Ob.bnd, Ob.lft, Ob.gSet, Ob.gsNil, Ob.gsCons, Ob.gTup, Ob.gLst, Ob.sFor, Ob.iL, Ob.iT, Ob.eVar, Ob.e2, Ob.op2, Ob.asB, Ob.truD, Ob.eChain, Ob.tAndF, Ob.tOrF, Ob.tNotF, Ob.eAnd, Ob.eOr, Ob.eNot, Ob.eIf, Ob.aNil, Ob.aCons, Ob.eTup, Ob.mkT, Ob.lLst, Ob.eL, Ob.mkL, Ob.eCall, Ob.pyAll, Ob.pE, Ob.pL, Ob.pT, Ob.pv, Ob.pvS, Ob.eIx, Ob.ixD, Ob.D.lst?, Ob.D.tup?, Ob.lLc, Ob.lcD, Ob.wipeE, Ob.pYes, Ob.sNext, Ob.fnO, Ob.entry, Ob.goE, Ob.goL, Ob.goN, Ob.eG, Ob.lG, Ob.eP, Ob.eFld, Ob.fld, Ob.sFld, Ob.setFld, Ob.putD, Ob.sFldAug, Ob.clsOf, Ob.eMeth, Ob.eMeth0, Ob.eProp, Ob.eMake, Ob.eMakeK, Ob.made, Ob.eSup, Ob.eSup0, Ob.eSupK, Ob.Mr.list, Ob.eIsC, Ob.isC, Ob.sRaise, Ob.eLenSet, Ob.lenSet, List.lookup_cons, List.lookup_nil, Bool.false_eq_true, List.set_set, beq_self_eq_true, Option.isNone_none, Option.map_none, Option.bind_none, lc2, q2, a2]) ?_
    refine oseq (e := En11 dsl zsl rsl at_ p q [none, none, none, none, none]) (s := S3) (by simp only [sSeq, sSet, sOwn, sPar, sParL,  sIf, sRet, sRetL, sRetO, sDrop, sAug, sApp, sFrz, frz, sAsg, gSet, gsNil, gsCons, gTupF, Fi.gSub, sFor, iL, iT, iR1, iR2, iZ, iEn, itemsK, eVar, eC, Fi.e2, Fi.e1, asB, eChain, tAndF, tOrF, tNotF, eAnd, eOr, eNot, eIf, aNil, aCons, eTup, lLst, eL, eCall, lCall, eCallF, lCallF, eSlT, lSl, oNone, oSome, ownIx, ownLen, lLc, wipeE, pYes, sNext, fnD, entry, fAdd_int, fSub, fMul_l, fMul_r, fDiv_ok, fMod_ok, fPow_ok, fLt, fLe, fGt, fGe, fEq_int, fEq_str, fEq_bool, fNe_int, fNe_str, fNe_bool, isN, fIs, fIsNot, fIx, fNeg, fLen, fMin, fMax, fTuple, fList, fIntB, fSum, fAll, fAny, at_0, at_1, at_2, eT, eS, eStep, eR, getInts_map, Option.bind_some, Option.map_some, List.getElem?_cons_succ, List.getElem?_cons_zero, List.set_cons_succ, List.set_cons_zero, List.length_cons, List.length_nil, List.length_map, List.map_cons, List.map_nil, List.nil_append, List.cons_append, List.replicate, Nat.zero_add, Nat.reduceAdd, Nat.reduceSub, decide_true, decide_false, reduceIte, Nat.reduceLeDiff, Nat.reduceLT, Int.reduceLT, Int.reduceLE, Int.reduceNeg, Int.reducePow, and_self, or_self, and_true, true_and, or_true, true_or, Bool.not_true, Bool.not_false, pour_spend, spend_pour, Ob.sSeq, Ob.sSet, Ob.sOwn, Ob.sIf, Ob.sRet, Ob.sRetL, Ob.sRetO, Ob.sRetN, Ob.sDrop, Ob.sApp, Ob.sAug, Ob.sFrz, Ob.frz, Ob.sAsg, Ob.sPar, Ob.sE, Ob.bnd, Ob.lft, Ob.gSet, Ob.gsNil, Ob.gsCons, Ob.gTup, Ob.gLst, Ob.sFor, Ob.iL, Ob.iT, Ob.eVar, Ob.e2, Ob.op2, Ob.asB, Ob.truD, Ob.eChain, Ob.tAndF, Ob.tOrF, Ob.tNotF, Ob.eAnd, Ob.eOr, Ob.eNot, Ob.eIf, Ob.aNil, Ob.aCons, Ob.eTup, Ob.mkT, Ob.lLst, Ob.eL, Ob.mkL, Ob.eCall, Ob.pyAll, Ob.pE, Ob.pL, Ob.pT, Ob.pv, Ob.pvS, Ob.eIx, Ob.ixD, Ob.D.lst?, Ob.D.tup?, Ob.lLc, Ob.lcD, Ob.wipeE, Ob.pYes, Ob.sNext, Ob.fnO, Ob.entry, Ob.goE, Ob.goL, Ob.goN, Ob.eG, Ob.lG, Ob.eP, Ob.eFld, Ob.fld, Ob.sFld, Ob.setFld, Ob.putD, Ob.sFldAug, Ob.clsOf, Ob.eMeth, Ob.eMeth0, Ob.eProp, Ob.eMake, Ob.eMakeK, Ob.made, Ob.eSup, Ob.eSup0, Ob.eSupK, Ob.Mr.list, Ob.eIsC, Ob.isC, Ob.sRaise, Ob.eLenSet, Ob.lenSet, List.lookup_cons, List.lookup_nil, Bool.false_eq_true, List.set_set, beq_self_eq_true, Option.isNone_none, Option.map_none, Option.bind_none, q__law_exchanged_alike_0, a0, k1, mv]) ?_
    refine oseq (e := En11 dsl zsl rsl at_ p q [y6, y7, y8, y9, y10]) (s := s4) (by simp only [sSeq, sSet, sOwn, sPar, sParL,  sIf, sRet, sRetL, sRetO, sDrop, sAug, sApp, sFrz, frz, sAsg, gSet, gsNil, gsCons, gTupF, Fi.gSub, sFor, iL, iT, iR1, iR2, iZ, iEn, itemsK, eVar, eC, Fi.e2, Fi.e1, asB, eChain, tAndF, tOrF, tNotF, eAnd, eOr, eNot, eIf, aNil, aCons, eTup, lLst, eL, eCall, lCall, eCallF, lCallF, eSlT, lSl, oNone, oSome, ownIx, ownLen, lLc, wipeE, pYes, sNext, fnD, entry, fAdd_int, fSub, fMul_l, fMul_r, fDiv_ok, fMod_ok, fPow_ok, fLt, fLe, fGt, fGe, fEq_int, fEq_str, fEq_bool, fNe_int, fNe_str, fNe_bool, isN, fIs, fIsNot, fIx, fNeg, fLen, fMin, fMax, fTuple, fList, fIntB, fSum, fAll, fAny, at_0, at_1, at_2, eT, eS, eStep, eR, getInts_map, Option.bind_some, Option.map_some, List.getElem?_cons_succ, List.getElem?_cons_zero, List.set_cons_succ, List.set_cons_zero, List.length_cons, List.length_nil, List.length_map, List.map_cons, List.map_nil, List.nil_append, List.cons_append, List.replicate, Nat.zero_add, Nat.reduceAdd, Nat.reduceSub, decide_true, decide_false, reduceIte, Nat.reduceLeDiff, Nat.reduceLT, Int.reduceLT, Int.reduceLE, Int.reduceNeg, Int.reducePow, and_self, or_self, and_true, true_and, or_true, true_or, Bool.not_true, Bool.not_false, pour_spend, spend_pour, Ob.sSeq, Ob.sSet, Ob.sOwn, Ob.sIf, Ob.sRet, Ob.sRetL, Ob.sRetO, Ob.sRetN, Ob.sDrop, Ob.sApp, Ob.sAug, Ob.sFrz, Ob.frz, Ob.sAsg, Ob.sPar, Ob.sE, Ob.bnd, Ob.lft, Ob.gSet, Ob.gsNil, Ob.gsCons, Ob.gTup, Ob.gLst, Ob.sFor, Ob.iL, Ob.iT, Ob.eVar, Ob.e2, Ob.op2, Ob.asB, Ob.truD, Ob.eChain, Ob.tAndF, Ob.tOrF, Ob.tNotF, Ob.eAnd, Ob.eOr, Ob.eNot, Ob.eIf, Ob.aNil, Ob.aCons, Ob.eTup, Ob.mkT, Ob.lLst, Ob.eL, Ob.mkL, Ob.eCall, Ob.pyAll, Ob.pE, Ob.pL, Ob.pT, Ob.pv, Ob.pvS, Ob.eIx, Ob.ixD, Ob.D.lst?, Ob.D.tup?, Ob.lLc, Ob.lcD, Ob.wipeE, Ob.pYes, Ob.sNext, Ob.fnO, Ob.entry, Ob.goE, Ob.goL, Ob.goN, Ob.eG, Ob.lG, Ob.eP, Ob.eFld, Ob.fld, Ob.sFld, Ob.setFld, Ob.putD, Ob.sFldAug, Ob.clsOf, Ob.eMeth, Ob.eMeth0, Ob.eProp, Ob.eMake, Ob.eMakeK, Ob.made, Ob.eSup, Ob.eSup0, Ob.eSupK, Ob.Mr.list, Ob.eIsC, Ob.isC, Ob.sRaise, Ob.eLenSet, Ob.lenSet, List.lookup_cons, List.lookup_nil, Bool.false_eq_true, List.set_set, beq_self_eq_true, Option.isNone_none, Option.map_none, Option.bind_none, f4, show (12 : Int).toNat = 12 from rfl]) ?_
    simp only [sSeq, sSet, sOwn, sPar, sParL,  sIf, sRet, sRetL, sRetO, sDrop, sAug, sApp, sFrz, frz, sAsg, gSet, gsNil, gsCons, gTupF, Fi.gSub, sFor, iL, iT, iR1, iR2, iZ, iEn, itemsK, eVar, eC, Fi.e2, Fi.e1, asB, eChain, tAndF, tOrF, tNotF, eAnd, eOr, eNot, eIf, aNil, aCons, eTup, lLst, eL, eCall, lCall, eCallF, lCallF, eSlT, lSl, oNone, oSome, ownIx, ownLen, lLc, wipeE, pYes, sNext, fnD, entry, fAdd_int, fSub, fMul_l, fMul_r, fDiv_ok, fMod_ok, fPow_ok, fLt, fLe, fGt, fGe, fEq_int, fEq_str, fEq_bool, fNe_int, fNe_str, fNe_bool, isN, fIs, fIsNot, fIx, fNeg, fLen, fMin, fMax, fTuple, fList, fIntB, fSum, fAll, fAny, at_0, at_1, at_2, eT, eS, eStep, eR, getInts_map, Option.bind_some, Option.map_some, List.getElem?_cons_succ, List.getElem?_cons_zero, List.set_cons_succ, List.set_cons_zero, List.length_cons, List.length_nil, List.length_map, List.map_cons, List.map_nil, List.nil_append, List.cons_append, List.replicate, Nat.zero_add, Nat.reduceAdd, Nat.reduceSub, decide_true, decide_false, reduceIte, Nat.reduceLeDiff, Nat.reduceLT, Int.reduceLT, Int.reduceLE, Int.reduceNeg, Int.reducePow, and_self, or_self, and_true, true_and, or_true, true_or, Bool.not_true, Bool.not_false, pour_spend, spend_pour, Ob.sSeq, Ob.sSet, Ob.sOwn, Ob.sIf, Ob.sRet, Ob.sRetL, Ob.sRetO, Ob.sRetN, Ob.sDrop, Ob.sApp, Ob.sAug, Ob.sFrz, Ob.frz, Ob.sAsg, Ob.sPar, Ob.sE, Ob.bnd, Ob.lft, Ob.gSet, Ob.gsNil, Ob.gsCons, Ob.gTup, Ob.gLst, Ob.sFor, Ob.iL, Ob.iT, Ob.eVar, Ob.e2, Ob.op2, Ob.asB, Ob.truD, Ob.eChain, Ob.tAndF, Ob.tOrF, Ob.tNotF, Ob.eAnd, Ob.eOr, Ob.eNot, Ob.eIf, Ob.aNil, Ob.aCons, Ob.eTup, Ob.mkT, Ob.lLst, Ob.eL, Ob.mkL, Ob.eCall, Ob.pyAll, Ob.pE, Ob.pL, Ob.pT, Ob.pv, Ob.pvS, Ob.eIx, Ob.ixD, Ob.D.lst?, Ob.D.tup?, Ob.lLc, Ob.lcD, Ob.wipeE, Ob.pYes, Ob.sNext, Ob.fnO, Ob.entry, Ob.goE, Ob.goL, Ob.goN, Ob.eG, Ob.lG, Ob.eP, Ob.eFld, Ob.fld, Ob.sFld, Ob.setFld, Ob.putD, Ob.sFldAug, Ob.clsOf, Ob.eMeth, Ob.eMeth0, Ob.eProp, Ob.eMake, Ob.eMakeK, Ob.made, Ob.eSup, Ob.eSup0, Ob.eSupK, Ob.Mr.list, Ob.eIsC, Ob.isC, Ob.sRaise, Ob.eLenSet, Ob.lenSet, List.lookup_cons, List.lookup_nil, Bool.false_eq_true, List.set_set, beq_self_eq_true, Option.isNone_none, Option.map_none, Option.bind_none]
  unfold Ob.fnO
  rw [show Ob.entry 11 [Ob.D.py (.list (ds.map .int)), .py (.list (zs.map .str)), .py (.list rsl)] = [V (.py (.list (ds.map .int))), V (.py (.list (zs.map .str))), V (.py (.list rsl)), none, none, none, none, none, none, none, none] from rfl, hb]
end Lw

namespace Lw
open PySem L2 Fi
/-! ### law k11: moves -/
def lvl (es : List Ev) (z : Str) : Int := ((es.find? fun e => decide (e.nm = z)).map (·.h)).getD 0
theorem lvl_mem : ∀ {es : List Ev} {e : Ev}, e ∈ es → (es.map (·.nm)).Nodup → lvl es e.nm = e.h
  | x :: es, e, he, hd => by
    rw [List.map_cons, List.nodup_cons] at hd
    rcases List.mem_cons.mp he with rfl | he
    · simp [lvl]
    · have hne : x.nm ≠ e.nm := fun z => hd.1 (List.mem_map.mpr ⟨e, he, z.symm⟩)
      have ih := lvl_mem he hd.2
      unfold lvl at *
      rw [List.find?_cons_of_neg (by simp [hne])]
      exact ih
structure Mv (st : Ob.Stor) (p : Nat) (zs : List Str) (es : List Ev) : Prop where
  R : Row st es
  p : st[p]? = some (oP es 0)
  z : (es.map (·.nm)).Perm zs
  tb : st[0]? = some (.tab "law")
theorem Mv.mem {st : Ob.Stor} {p : Nat} {zs : List Str} {es : List Ev} (M : Mv st p zs es) {z : Str} (h : z ∈ zs) : ∃ e ∈ es, e.nm = z := mem_nm (M.z.mem_iff.mpr h)
theorem Mv.len {st : Ob.Stor} {p : Nat} {zs : List Str} {es : List Ev} (M : Mv st p zs es) : es.length = zs.length := by
  have := M.z.length_eq
  rwa [List.length_map] at this
theorem Mv.move {st : Ob.Stor} {p k : Nat} {zs : List Str} {es : List Ev} {e : Ev} (M : Mv st p zs es) (he : e ∈ es) : Mv (st.set p (oP (mvE e k es) 0)) p zs (mvE e k es) := by
  have hp := row_plan M.R.ok M.p
  have pm := mv_perm k he M.R.nn
  exact ⟨(M.R.setP (fs := []) hp).perm pm, set_get M.p, (pm.map _).trans M.z, by rw [set_ne fun z => by have := M.p; rw [z, M.tb] at this; cases this]; exact M.tb⟩
theorem Mv.app {st : Ob.Stor} {p : Nat} {zs : List Str} {es : List Ev} {l : List Ob.Oj} (M : Mv st p zs es) : Mv (st ++ l) p zs es := ⟨M.R.appL, getL M.p, M.z, getL M.tb⟩
section
variable {st : Ob.Stor} {p : Nat} {zs : List Str} {es : List Ev} {x0 x1 x2 x3 x4 x5 x6 x7 x8 x9 x10 x11 x12 x13 x14 : Option Ob.Sl} {z : Str}
theorem lc_rest : ∀ {ys : List Str}, Ob.lcD (Ob.gSet 13) (Ob.pT (asB (e2 fNe (eVar 13) (eVar 7)))) (Ob.pE (eVar 13)) [x0, x1, x2, x3, x4, x5, x6, V (cT z), x8, x9, x10, x11, x12, none, x14] ((ys.map PyData.str).map Ob.D.py) st = some (((ys.filter fun y => decide (y ≠ z)).map PyData.str).map Ob.D.py, st)
  | [] => rfl
  | y :: ys => by
    have ih := lc_rest (ys := ys)
    rw [List.map_cons, List.map_cons, Ob.lcD]
    show (Option.bind (some [x0, x1, x2, x3, x4, x5, x6, V (cT z), x8, x9, x10, x11, x12, V (cT y), x14]) _) = _
    rw [Option.bind_some]
    by_cases q : y = z
    · have e1 : Ob.pT (asB (e2 fNe (eVar 13) (eVar 7))) [x0, x1, x2, x3, x4, x5, x6, V (cT z), x8, x9, x10, x11, x12, V (cT y), x14] st = some (.ok false st) := by simp only [sSeq, sSet, sOwn, sPar, sParL,  sIf, sRet, sRetL, sRetO, sDrop, sAug, sApp, sFrz, frz, sAsg, gSet, gsNil, gsCons, gTupF, Fi.gSub, sFor, iL, iT, iR1, iR2, iZ, iEn, itemsK, eVar, eC, Fi.e2, Fi.e1, asB, eChain, tAndF, tOrF, tNotF, eAnd, eOr, eNot, eIf, aNil, aCons, eTup, lLst, eL, eCall, lCall, eCallF, lCallF, eSlT, lSl, oNone, oSome, ownIx, ownLen, lLc, wipeE, pYes, sNext, fnD, entry, fAdd_int, fSub, fMul_l, fMul_r, fDiv_ok, fMod_ok, fPow_ok, fLt, fLe, fGt, fGe, fEq_int, fEq_str, fEq_bool, fNe_int, fNe_str, fNe_bool, isN, fIs, fIsNot, fIx, fNeg, fLen, fMin, fMax, fTuple, fList, fIntB, fSum, fAll, fAny, at_0, at_1, at_2, eT, eS, eStep, eR, getInts_map, Option.bind_some, Option.map_some, List.getElem?_cons_succ, List.getElem?_cons_zero, List.set_cons_succ, List.set_cons_zero, List.length_cons, List.length_nil, List.length_map, List.map_cons, List.map_nil, List.nil_append, List.cons_append, List.replicate, Nat.zero_add, Nat.reduceAdd, Nat.reduceSub, decide_true, decide_false, reduceIte, Nat.reduceLeDiff, Nat.reduceLT, Int.reduceLT, Int.reduceLE, Int.reduceNeg, Int.reducePow, and_self, or_self, and_true, true_and, or_true, true_or, Bool.not_true, Bool.not_false, pour_spend, spend_pour, Ob.sSeq, Ob.sSet, Ob.sOwn, Ob.sIf, Ob.sRet, Ob.sRetL, Ob.sRetO, Ob.sRetN, Ob.sDrop, Ob.sApp, Ob.sAug, Ob.sFrz, Ob.frz, Ob.sAsg, Ob.sPar, Ob.sE, Ob.bnd, Ob.lft, Ob.gSet, Ob.gsNil, Ob.gsCons, Ob.gTup, Ob.gLst, Ob.sFor, Ob.iL, Ob.iT, Ob.eVar, Ob.e2, Ob.op2, Ob.asB, Ob.truD, Ob.eChain, Ob.tAndF, Ob.tOrF, Ob.tNotF, Ob.eAnd, Ob.eOr, Ob.eNot, Ob.eIf, Ob.aNil, Ob.aCons, Ob.eTup, Ob.mkT, Ob.lLst, Ob.eL, Ob.mkL, Ob.eCall, Ob.pyAll, Ob.pE, Ob.pL, Ob.pT, Ob.pv, Ob.pvS, Ob.eIx, Ob.ixD, Ob.D.lst?, Ob.D.tup?, Ob.lLc, Ob.lcD, Ob.wipeE, Ob.pYes, Ob.sNext, Ob.fnO, Ob.entry, Ob.goE, Ob.goL, Ob.goN, Ob.eG, Ob.lG, Ob.eP, Ob.eFld, Ob.fld, Ob.sFld, Ob.setFld, Ob.putD, Ob.sFldAug, Ob.clsOf, Ob.eMeth, Ob.eMeth0, Ob.eProp, Ob.eMake, Ob.eMakeK, Ob.made, Ob.eSup, Ob.eSup0, Ob.eSupK, Ob.Mr.list, Ob.eIsC, Ob.isC, Ob.sRaise, Ob.eLenSet, Ob.lenSet, List.lookup_cons, List.lookup_nil, Bool.false_eq_true, List.set_set, beq_self_eq_true, Option.isNone_none, Option.map_none, Option.bind_none, q]
      rw [e1]
      dsimp only
      rw [ih, List.filter_cons_of_neg (by simp [q])]
    · have e1 : Ob.pT (asB (e2 fNe (eVar 13) (eVar 7))) [x0, x1, x2, x3, x4, x5, x6, V (cT z), x8, x9, x10, x11, x12, V (cT y), x14] st = some (.ok true st) := by simp only [sSeq, sSet, sOwn, sPar, sParL,  sIf, sRet, sRetL, sRetO, sDrop, sAug, sApp, sFrz, frz, sAsg, gSet, gsNil, gsCons, gTupF, Fi.gSub, sFor, iL, iT, iR1, iR2, iZ, iEn, itemsK, eVar, eC, Fi.e2, Fi.e1, asB, eChain, tAndF, tOrF, tNotF, eAnd, eOr, eNot, eIf, aNil, aCons, eTup, lLst, eL, eCall, lCall, eCallF, lCallF, eSlT, lSl, oNone, oSome, ownIx, ownLen, lLc, wipeE, pYes, sNext, fnD, entry, fAdd_int, fSub, fMul_l, fMul_r, fDiv_ok, fMod_ok, fPow_ok, fLt, fLe, fGt, fGe, fEq_int, fEq_str, fEq_bool, fNe_int, fNe_str, fNe_bool, isN, fIs, fIsNot, fIx, fNeg, fLen, fMin, fMax, fTuple, fList, fIntB, fSum, fAll, fAny, at_0, at_1, at_2, eT, eS, eStep, eR, getInts_map, Option.bind_some, Option.map_some, List.getElem?_cons_succ, List.getElem?_cons_zero, List.set_cons_succ, List.set_cons_zero, List.length_cons, List.length_nil, List.length_map, List.map_cons, List.map_nil, List.nil_append, List.cons_append, List.replicate, Nat.zero_add, Nat.reduceAdd, Nat.reduceSub, decide_true, decide_false, reduceIte, Nat.reduceLeDiff, Nat.reduceLT, Int.reduceLT, Int.reduceLE, Int.reduceNeg, Int.reducePow, and_self, or_self, and_true, true_and, or_true, true_or, Bool.not_true, Bool.not_false, pour_spend, spend_pour, Ob.sSeq, Ob.sSet, Ob.sOwn, Ob.sIf, Ob.sRet, Ob.sRetL, Ob.sRetO, Ob.sRetN, Ob.sDrop, Ob.sApp, Ob.sAug, Ob.sFrz, Ob.frz, Ob.sAsg, Ob.sPar, Ob.sE, Ob.bnd, Ob.lft, Ob.gSet, Ob.gsNil, Ob.gsCons, Ob.gTup, Ob.gLst, Ob.sFor, Ob.iL, Ob.iT, Ob.eVar, Ob.e2, Ob.op2, Ob.asB, Ob.truD, Ob.eChain, Ob.tAndF, Ob.tOrF, Ob.tNotF, Ob.eAnd, Ob.eOr, Ob.eNot, Ob.eIf, Ob.aNil, Ob.aCons, Ob.eTup, Ob.mkT, Ob.lLst, Ob.eL, Ob.mkL, Ob.eCall, Ob.pyAll, Ob.pE, Ob.pL, Ob.pT, Ob.pv, Ob.pvS, Ob.eIx, Ob.ixD, Ob.D.lst?, Ob.D.tup?, Ob.lLc, Ob.lcD, Ob.wipeE, Ob.pYes, Ob.sNext, Ob.fnO, Ob.entry, Ob.goE, Ob.goL, Ob.goN, Ob.eG, Ob.lG, Ob.eP, Ob.eFld, Ob.fld, Ob.sFld, Ob.setFld, Ob.putD, Ob.sFldAug, Ob.clsOf, Ob.eMeth, Ob.eMeth0, Ob.eProp, Ob.eMake, Ob.eMakeK, Ob.made, Ob.eSup, Ob.eSup0, Ob.eSupK, Ob.Mr.list, Ob.eIsC, Ob.isC, Ob.sRaise, Ob.eLenSet, Ob.lenSet, List.lookup_cons, List.lookup_nil, Bool.false_eq_true, List.set_set, beq_self_eq_true, Option.isNone_none, Option.map_none, Option.bind_none, q]
      rw [e1]
      dsimp only
      rw [show Ob.pE (eVar 13) [x0, x1, x2, x3, x4, x5, x6, V (cT z), x8, x9, x10, x11, x12, V (cT y), x14] st = some (.ok (cT y) st) from rfl]
      dsimp only
      rw [ih, List.filter_cons_of_pos (by simp [q])]
      rfl
def prs (es : List Ev) (ys : List Str) : List PyData := ys.map fun y => .tuple [.str y, .int (lvl es y)]
theorem lc_before (M : Mv st p zs es) : ∀ {ys : List Str}, (∀ y ∈ ys, y ∈ zs) → Ob.lcD (Ob.gSet 13) Ob.pYes (Ob.eTup (Ob.aCons (Ob.pE (eVar 13)) (Ob.aCons (Ob.eProp [("Envelope", F_Envelope_level)] (Ob.eMeth [("Plan", F_Plan_envelope)] "envelope" 1 (Ob.eVar 2) (Ob.pL (aCons (eVar 13) aNil)))) Ob.aNil))) [x0, x1, V (.obj p), x3, x4, x5, x6, x7, x8, x9, x10, x11, x12, none, x14] ((ys.map PyData.str).map Ob.D.py) st = some ((prs es ys).map Ob.D.py, st)
  | [], _ => rfl
  | y :: ys, h => by
    have ih := lc_before M (ys := ys) fun w hw => h w (List.mem_cons_of_mem _ hw)
    obtain ⟨e, he, rfl⟩ := M.mem (h y (List.mem_cons_self ..))
    have k1 := mv_pick (F := F_Plan_envelope) M.p
    have k2 := penv_ok M.R.ok M.p M.R.nn he
    have k3 := kpick (F := F_Envelope_level) (M.R.ok e he).2
    have k4 := klev (M.R.ok e he).2
    rw [List.map_cons, List.map_cons, show prs es (e.nm :: ys) = .tuple [.str e.nm, .int e.h] :: prs es ys by unfold prs; rw [List.map_cons, lvl_mem he M.R.nn], List.map_cons]
    exact lcD_yes (s1 := st) (e1 := [x0, x1, V (.obj p), x3, x4, x5, x6, x7, x8, x9, x10, x11, x12, V (cT e.nm), x14]) rfl (by simp only [sSeq, sSet, sOwn, sPar, sParL,  sIf, sRet, sRetL, sRetO, sDrop, sAug, sApp, sFrz, frz, sAsg, gSet, gsNil, gsCons, gTupF, Fi.gSub, sFor, iL, iT, iR1, iR2, iZ, iEn, itemsK, eVar, eC, Fi.e2, Fi.e1, asB, eChain, tAndF, tOrF, tNotF, eAnd, eOr, eNot, eIf, aNil, aCons, eTup, lLst, eL, eCall, lCall, eCallF, lCallF, eSlT, lSl, oNone, oSome, ownIx, ownLen, lLc, wipeE, pYes, sNext, fnD, entry, fAdd_int, fSub, fMul_l, fMul_r, fDiv_ok, fMod_ok, fPow_ok, fLt, fLe, fGt, fGe, fEq_int, fEq_str, fEq_bool, fNe_int, fNe_str, fNe_bool, isN, fIs, fIsNot, fIx, fNeg, fLen, fMin, fMax, fTuple, fList, fIntB, fSum, fAll, fAny, at_0, at_1, at_2, eT, eS, eStep, eR, getInts_map, Option.bind_some, Option.map_some, List.getElem?_cons_succ, List.getElem?_cons_zero, List.set_cons_succ, List.set_cons_zero, List.length_cons, List.length_nil, List.length_map, List.map_cons, List.map_nil, List.nil_append, List.cons_append, List.replicate, Nat.zero_add, Nat.reduceAdd, Nat.reduceSub, decide_true, decide_false, reduceIte, Nat.reduceLeDiff, Nat.reduceLT, Int.reduceLT, Int.reduceLE, Int.reduceNeg, Int.reducePow, and_self, or_self, and_true, true_and, or_true, true_or, Bool.not_true, Bool.not_false, pour_spend, spend_pour, Ob.sSeq, Ob.sSet, Ob.sOwn, Ob.sIf, Ob.sRet, Ob.sRetL, Ob.sRetO, Ob.sRetN, Ob.sDrop, Ob.sApp, Ob.sAug, Ob.sFrz, Ob.frz, Ob.sAsg, Ob.sPar, Ob.sE, Ob.bnd, Ob.lft, Ob.gSet, Ob.gsNil, Ob.gsCons, Ob.gTup, Ob.gLst, Ob.sFor, Ob.iL, Ob.iT, Ob.eVar, Ob.e2, Ob.op2, Ob.asB, Ob.truD, Ob.eChain, Ob.tAndF, Ob.tOrF, Ob.tNotF, Ob.eAnd, Ob.eOr, Ob.eNot, Ob.eIf, Ob.aNil, Ob.aCons, Ob.eTup, Ob.mkT, Ob.lLst, Ob.eL, Ob.mkL, Ob.eCall, Ob.pyAll, Ob.pE, Ob.pL, Ob.pT, Ob.pv, Ob.pvS, Ob.eIx, Ob.ixD, Ob.D.lst?, Ob.D.tup?, Ob.lLc, Ob.lcD, Ob.wipeE, Ob.pYes, Ob.sNext, Ob.fnO, Ob.entry, Ob.goE, Ob.goL, Ob.goN, Ob.eG, Ob.lG, Ob.eP, Ob.eFld, Ob.fld, Ob.sFld, Ob.setFld, Ob.putD, Ob.sFldAug, Ob.clsOf, Ob.eMeth, Ob.eMeth0, Ob.eProp, Ob.eMake, Ob.eMakeK, Ob.made, Ob.eSup, Ob.eSup0, Ob.eSupK, Ob.Mr.list, Ob.eIsC, Ob.isC, Ob.sRaise, Ob.eLenSet, Ob.lenSet, List.lookup_cons, List.lookup_nil, Bool.false_eq_true, List.set_set, beq_self_eq_true, Option.isNone_none, Option.map_none, Option.bind_none, k1, k2, k3, k4]) ih
theorem prs_D : ∀ ys : List Str, Ob.prsD (prs es ys) = some (ys.map fun y => (y, PyData.int (lvl es y)))
  | [] => rfl
  | y :: ys => by
    show (Ob.prsD (prs es ys)).map _ = _
    rw [prs_D ys]
    rfl
theorem look_prs {v : Str → Int} {y : Str} : ∀ {ys : List Str}, y ∈ ys → (ys.map fun y => ((y, cI (v y)) : Str × Ob.D)).lookup y = some (cI (v y))
  | w :: ys, h => by
    rw [List.map_cons, List.lookup_cons]
    by_cases q : y = w
    · subst q
      simp
    · have : (y == w) = false := by rw [beq_eq_false_iff_ne]; exact q
      rw [this]
      rcases List.mem_cons.mp h with h | h
      · exact absurd h q
      · exact look_prs h
theorem lc_get {b : Nat} {v : Str → Int} (hb : st[b]? = some (.dct (zs.map fun y => ((y, cI (v y)) : Str × Ob.D)))) : ∀ {ys : List Str}, (∀ y ∈ ys, y ∈ zs) → Ob.lcD (Ob.gSet 13) Ob.pYes (Ob.eDGet (Ob.eVar 11) (Ob.pE (eVar 13))) [x0, x1, x2, x3, x4, x5, x6, x7, x8, x9, x10, V (.obj b), x12, none, x14] ((ys.map PyData.str).map Ob.D.py) st = some (((ys.map v).map PyData.int).map Ob.D.py, st)
  | [], _ => rfl
  | y :: ys, h => by
    have ih := lc_get hb (ys := ys) fun w hw => h w (List.mem_cons_of_mem _ hw)
    have l := look_prs (v := v) (h y (List.mem_cons_self ..))
    rw [List.map_cons, List.map_cons, List.map_cons, List.map_cons, List.map_cons]
    exact lcD_yes (s1 := st) (e1 := [x0, x1, x2, x3, x4, x5, x6, x7, x8, x9, x10, V (.obj b), x12, V (cT y), x14]) rfl (by generalize (zs.map fun y => ((y, cI (v y)) : Str × Ob.D)) = dk at *; simp only [sSeq, sSet, sOwn, sPar, sParL,  sIf, sRet, sRetL, sRetO, sDrop, sAug, sApp, sFrz, frz, sAsg, gSet, gsNil, gsCons, gTupF, Fi.gSub, sFor, iL, iT, iR1, iR2, iZ, iEn, itemsK, eVar, eC, Fi.e2, Fi.e1, asB, eChain, tAndF, tOrF, tNotF, eAnd, eOr, eNot, eIf, aNil, aCons, eTup, lLst, eL, eCall, lCall, eCallF, lCallF, eSlT, lSl, oNone, oSome, ownIx, ownLen, lLc, wipeE, pYes, sNext, fnD, entry, fAdd_int, fSub, fMul_l, fMul_r, fDiv_ok, fMod_ok, fPow_ok, fLt, fLe, fGt, fGe, fEq_int, fEq_str, fEq_bool, fNe_int, fNe_str, fNe_bool, isN, fIs, fIsNot, fIx, fNeg, fLen, fMin, fMax, fTuple, fList, fIntB, fSum, fAll, fAny, at_0, at_1, at_2, eT, eS, eStep, eR, getInts_map, Option.bind_some, Option.map_some, List.getElem?_cons_succ, List.getElem?_cons_zero, List.set_cons_succ, List.set_cons_zero, List.length_cons, List.length_nil, List.length_map, List.map_cons, List.map_nil, List.nil_append, List.cons_append, List.replicate, Nat.zero_add, Nat.reduceAdd, Nat.reduceSub, decide_true, decide_false, reduceIte, Nat.reduceLeDiff, Nat.reduceLT, Int.reduceLT, Int.reduceLE, Int.reduceNeg, Int.reducePow, and_self, or_self, and_true, true_and, or_true, true_or, Bool.not_true, Bool.not_false, pour_spend, spend_pour, Ob.sSeq, Ob.sSet, Ob.sOwn, Ob.sIf, Ob.sRet, Ob.sRetL, Ob.sRetO, Ob.sRetN, Ob.sDrop, Ob.sApp, Ob.sAug, Ob.sFrz, Ob.frz, Ob.sAsg, Ob.sPar, Ob.sE, Ob.bnd, Ob.lft, Ob.gSet, Ob.gsNil, Ob.gsCons, Ob.gTup, Ob.gLst, Ob.sFor, Ob.iL, Ob.iT, Ob.eVar, Ob.e2, Ob.op2, Ob.asB, Ob.truD, Ob.eChain, Ob.tAndF, Ob.tOrF, Ob.tNotF, Ob.eAnd, Ob.eOr, Ob.eNot, Ob.eIf, Ob.aNil, Ob.aCons, Ob.eTup, Ob.mkT, Ob.lLst, Ob.eL, Ob.mkL, Ob.eCall, Ob.pyAll, Ob.pE, Ob.pL, Ob.pT, Ob.pv, Ob.pvS, Ob.eIx, Ob.ixD, Ob.D.lst?, Ob.D.tup?, Ob.lLc, Ob.lcD, Ob.wipeE, Ob.pYes, Ob.sNext, Ob.fnO, Ob.entry, Ob.goE, Ob.goL, Ob.goN, Ob.eG, Ob.lG, Ob.eP, Ob.eFld, Ob.fld, Ob.sFld, Ob.setFld, Ob.putD, Ob.sFldAug, Ob.clsOf, Ob.eMeth, Ob.eMeth0, Ob.eProp, Ob.eMake, Ob.eMakeK, Ob.made, Ob.eSup, Ob.eSup0, Ob.eSupK, Ob.Mr.list, Ob.eIsC, Ob.isC, Ob.sRaise, Ob.eLenSet, Ob.lenSet, List.lookup_cons, List.lookup_nil, Bool.false_eq_true, List.set_set, beq_self_eq_true, Option.isNone_none, Option.map_none, Option.bind_none, Ob.eDGet, hb, l]) ih
end
end Lw

namespace Lw
open PySem L2 Fi
theorem if_ne {f : Ob.F Ob.D} {g : FE} {A : Ob.FS} {env : Ob.En} {st : Ob.Stor} {t t' : PyData} (td : f env st = some (.ok (.py t) st)) (hg : Ob.pE g env st = some (.ok (.py t') st)) (hn : fNe t t' = some (.bool false)) : Ob.sIf (Ob.asB (Ob.e2 fNe f (Ob.pE g))) A Ob.sNext env st = some (.next env st) := by
  unfold Ob.sIf Ob.sE Ob.asB Ob.e2 Ob.bnd
  simp only [td, hg, Ob.bnd, Ob.lft, Ob.op2, hn, Option.map_some, Ob.truD, Bool.false_eq_true, if_false]
  rfl
theorem told_err {f : Ob.F Ob.D} {env : Ob.En} {st : Ob.Stor} {T : List (Str × Str)} {er du : Str} (ht : st[0]? = some (.tab "law")) (e3 : f env st = some (.err er st)) (tl : T.lookup er = some du) : Ht.eTold 0 "law" T f env st = some (.ok (.py (.tuple [.none, .str du])) st) := by
  unfold Ht.eTold
  rw [ht]
  simp only [if_true, e3, tl, Option.map_some]
theorem oth_nm {z : Str} : ∀ es : List Ev, (oth z es).map (·.nm) = (es.map (·.nm)).filter fun y => decide (y ≠ z)
  | [] => rfl
  | e :: es => by
    have ih := oth_nm (z := z) es
    unfold oth at *
    rw [List.map_cons]
    by_cases q : e.nm = z
    · rw [List.filter_cons_of_neg (by simp [q]), List.filter_cons_of_neg (by simp [q]), ih]
    · rw [List.filter_cons_of_pos (by simp [q]), List.filter_cons_of_pos (by simp [q]), List.map_cons, ih]
theorem bq_UnknownEnvelope_InvalidPlace : (("UnknownEnvelope" : Str) == "InvalidPlace") = false := by decide +kernel
theorem qe_UnknownEnvelope_InvalidPlace : (("UnknownEnvelope" : Str) = "InvalidPlace") = False := eq_false (by decide +kernel)
abbrev E11 (x0 x1 : Option Ob.Sl) (p : Nat) (dsl zsl : List PyData) (x5 : Option Ob.Sl) (k : Nat) (r : List (Option Ob.Sl)) : List (Option Ob.Sl) := x0 :: x1 :: V (.obj p) :: V (.py (.list dsl)) :: V (.py (.list zsl)) :: x5 :: V (cI k) :: r
section
variable {x0 x1 x5 : Option Ob.Sl} {p k : Nat} {zs : List Str}
theorem odd_loop {st : Ob.Stor} {es : List Ev} {dsl zsl : List PyData} {e : Ev} {x8 x9 x10 x11 x13 x14 : Option Ob.Sl} (M : Mv st p zs es) (he : e ∈ es) : ∀ (vs : List PyData) (x12 : Option Ob.Sl), (∀ v ∈ vs, atm v = true ∧ isI v 0 ((es.length : Int) - 1) = false) →
    ∃ y12, Ob.forD (Ob.gSet 12) lp_law_1 (vs.map Ob.D.py) (E11 x0 x1 p dsl zsl x5 k [V (cT e.nm), x8, x9, x10, x11, x12, x13, x14]) st = some (.next (E11 x0 x1 p dsl zsl x5 k [V (cT e.nm), x8, x9, x10, x11, y12, x13, x14]) st)
  | [], x12, _ => ⟨x12, rfl⟩
  | v :: vs, x12, h => by
    obtain ⟨h1, h2⟩ := h v (List.mem_cons_self ..)
    obtain ⟨y12, ih⟩ := odd_loop (dsl := dsl) (zsl := zsl) (x8 := x8) (x9 := x9) (x10 := x10) (x11 := x11) (x13 := x13) (x14 := x14) M he vs (V (.py v)) fun w hw => h w (List.mem_cons_of_mem _ hw)
    have b1 := move_bad M.R M.p he h1 h2
    have k1 := pmv_pick (F := F_Plan_move) M.p
    have e3 : Ob.eMeth [("Plan", F_Plan_move)] "move" 2 (Ob.eVar 2) (Ob.pL (aCons (eVar 7) (aCons (eVar 12) aNil))) (E11 x0 x1 p dsl zsl x5 k [V (cT e.nm), x8, x9, x10, x11, V (.py v), x13, x14]) st = some (.err "InvalidPlace" st) := by simp only [sSeq, sSet, sOwn, sPar, sParL,  sIf, sRet, sRetL, sRetO, sDrop, sAug, sApp, sFrz, frz, sAsg, gSet, gsNil, gsCons, gTupF, Fi.gSub, sFor, iL, iT, iR1, iR2, iZ, iEn, itemsK, eVar, eC, Fi.e2, Fi.e1, asB, eChain, tAndF, tOrF, tNotF, eAnd, eOr, eNot, eIf, aNil, aCons, eTup, lLst, eL, eCall, lCall, eCallF, lCallF, eSlT, lSl, oNone, oSome, ownIx, ownLen, lLc, wipeE, pYes, sNext, fnD, entry, fAdd_int, fSub, fMul_l, fMul_r, fDiv_ok, fMod_ok, fPow_ok, fLt, fLe, fGt, fGe, fEq_int, fEq_str, fEq_bool, fNe_int, fNe_str, fNe_bool, isN, fIs, fIsNot, fIx, fNeg, fLen, fMin, fMax, fTuple, fList, fIntB, fSum, fAll, fAny, at_0, at_1, at_2, eT, eS, eStep, eR, getInts_map, Option.bind_some, Option.map_some, List.getElem?_cons_succ, List.getElem?_cons_zero, List.set_cons_succ, List.set_cons_zero, List.length_cons, List.length_nil, List.length_map, List.map_cons, List.map_nil, List.nil_append, List.cons_append, List.replicate, Nat.zero_add, Nat.reduceAdd, Nat.reduceSub, decide_true, decide_false, reduceIte, Nat.reduceLeDiff, Nat.reduceLT, Int.reduceLT, Int.reduceLE, Int.reduceNeg, Int.reducePow, and_self, or_self, and_true, true_and, or_true, true_or, Bool.not_true, Bool.not_false, pour_spend, spend_pour, Ob.sSeq, Ob.sSet, Ob.sOwn, Ob.sIf, Ob.sRet, Ob.sRetL, Ob.sRetO, Ob.sRetN, Ob.sDrop, Ob.sApp, Ob.sAug, Ob.sFrz, Ob.frz, Ob.sAsg, Ob.sPar, Ob.sE, Ob.bnd, Ob.lft, Ob.gSet, Ob.gsNil, Ob.gsCons, Ob.gTup, Ob.gLst, Ob.sFor, Ob.iL, Ob.iT, Ob.eVar, Ob.e2, Ob.op2, Ob.asB, Ob.truD, Ob.eChain, Ob.tAndF, Ob.tOrF, Ob.tNotF, Ob.eAnd, Ob.eOr, Ob.eNot, Ob.eIf, Ob.aNil, Ob.aCons, Ob.eTup, Ob.mkT, Ob.lLst, Ob.eL, Ob.mkL, Ob.eCall, Ob.pyAll, Ob.pE, Ob.pL, Ob.pT, Ob.pv, Ob.pvS, Ob.eIx, Ob.ixD, Ob.D.lst?, Ob.D.tup?, Ob.lLc, Ob.lcD, Ob.wipeE, Ob.pYes, Ob.sNext, Ob.fnO, Ob.entry, Ob.goE, Ob.goL, Ob.goN, Ob.eG, Ob.lG, Ob.eP, Ob.eFld, Ob.fld, Ob.sFld, Ob.setFld, Ob.putD, Ob.sFldAug, Ob.clsOf, Ob.eMeth, Ob.eMeth0, Ob.eProp, Ob.eMake, Ob.eMakeK, Ob.made, Ob.eSup, Ob.eSup0, Ob.eSupK, Ob.Mr.list, Ob.eIsC, Ob.isC, Ob.sRaise, Ob.eLenSet, Ob.lenSet, List.lookup_cons, List.lookup_nil, Bool.false_eq_true, List.set_set, beq_self_eq_true, Option.isNone_none, Option.map_none, Option.bind_none, k1, b1]
    have e1 : lp_law_1 (E11 x0 x1 p dsl zsl x5 k [V (cT e.nm), x8, x9, x10, x11, V (.py v), x13, x14]) st = some (.next (E11 x0 x1 p dsl zsl x5 k [V (cT e.nm), x8, x9, x10, x11, V (.py v), x13, x14]) st) := by
      unfold lp_law_1 q_law_4
      exact if_ne (told_err (du := "place value") M.tb e3 (by simp only [List.lookup_cons, beq_self_eq_true])) rfl (fNe_self (shaped_T (by decide +kernel)))
    refine ⟨y12, ?_⟩
    rw [List.map_cons, Ob.forD]
    show (Option.bind (some (E11 x0 x1 p dsl zsl x5 k [V (cT e.nm), x8, x9, x10, x11, V (.py v), x13, x14])) _) = _
    rw [Option.bind_some, e1]
    exact ih
theorem mv_turn {st : Ob.Stor} {es : List Ev} {ds : List Int} (hds : ds.length = 90) (hk : k < 6) (hd : zs.Nodup) (h2 : 2 ≤ zs.length) (h6 : zs.length ≤ 6) (lay : ∀ z ∈ zs, PyData.canLay0 (.str z) = true) (hzoe : ("zoe" : Str) ∉ zs) (M : Mv st p zs es) (x7 x8 x9 x10 x11 x12 x13 x14 : Option Ob.Sl) :
    ∃ es' s' y7 y8 y9 y10 y11 y12 y13 y14, lp_law_2 (E11 x0 x1 p (ds.map .int) (zs.map .str) x5 k [x7, x8, x9, x10, x11, x12, x13, x14]) st = some (.next (E11 x0 x1 p (ds.map .int) (zs.map .str) x5 k [y7, y8, y9, y10, y11, y12, y13, y14]) s') ∧ Mv s' p zs es' := by
  have i0 := at_getZ (l := ds) (z := 20 + (k : Int)) (by omega) (by omega)
  have i1 := at_getZ (l := ds) (z := 30 + (k : Int)) (by omega) (by omega)
  generalize ds.getD (20 + (k : Int)).toNat 0 = v0 at i0
  generalize ds.getD (30 + (k : Int)).toNat 0 = v1 at i1
  have m0 : fMod (.int v0) (.int (zs.length : Int)) = some (.int (v0 % (zs.length : Int))) := fMod_ok (by omega)
  have m1 : fMod (.int v1) (.int (zs.length : Int)) = some (.int (v1 % (zs.length : Int))) := fMod_ok (by omega)
  have b0 := Int.emod_nonneg v0 (show (zs.length : Int) ≠ 0 by omega)
  have b1 := Int.emod_lt_of_pos v0 (show (0 : Int) < (zs.length : Int) by omega)
  have c0 := Int.emod_nonneg v1 (show (zs.length : Int) ≠ 0 by omega)
  have c1 := Int.emod_lt_of_pos v1 (show (0 : Int) < (zs.length : Int) by omega)
  obtain ⟨j, hj⟩ : ∃ j : Nat, v0 % (zs.length : Int) = j := ⟨(v0 % (zs.length : Int)).toNat, by omega⟩
  obtain ⟨m, hm⟩ : ∃ j : Nat, v1 % (zs.length : Int) = j := ⟨(v1 % (zs.length : Int)).toNat, by omega⟩
  rw [hj] at m0 b1
  rw [hm] at m1 c1
  have hjl : j < zs.length := by omega
  have a0 : atI (zs.map PyData.str) (j : Int) = some (.str zs[j]) := atI_nat (by rw [List.getElem?_map, List.getElem?_eq_getElem hjl]; rfl)
  obtain ⟨e, he, hen⟩ := M.mem (List.getElem_mem hjl)
  rw [← hen] at a0
  clear hen
  have zl : (zs.map PyData.str).length = zs.length := List.length_map ..
  have len := M.len
  have les : es.length < 100000 := by omega
  -- the rest
  have nm1 := pnames_ok M.R.ok les M.p
  have pn1 := ppickP (F := F_Plan_names) M.p
  have lc1 : lc_law_1 (E11 x0 x1 p (ds.map .int) (zs.map .str) x5 k [V (cT e.nm), x8, V (cI m), x10, x11, x12, x13, x14]) st = some (.ok ((((es.map (·.nm)).filter fun y => decide (y ≠ e.nm)).map PyData.str).map Ob.D.py) st) :=
    lLc_ok (ds := ((es.map fun e : Ev => e.nm).map PyData.str).map Ob.D.py) (s1 := st) (by generalize (es.map fun e : Ev => e.nm).map PyData.str = nl at *; simp only [sSeq, sSet, sOwn, sPar, sParL,  sIf, sRet, sRetL, sRetO, sDrop, sAug, sApp, sFrz, frz, sAsg, gSet, gsNil, gsCons, gTupF, Fi.gSub, sFor, iL, iT, iR1, iR2, iZ, iEn, itemsK, eVar, eC, Fi.e2, Fi.e1, asB, eChain, tAndF, tOrF, tNotF, eAnd, eOr, eNot, eIf, aNil, aCons, eTup, lLst, eL, eCall, lCall, eCallF, lCallF, eSlT, lSl, oNone, oSome, ownIx, ownLen, lLc, wipeE, pYes, sNext, fnD, entry, fAdd_int, fSub, fMul_l, fMul_r, fDiv_ok, fMod_ok, fPow_ok, fLt, fLe, fGt, fGe, fEq_int, fEq_str, fEq_bool, fNe_int, fNe_str, fNe_bool, isN, fIs, fIsNot, fIx, fNeg, fLen, fMin, fMax, fTuple, fList, fIntB, fSum, fAll, fAny, at_0, at_1, at_2, eT, eS, eStep, eR, getInts_map, Option.bind_some, Option.map_some, List.getElem?_cons_succ, List.getElem?_cons_zero, List.set_cons_succ, List.set_cons_zero, List.length_cons, List.length_nil, List.length_map, List.map_cons, List.map_nil, List.nil_append, List.cons_append, List.replicate, Nat.zero_add, Nat.reduceAdd, Nat.reduceSub, decide_true, decide_false, reduceIte, Nat.reduceLeDiff, Nat.reduceLT, Int.reduceLT, Int.reduceLE, Int.reduceNeg, Int.reducePow, and_self, or_self, and_true, true_and, or_true, true_or, Bool.not_true, Bool.not_false, pour_spend, spend_pour, Ob.sSeq, Ob.sSet, Ob.sOwn, Ob.sIf, Ob.sRet, Ob.sRetL, Ob.sRetO, Ob.sRetN, Ob.sDrop, Ob.sApp, Ob.sAug, Ob.sFrz, Ob.frz, Ob.sAsg, Ob.sPar, Ob.sE, Ob.bnd, Ob.lft, Ob.gSet, Ob.gsNil, Ob.gsCons, Ob.gTup, Ob.gLst, Ob.sFor, Ob.iL, Ob.iT, Ob.eVar, Ob.e2, Ob.op2, Ob.asB, Ob.truD, Ob.eChain, Ob.tAndF, Ob.tOrF, Ob.tNotF, Ob.eAnd, Ob.eOr, Ob.eNot, Ob.eIf, Ob.aNil, Ob.aCons, Ob.eTup, Ob.mkT, Ob.lLst, Ob.eL, Ob.mkL, Ob.eCall, Ob.pyAll, Ob.pE, Ob.pL, Ob.pT, Ob.pv, Ob.pvS, Ob.eIx, Ob.ixD, Ob.D.lst?, Ob.D.tup?, Ob.lLc, Ob.lcD, Ob.wipeE, Ob.pYes, Ob.sNext, Ob.fnO, Ob.entry, Ob.goE, Ob.goL, Ob.goN, Ob.eG, Ob.lG, Ob.eP, Ob.eFld, Ob.fld, Ob.sFld, Ob.setFld, Ob.putD, Ob.sFldAug, Ob.clsOf, Ob.eMeth, Ob.eMeth0, Ob.eProp, Ob.eMake, Ob.eMakeK, Ob.made, Ob.eSup, Ob.eSup0, Ob.eSupK, Ob.Mr.list, Ob.eIsC, Ob.isC, Ob.sRaise, Ob.eLenSet, Ob.lenSet, List.lookup_cons, List.lookup_nil, Bool.false_eq_true, List.set_set, beq_self_eq_true, Option.isNone_none, Option.map_none, Option.bind_none, pn1, nm1]) (by rw [List.length_map, List.length_map, List.length_map]; exact les) lc_rest
  -- before
  have lc2 : lc_law_2 (E11 x0 x1 p (ds.map .int) (zs.map .str) x5 k [V (cT e.nm), x8, V (cI m), V (.py (.list (((es.map (·.nm)).filter fun y => decide (y ≠ e.nm)).map PyData.str))), x11, x12, x13, x14]) st = some (.ok ((prs es zs).map Ob.D.py) st) := lLc_ok (ds := (zs.map PyData.str).map Ob.D.py) (s1 := st) (by generalize zs.map PyData.str = zl; generalize ds.map PyData.int = dl; simp only [sSeq, sSet, sOwn, sPar, sParL,  sIf, sRet, sRetL, sRetO, sDrop, sAug, sApp, sFrz, frz, sAsg, gSet, gsNil, gsCons, gTupF, Fi.gSub, sFor, iL, iT, iR1, iR2, iZ, iEn, itemsK, eVar, eC, Fi.e2, Fi.e1, asB, eChain, tAndF, tOrF, tNotF, eAnd, eOr, eNot, eIf, aNil, aCons, eTup, lLst, eL, eCall, lCall, eCallF, lCallF, eSlT, lSl, oNone, oSome, ownIx, ownLen, lLc, wipeE, pYes, sNext, fnD, entry, fAdd_int, fSub, fMul_l, fMul_r, fDiv_ok, fMod_ok, fPow_ok, fLt, fLe, fGt, fGe, fEq_int, fEq_str, fEq_bool, fNe_int, fNe_str, fNe_bool, isN, fIs, fIsNot, fIx, fNeg, fLen, fMin, fMax, fTuple, fList, fIntB, fSum, fAll, fAny, at_0, at_1, at_2, eT, eS, eStep, eR, getInts_map, Option.bind_some, Option.map_some, List.getElem?_cons_succ, List.getElem?_cons_zero, List.set_cons_succ, List.set_cons_zero, List.length_cons, List.length_nil, List.length_map, List.map_cons, List.map_nil, List.nil_append, List.cons_append, List.replicate, Nat.zero_add, Nat.reduceAdd, Nat.reduceSub, decide_true, decide_false, reduceIte, Nat.reduceLeDiff, Nat.reduceLT, Int.reduceLT, Int.reduceLE, Int.reduceNeg, Int.reducePow, and_self, or_self, and_true, true_and, or_true, true_or, Bool.not_true, Bool.not_false, pour_spend, spend_pour, Ob.sSeq, Ob.sSet, Ob.sOwn, Ob.sIf, Ob.sRet, Ob.sRetL, Ob.sRetO, Ob.sRetN, Ob.sDrop, Ob.sApp, Ob.sAug, Ob.sFrz, Ob.frz, Ob.sAsg, Ob.sPar, Ob.sE, Ob.bnd, Ob.lft, Ob.gSet, Ob.gsNil, Ob.gsCons, Ob.gTup, Ob.gLst, Ob.sFor, Ob.iL, Ob.iT, Ob.eVar, Ob.e2, Ob.op2, Ob.asB, Ob.truD, Ob.eChain, Ob.tAndF, Ob.tOrF, Ob.tNotF, Ob.eAnd, Ob.eOr, Ob.eNot, Ob.eIf, Ob.aNil, Ob.aCons, Ob.eTup, Ob.mkT, Ob.lLst, Ob.eL, Ob.mkL, Ob.eCall, Ob.pyAll, Ob.pE, Ob.pL, Ob.pT, Ob.pv, Ob.pvS, Ob.eIx, Ob.ixD, Ob.D.lst?, Ob.D.tup?, Ob.lLc, Ob.lcD, Ob.wipeE, Ob.pYes, Ob.sNext, Ob.fnO, Ob.entry, Ob.goE, Ob.goL, Ob.goN, Ob.eG, Ob.lG, Ob.eP, Ob.eFld, Ob.fld, Ob.sFld, Ob.setFld, Ob.putD, Ob.sFldAug, Ob.clsOf, Ob.eMeth, Ob.eMeth0, Ob.eProp, Ob.eMake, Ob.eMakeK, Ob.made, Ob.eSup, Ob.eSup0, Ob.eSupK, Ob.Mr.list, Ob.eIsC, Ob.isC, Ob.sRaise, Ob.eLenSet, Ob.lenSet, List.lookup_cons, List.lookup_nil, Bool.false_eq_true, List.set_set, beq_self_eq_true, Option.isNone_none, Option.map_none, Option.bind_none]) (by rw [List.length_map, List.length_map]; omega) (lc_before M fun _ h => h)
  have pd := prs_D (es := es) zs
  have ndk : ((zs.map fun y => (y, PyData.int (lvl es y))).map (·.1)).Nodup := by
    rw [List.map_map]
    have : (fun x : Str × PyData => x.1) ∘ (fun y => (y, PyData.int (lvl es y))) = id := rfl
    rw [this, List.map_id]
    exact hd
  have M1 := M.app (l := [.dct (zs.map fun y => ((y, cI (lvl es y)) : Str × Ob.D))])
  have hb : (st ++ [Ob.Oj.dct (zs.map fun y => ((y, cI (lvl es y)) : Str × Ob.D))])[st.length]? = some (.dct (zs.map fun y => ((y, cI (lvl es y)) : Str × Ob.D))) := app_get
  have hpb : p ≠ st.length := by have := get_lt M.p; omega
  have dmap : (zs.map fun y => (y, PyData.int (lvl es y))).map (fun q => ((q.1, Ob.D.py q.2) : Str × Ob.D)) = zs.map fun y => ((y, cI (lvl es y)) : Str × Ob.D) := by rw [List.map_map]; rfl
  have s4 : Ob.sSet 11 (Ob.eDict (Ob.eL lc_law_2)) (E11 x0 x1 p (ds.map .int) (zs.map .str) x5 k [V (cT e.nm), x8, V (cI m), V (.py (.list (((es.map (·.nm)).filter fun y => decide (y ≠ e.nm)).map PyData.str))), x11, x12, x13, x14]) st = some (.next (E11 x0 x1 p (ds.map .int) (zs.map .str) x5 k [V (cT e.nm), x8, V (cI m), V (.py (.list (((es.map (·.nm)).filter fun y => decide (y ≠ e.nm)).map PyData.str))), V (.obj st.length), x12, x13, x14]) (st ++ [.dct (zs.map fun y => ((y, cI (lvl es y)) : Str × Ob.D))])) := by
    have e1 : Ob.eDict (Ob.eL lc_law_2) (E11 x0 x1 p (ds.map .int) (zs.map .str) x5 k [V (cT e.nm), x8, V (cI m), V (.py (.list (((es.map (·.nm)).filter fun y => decide (y ≠ e.nm)).map PyData.str))), x11, x12, x13, x14]) st = some (.ok (.obj st.length) (st ++ [.dct (zs.map fun y => ((y, cI (lvl es y)) : Str × Ob.D))])) := by
      unfold Ob.eDict Ob.eL Ob.bnd
      simp only [lc2, Ob.bnd, Ob.lft, Option.map_some, Ob.mkL_py, pd, Option.bind_some, ndk, if_true, dmap]
    unfold Ob.sSet Ob.sE
    rw [e1]
    rfl
  generalize hst1 : st ++ [Ob.Oj.dct (zs.map fun y => ((y, cI (lvl es y)) : Str × Ob.D))] = s1 at *
  -- moved
  have mv := move_ok (k := m) M1.R M1.p he (by omega) (by omega)
  have km := pmv_pick (F := F_Plan_move) M1.p
  have M2 := M1.move (k := m) he
  have hb2 : (s1.set p (oP (mvE e m es) 0))[st.length]? = some (.dct (zs.map fun y => ((y, cI (lvl es y)) : Str × Ob.D))) := by rw [set_ne hpb]; exact hb
  generalize hs2 : s1.set p (oP (mvE e m es) 0) = s2 at *
  have len2 := M2.len
  have les2 : (mvE e m es).length < 100000 := by omega
  have nm2 := pnames_ok M2.R.ok les2 M2.p
  have lv2 := plevels_ok M2.R.ok les2 M2.p
  have pn2 := ppickP (F := F_Plan_names) M2.p
  have pl2 := ppickP (F := F_Plan_levels) M2.p
  have names2 : (mvE e m es).map (·.nm) = ((es.map (·.nm)).filter fun y => decide (y ≠ e.nm)).take m ++ [e.nm] ++ ((es.map (·.nm)).filter fun y => decide (y ≠ e.nm)).drop m := by
    unfold mvE
    rw [List.map_append, List.map_cons, List.map_take, List.map_drop, oth_nm, List.append_assoc]
    rfl
  have lays : ∀ w ∈ (mvE e m es).map (·.nm), PyData.canLay0 (.str w) = true := fun w hw => lay w (M2.z.mem_iff.mp hw)
  have nn : fNe (.list (((mvE e m es).map (·.nm)).map .str)) (.list (((mvE e m es).map (·.nm)).map .str)) = some (.bool false) := fNe_self (shaped_L (flt_strs lays))
  have cutA : cutD ((((es.map (·.nm)).filter fun y => decide (y ≠ e.nm))).map PyData.str) none (some (m : Int)) = (((es.map (·.nm)).filter fun y => decide (y ≠ e.nm)).take m).map PyData.str := by rw [cut_to, List.map_take]
  have cutB : cutD ((((es.map (·.nm)).filter fun y => decide (y ≠ e.nm))).map PyData.str) (some (m : Int)) none = (((es.map (·.nm)).filter fun y => decide (y ≠ e.nm)).drop m).map PyData.str := by rw [cut_from, List.map_drop]
  have rl : ((es.map (·.nm)).filter fun y => decide (y ≠ e.nm)).length ≤ 6 := Nat.le_trans (List.length_filter_le ..) (by rw [List.length_map]; omega)
  have lA : ((((es.map (·.nm)).filter fun y => decide (y ≠ e.nm)).take m).map PyData.str).length + 1 ≤ 100000 := by rw [List.length_map, List.length_take]; omega
  have lB : ((((es.map (·.nm)).filter fun y => decide (y ≠ e.nm)).take m).map PyData.str ++ [PyData.str e.nm]).length + ((((es.map (·.nm)).filter fun y => decide (y ≠ e.nm)).drop m).map PyData.str).length ≤ 100000 := by rw [List.length_append, List.length_singleton, List.length_map, List.length_map, List.length_take, List.length_drop]; omega
  have joined : (((es.map (·.nm)).filter fun y => decide (y ≠ e.nm)).take m).map PyData.str ++ [PyData.str e.nm] ++ (((es.map (·.nm)).filter fun y => decide (y ≠ e.nm)).drop m).map PyData.str = ((mvE e m es).map (·.nm)).map PyData.str := by
    rw [names2, List.map_append, List.map_append]
    rfl
  -- the levels
  have lvs : ((mvE e m es).map (·.nm)).map (lvl es) = (mvE e m es).map (·.h) := by
    rw [List.map_map]
    refine List.map_congr_left fun f hf => ?_
    exact lvl_mem ((mv_perm m he M.R.nn).mem_iff.mp hf) M.R.nn
  have lc3 : lc_law_3 (E11 x0 x1 p (ds.map .int) (zs.map .str) x5 k [V (cT e.nm), x8, V (cI m), V (.py (.list (((es.map (·.nm)).filter fun y => decide (y ≠ e.nm)).map PyData.str))), V (.obj st.length), x12, x13, x14]) s2 = some (.ok ((((mvE e m es).map (·.h)).map PyData.int).map Ob.D.py) s2) := by
    rw [← lvs]
    exact lLc_ok (ds := (((mvE e m es).map fun e : Ev => e.nm).map PyData.str).map Ob.D.py) (s1 := s2) (by generalize ((mvE e m es).map fun e : Ev => e.nm).map PyData.str = nl at *; simp only [sSeq, sSet, sOwn, sPar, sParL,  sIf, sRet, sRetL, sRetO, sDrop, sAug, sApp, sFrz, frz, sAsg, gSet, gsNil, gsCons, gTupF, Fi.gSub, sFor, iL, iT, iR1, iR2, iZ, iEn, itemsK, eVar, eC, Fi.e2, Fi.e1, asB, eChain, tAndF, tOrF, tNotF, eAnd, eOr, eNot, eIf, aNil, aCons, eTup, lLst, eL, eCall, lCall, eCallF, lCallF, eSlT, lSl, oNone, oSome, ownIx, ownLen, lLc, wipeE, pYes, sNext, fnD, entry, fAdd_int, fSub, fMul_l, fMul_r, fDiv_ok, fMod_ok, fPow_ok, fLt, fLe, fGt, fGe, fEq_int, fEq_str, fEq_bool, fNe_int, fNe_str, fNe_bool, isN, fIs, fIsNot, fIx, fNeg, fLen, fMin, fMax, fTuple, fList, fIntB, fSum, fAll, fAny, at_0, at_1, at_2, eT, eS, eStep, eR, getInts_map, Option.bind_some, Option.map_some, List.getElem?_cons_succ, List.getElem?_cons_zero, List.set_cons_succ, List.set_cons_zero, List.length_cons, List.length_nil, List.length_map, List.map_cons, List.map_nil, List.nil_append, List.cons_append, List.replicate, Nat.zero_add, Nat.reduceAdd, Nat.reduceSub, decide_true, decide_false, reduceIte, Nat.reduceLeDiff, Nat.reduceLT, Int.reduceLT, Int.reduceLE, Int.reduceNeg, Int.reducePow, and_self, or_self, and_true, true_and, or_true, true_or, Bool.not_true, Bool.not_false, pour_spend, spend_pour, Ob.sSeq, Ob.sSet, Ob.sOwn, Ob.sIf, Ob.sRet, Ob.sRetL, Ob.sRetO, Ob.sRetN, Ob.sDrop, Ob.sApp, Ob.sAug, Ob.sFrz, Ob.frz, Ob.sAsg, Ob.sPar, Ob.sE, Ob.bnd, Ob.lft, Ob.gSet, Ob.gsNil, Ob.gsCons, Ob.gTup, Ob.gLst, Ob.sFor, Ob.iL, Ob.iT, Ob.eVar, Ob.e2, Ob.op2, Ob.asB, Ob.truD, Ob.eChain, Ob.tAndF, Ob.tOrF, Ob.tNotF, Ob.eAnd, Ob.eOr, Ob.eNot, Ob.eIf, Ob.aNil, Ob.aCons, Ob.eTup, Ob.mkT, Ob.lLst, Ob.eL, Ob.mkL, Ob.eCall, Ob.pyAll, Ob.pE, Ob.pL, Ob.pT, Ob.pv, Ob.pvS, Ob.eIx, Ob.ixD, Ob.D.lst?, Ob.D.tup?, Ob.lLc, Ob.lcD, Ob.wipeE, Ob.pYes, Ob.sNext, Ob.fnO, Ob.entry, Ob.goE, Ob.goL, Ob.goN, Ob.eG, Ob.lG, Ob.eP, Ob.eFld, Ob.fld, Ob.sFld, Ob.setFld, Ob.putD, Ob.sFldAug, Ob.clsOf, Ob.eMeth, Ob.eMeth0, Ob.eProp, Ob.eMake, Ob.eMakeK, Ob.made, Ob.eSup, Ob.eSup0, Ob.eSupK, Ob.Mr.list, Ob.eIsC, Ob.isC, Ob.sRaise, Ob.eLenSet, Ob.lenSet, List.lookup_cons, List.lookup_nil, Bool.false_eq_true, List.set_set, beq_self_eq_true, Option.isNone_none, Option.map_none, Option.bind_none, pn2, nm2]) (by rw [List.length_map, List.length_map, List.length_map]; exact les2) (lc_get (v := lvl es) hb2 fun y hy => M2.z.mem_iff.mp hy)
  have nl : fNe (.tuple (((mvE e m es).map (·.h)).map .int)) (.tuple (((mvE e m es).map (·.h)).map .int)) = some (.bool false) := fNe_self (shaped_T (flt_ints _))
  have he2 : e ∈ mvE e m es := (mv_perm m he M.R.nn).mem_iff.mpr he
  obtain ⟨y12, f5⟩ := odd_loop (x0 := x0) (x1 := x1) (x5 := x5) (k := k) (dsl := ds.map .int) (zsl := zs.map .str) (x8 := x8) (x9 := V (cI m)) (x10 := V (.py (.list (((es.map (·.nm)).filter fun y => decide (y ≠ e.nm)).map PyData.str)))) (x11 := V (.obj st.length)) (x13 := x13) (x14 := x14) M2 he2 [.int (0 - 1), .int (zs.length : Int), .none, .bool true, .str "0"] x12 (fun v hv => by
    simp only [List.mem_cons, List.not_mem_nil, or_false] at hv
    rcases hv with rfl | rfl | rfl | rfl | rfl
    · exact ⟨rfl, by simp [isI]⟩
    · exact ⟨rfl, by simp [isI]; omega⟩
    · exact ⟨rfl, rfl⟩
    · exact ⟨rfl, rfl⟩
    · exact ⟨rfl, rfl⟩)
  have uk := move_unk (nm := "zoe") (v := .none) M2.R M2.p fun f hf z => hzoe (by rw [← z]; exact M2.z.mem_iff.mp (List.mem_map.mpr ⟨f, hf, rfl⟩))
  have km2 := pmv_pick (F := F_Plan_move) M2.p
  refine ⟨_, s2, V (cT e.nm), x8, V (cI m), V (.py (.list (((es.map (·.nm)).filter fun y => decide (y ≠ e.nm)).map PyData.str))), V (.obj st.length), y12, x13, x14, ?_, M2⟩
  have t6 := M2.tb
  generalize ds.map PyData.int = dsl at *
  generalize hzl : zs.map PyData.str = zsl at *
  generalize (((es.map (·.nm)).filter fun y => decide (y ≠ e.nm)).take m).map PyData.str = rA at *
  generalize (((es.map (·.nm)).filter fun y => decide (y ≠ e.nm)).drop m).map PyData.str = rB at *
  generalize ((es.map (·.nm)).filter fun y => decide (y ≠ e.nm)).map PyData.str = rl_ at *
  generalize ((mvE e m es).map (·.nm)).map PyData.str = nms at *
  generalize ((mvE e m es).map (·.h)).map PyData.int = lvl_ at *
  unfold lp_law_2
  refine oseq (e := E11 x0 x1 p dsl zsl x5 k [V (cT e.nm), x8, x9, x10, x11, x12, x13, x14]) (s := st) (by simp only [sSeq, sSet, sOwn, sPar, sParL,  sIf, sRet, sRetL, sRetO, sDrop, sAug, sApp, sFrz, frz, sAsg, gSet, gsNil, gsCons, gTupF, Fi.gSub, sFor, iL, iT, iR1, iR2, iZ, iEn, itemsK, eVar, eC, Fi.e2, Fi.e1, asB, eChain, tAndF, tOrF, tNotF, eAnd, eOr, eNot, eIf, aNil, aCons, eTup, lLst, eL, eCall, lCall, eCallF, lCallF, eSlT, lSl, oNone, oSome, ownIx, ownLen, lLc, wipeE, pYes, sNext, fnD, entry, fAdd_int, fSub, fMul_l, fMul_r, fDiv_ok, fMod_ok, fPow_ok, fLt, fLe, fGt, fGe, fEq_int, fEq_str, fEq_bool, fNe_int, fNe_str, fNe_bool, isN, fIs, fIsNot, fIx, fNeg, fLen, fMin, fMax, fTuple, fList, fIntB, fSum, fAll, fAny, at_0, at_1, at_2, eT, eS, eStep, eR, getInts_map, Option.bind_some, Option.map_some, List.getElem?_cons_succ, List.getElem?_cons_zero, List.set_cons_succ, List.set_cons_zero, List.length_cons, List.length_nil, List.length_map, List.map_cons, List.map_nil, List.nil_append, List.cons_append, List.replicate, Nat.zero_add, Nat.reduceAdd, Nat.reduceSub, decide_true, decide_false, reduceIte, Nat.reduceLeDiff, Nat.reduceLT, Int.reduceLT, Int.reduceLE, Int.reduceNeg, Int.reducePow, and_self, or_self, and_true, true_and, or_true, true_or, Bool.not_true, Bool.not_false, pour_spend, spend_pour, Ob.sSeq, Ob.sSet, Ob.sOwn, Ob.sIf, Ob.sRet, Ob.sRetL, Ob.sRetO, Ob.sRetN, Ob.sDrop, Ob.sApp, Ob.sAug, Ob.sFrz, Ob.frz, Ob.sAsg, Ob.sPar, Ob.sE, Ob.bnd, Ob.lft, Ob.gSet, Ob.gsNil, Ob.gsCons, Ob.gTup, Ob.gLst, Ob.sFor, Ob.iL, Ob.iT, Ob.eVar, Ob.e2, Ob.op2, Ob.asB, Ob.truD, Ob.eChain, Ob.tAndF, Ob.tOrF, Ob.tNotF, Ob.eAnd, Ob.eOr, Ob.eNot, Ob.eIf, Ob.aNil, Ob.aCons, Ob.eTup, Ob.mkT, Ob.lLst, Ob.eL, Ob.mkL, Ob.eCall, Ob.pyAll, Ob.pE, Ob.pL, Ob.pT, Ob.pv, Ob.pvS, Ob.eIx, Ob.ixD, Ob.D.lst?, Ob.D.tup?, Ob.lLc, Ob.lcD, Ob.wipeE, Ob.pYes, Ob.sNext, Ob.fnO, Ob.entry, Ob.goE, Ob.goL, Ob.goN, Ob.eG, Ob.lG, Ob.eP, Ob.eFld, Ob.fld, Ob.sFld, Ob.setFld, Ob.putD, Ob.sFldAug, Ob.clsOf, Ob.eMeth, Ob.eMeth0, Ob.eProp, Ob.eMake, Ob.eMakeK, Ob.made, Ob.eSup, Ob.eSup0, Ob.eSupK, Ob.Mr.list, Ob.eIsC, Ob.isC, Ob.sRaise, Ob.eLenSet, Ob.lenSet, List.lookup_cons, List.lookup_nil, Bool.false_eq_true, List.set_set, beq_self_eq_true, Option.isNone_none, Option.map_none, Option.bind_none, i0, zl, m0, a0]) ?_
  refine oseq (e := E11 x0 x1 p dsl zsl x5 k [V (cT e.nm), x8, V (cI m), x10, x11, x12, x13, x14]) (s := st) (by simp only [sSeq, sSet, sOwn, sPar, sParL,  sIf, sRet, sRetL, sRetO, sDrop, sAug, sApp, sFrz, frz, sAsg, gSet, gsNil, gsCons, gTupF, Fi.gSub, sFor, iL, iT, iR1, iR2, iZ, iEn, itemsK, eVar, eC, Fi.e2, Fi.e1, asB, eChain, tAndF, tOrF, tNotF, eAnd, eOr, eNot, eIf, aNil, aCons, eTup, lLst, eL, eCall, lCall, eCallF, lCallF, eSlT, lSl, oNone, oSome, ownIx, ownLen, lLc, wipeE, pYes, sNext, fnD, entry, fAdd_int, fSub, fMul_l, fMul_r, fDiv_ok, fMod_ok, fPow_ok, fLt, fLe, fGt, fGe, fEq_int, fEq_str, fEq_bool, fNe_int, fNe_str, fNe_bool, isN, fIs, fIsNot, fIx, fNeg, fLen, fMin, fMax, fTuple, fList, fIntB, fSum, fAll, fAny, at_0, at_1, at_2, eT, eS, eStep, eR, getInts_map, Option.bind_some, Option.map_some, List.getElem?_cons_succ, List.getElem?_cons_zero, List.set_cons_succ, List.set_cons_zero, List.length_cons, List.length_nil, List.length_map, List.map_cons, List.map_nil, List.nil_append, List.cons_append, List.replicate, Nat.zero_add, Nat.reduceAdd, Nat.reduceSub, decide_true, decide_false, reduceIte, Nat.reduceLeDiff, Nat.reduceLT, Int.reduceLT, Int.reduceLE, Int.reduceNeg, Int.reducePow, and_self, or_self, and_true, true_and, or_true, true_or, Bool.not_true, Bool.not_false, pour_spend, spend_pour, Ob.sSeq, Ob.sSet, Ob.sOwn, Ob.sIf, Ob.sRet, Ob.sRetL, Ob.sRetO, Ob.sRetN, Ob.sDrop, Ob.sApp, Ob.sAug, Ob.sFrz, Ob.frz, Ob.sAsg, Ob.sPar, Ob.sE, Ob.bnd, Ob.lft, Ob.gSet, Ob.gsNil, Ob.gsCons, Ob.gTup, Ob.gLst, Ob.sFor, Ob.iL, Ob.iT, Ob.eVar, Ob.e2, Ob.op2, Ob.asB, Ob.truD, Ob.eChain, Ob.tAndF, Ob.tOrF, Ob.tNotF, Ob.eAnd, Ob.eOr, Ob.eNot, Ob.eIf, Ob.aNil, Ob.aCons, Ob.eTup, Ob.mkT, Ob.lLst, Ob.eL, Ob.mkL, Ob.eCall, Ob.pyAll, Ob.pE, Ob.pL, Ob.pT, Ob.pv, Ob.pvS, Ob.eIx, Ob.ixD, Ob.D.lst?, Ob.D.tup?, Ob.lLc, Ob.lcD, Ob.wipeE, Ob.pYes, Ob.sNext, Ob.fnO, Ob.entry, Ob.goE, Ob.goL, Ob.goN, Ob.eG, Ob.lG, Ob.eP, Ob.eFld, Ob.fld, Ob.sFld, Ob.setFld, Ob.putD, Ob.sFldAug, Ob.clsOf, Ob.eMeth, Ob.eMeth0, Ob.eProp, Ob.eMake, Ob.eMakeK, Ob.made, Ob.eSup, Ob.eSup0, Ob.eSupK, Ob.Mr.list, Ob.eIsC, Ob.isC, Ob.sRaise, Ob.eLenSet, Ob.lenSet, List.lookup_cons, List.lookup_nil, Bool.false_eq_true, List.set_set, beq_self_eq_true, Option.isNone_none, Option.map_none, Option.bind_none, i1, zl, m1]) ?_
  refine oseq (e := E11 x0 x1 p dsl zsl x5 k [V (cT e.nm), x8, V (cI m), some (.own (rl_.map Ob.D.py)), x11, x12, x13, x14]) (s := st) (by simp only [sSeq, sSet, sOwn, sPar, sParL,  sIf, sRet, sRetL, sRetO, sDrop, sAug, sApp, sFrz, frz, sAsg, gSet, gsNil, gsCons, gTupF, Fi.gSub, sFor, iL, iT, iR1, iR2, iZ, iEn, itemsK, eVar, eC, Fi.e2, Fi.e1, asB, eChain, tAndF, tOrF, tNotF, eAnd, eOr, eNot, eIf, aNil, aCons, eTup, lLst, eL, eCall, lCall, eCallF, lCallF, eSlT, lSl, oNone, oSome, ownIx, ownLen, lLc, wipeE, pYes, sNext, fnD, entry, fAdd_int, fSub, fMul_l, fMul_r, fDiv_ok, fMod_ok, fPow_ok, fLt, fLe, fGt, fGe, fEq_int, fEq_str, fEq_bool, fNe_int, fNe_str, fNe_bool, isN, fIs, fIsNot, fIx, fNeg, fLen, fMin, fMax, fTuple, fList, fIntB, fSum, fAll, fAny, at_0, at_1, at_2, eT, eS, eStep, eR, getInts_map, Option.bind_some, Option.map_some, List.getElem?_cons_succ, List.getElem?_cons_zero, List.set_cons_succ, List.set_cons_zero, List.length_cons, List.length_nil, List.length_map, List.map_cons, List.map_nil, List.nil_append, List.cons_append, List.replicate, Nat.zero_add, Nat.reduceAdd, Nat.reduceSub, decide_true, decide_false, reduceIte, Nat.reduceLeDiff, Nat.reduceLT, Int.reduceLT, Int.reduceLE, Int.reduceNeg, Int.reducePow, and_self, or_self, and_true, true_and, or_true, true_or, Bool.not_true, Bool.not_false, pour_spend, spend_pour, Ob.sSeq, Ob.sSet, Ob.sOwn, Ob.sIf, Ob.sRet, Ob.sRetL, Ob.sRetO, Ob.sRetN, Ob.sDrop, Ob.sApp, Ob.sAug, Ob.sFrz, Ob.frz, Ob.sAsg, Ob.sPar, Ob.sE, Ob.bnd, Ob.lft, Ob.gSet, Ob.gsNil, Ob.gsCons, Ob.gTup, Ob.gLst, Ob.sFor, Ob.iL, Ob.iT, Ob.eVar, Ob.e2, Ob.op2, Ob.asB, Ob.truD, Ob.eChain, Ob.tAndF, Ob.tOrF, Ob.tNotF, Ob.eAnd, Ob.eOr, Ob.eNot, Ob.eIf, Ob.aNil, Ob.aCons, Ob.eTup, Ob.mkT, Ob.lLst, Ob.eL, Ob.mkL, Ob.eCall, Ob.pyAll, Ob.pE, Ob.pL, Ob.pT, Ob.pv, Ob.pvS, Ob.eIx, Ob.ixD, Ob.D.lst?, Ob.D.tup?, Ob.lLc, Ob.lcD, Ob.wipeE, Ob.pYes, Ob.sNext, Ob.fnO, Ob.entry, Ob.goE, Ob.goL, Ob.goN, Ob.eG, Ob.lG, Ob.eP, Ob.eFld, Ob.fld, Ob.sFld, Ob.setFld, Ob.putD, Ob.sFldAug, Ob.clsOf, Ob.eMeth, Ob.eMeth0, Ob.eProp, Ob.eMake, Ob.eMakeK, Ob.made, Ob.eSup, Ob.eSup0, Ob.eSupK, Ob.Mr.list, Ob.eIsC, Ob.isC, Ob.sRaise, Ob.eLenSet, Ob.lenSet, List.lookup_cons, List.lookup_nil, Bool.false_eq_true, List.set_set, beq_self_eq_true, Option.isNone_none, Option.map_none, Option.bind_none, lc1]) ?_
  have z10 : Ob.frz 10 (E11 x0 x1 p dsl zsl x5 k [V (cT e.nm), x8, V (cI m), some (.own (rl_.map Ob.D.py)), x11, x12, x13, x14]) = E11 x0 x1 p dsl zsl x5 k [V (cT e.nm), x8, V (cI m), V (.py (.list rl_)), x11, x12, x13, x14] := by
    show E11 x0 x1 p dsl zsl x5 k [V (cT e.nm), x8, V (cI m), V (Ob.mkL (rl_.map Ob.D.py)), x11, x12, x13, x14] = _
    rw [Ob.mkL_py]
  show (Ob.sSeq _ _ : Ob.FS) (Ob.frz 10 _) st = _
  rw [z10]
  refine oseq s4 ?_
  refine oseq (e := E11 x0 x1 p dsl zsl x5 k [V (cT e.nm), x8, V (cI m), V (.py (.list rl_)), V (.obj st.length), x12, x13, x14]) (s := s2) (by simp only [sSeq, sSet, sOwn, sPar, sParL,  sIf, sRet, sRetL, sRetO, sDrop, sAug, sApp, sFrz, frz, sAsg, gSet, gsNil, gsCons, gTupF, Fi.gSub, sFor, iL, iT, iR1, iR2, iZ, iEn, itemsK, eVar, eC, Fi.e2, Fi.e1, asB, eChain, tAndF, tOrF, tNotF, eAnd, eOr, eNot, eIf, aNil, aCons, eTup, lLst, eL, eCall, lCall, eCallF, lCallF, eSlT, lSl, oNone, oSome, ownIx, ownLen, lLc, wipeE, pYes, sNext, fnD, entry, fAdd_int, fSub, fMul_l, fMul_r, fDiv_ok, fMod_ok, fPow_ok, fLt, fLe, fGt, fGe, fEq_int, fEq_str, fEq_bool, fNe_int, fNe_str, fNe_bool, isN, fIs, fIsNot, fIx, fNeg, fLen, fMin, fMax, fTuple, fList, fIntB, fSum, fAll, fAny, at_0, at_1, at_2, eT, eS, eStep, eR, getInts_map, Option.bind_some, Option.map_some, List.getElem?_cons_succ, List.getElem?_cons_zero, List.set_cons_succ, List.set_cons_zero, List.length_cons, List.length_nil, List.length_map, List.map_cons, List.map_nil, List.nil_append, List.cons_append, List.replicate, Nat.zero_add, Nat.reduceAdd, Nat.reduceSub, decide_true, decide_false, reduceIte, Nat.reduceLeDiff, Nat.reduceLT, Int.reduceLT, Int.reduceLE, Int.reduceNeg, Int.reducePow, and_self, or_self, and_true, true_and, or_true, true_or, Bool.not_true, Bool.not_false, pour_spend, spend_pour, Ob.sSeq, Ob.sSet, Ob.sOwn, Ob.sIf, Ob.sRet, Ob.sRetL, Ob.sRetO, Ob.sRetN, Ob.sDrop, Ob.sApp, Ob.sAug, Ob.sFrz, Ob.frz, Ob.sAsg, Ob.sPar, Ob.sE, Ob.bnd, Ob.lft, Ob.gSet, Ob.gsNil, Ob.gsCons, Ob.gTup, Ob.gLst, Ob.sFor, Ob.iL, Ob.iT, Ob.eVar, Ob.e2, Ob.op2, Ob.asB, Ob.truD, Ob.eChain, Ob.tAndF, Ob.tOrF, Ob.tNotF, Ob.eAnd, Ob.eOr, Ob.eNot, Ob.eIf, Ob.aNil, Ob.aCons, Ob.eTup, Ob.mkT, Ob.lLst, Ob.eL, Ob.mkL, Ob.eCall, Ob.pyAll, Ob.pE, Ob.pL, Ob.pT, Ob.pv, Ob.pvS, Ob.eIx, Ob.ixD, Ob.D.lst?, Ob.D.tup?, Ob.lLc, Ob.lcD, Ob.wipeE, Ob.pYes, Ob.sNext, Ob.fnO, Ob.entry, Ob.goE, Ob.goL, Ob.goN, Ob.eG, Ob.lG, Ob.eP, Ob.eFld, Ob.fld, Ob.sFld, Ob.setFld, Ob.putD, Ob.sFldAug, Ob.clsOf, Ob.eMeth, Ob.eMeth0, Ob.eProp, Ob.eMake, Ob.eMakeK, Ob.made, Ob.eSup, Ob.eSup0, Ob.eSupK, Ob.Mr.list, Ob.eIsC, Ob.isC, Ob.sRaise, Ob.eLenSet, Ob.lenSet, List.lookup_cons, List.lookup_nil, Bool.false_eq_true, List.set_set, beq_self_eq_true, Option.isNone_none, Option.map_none, Option.bind_none, q_law_2, km, mv, fIsNot, Ob.lListD, Ob.D.seq?, Ob.pyAll_map, pn2, nm2, lSl, lCat, cutA, cutB, lA, lB, joined, nn]) ?_
  refine oseq (e := E11 x0 x1 p dsl zsl x5 k [V (cT e.nm), x8, V (cI m), V (.py (.list rl_)), V (.obj st.length), x12, x13, x14]) (s := s2) (by simp only [sSeq, sSet, sOwn, sPar, sParL,  sIf, sRet, sRetL, sRetO, sDrop, sAug, sApp, sFrz, frz, sAsg, gSet, gsNil, gsCons, gTupF, Fi.gSub, sFor, iL, iT, iR1, iR2, iZ, iEn, itemsK, eVar, eC, Fi.e2, Fi.e1, asB, eChain, tAndF, tOrF, tNotF, eAnd, eOr, eNot, eIf, aNil, aCons, eTup, lLst, eL, eCall, lCall, eCallF, lCallF, eSlT, lSl, oNone, oSome, ownIx, ownLen, lLc, wipeE, pYes, sNext, fnD, entry, fAdd_int, fSub, fMul_l, fMul_r, fDiv_ok, fMod_ok, fPow_ok, fLt, fLe, fGt, fGe, fEq_int, fEq_str, fEq_bool, fNe_int, fNe_str, fNe_bool, isN, fIs, fIsNot, fIx, fNeg, fLen, fMin, fMax, fTuple, fList, fIntB, fSum, fAll, fAny, at_0, at_1, at_2, eT, eS, eStep, eR, getInts_map, Option.bind_some, Option.map_some, List.getElem?_cons_succ, List.getElem?_cons_zero, List.set_cons_succ, List.set_cons_zero, List.length_cons, List.length_nil, List.length_map, List.map_cons, List.map_nil, List.nil_append, List.cons_append, List.replicate, Nat.zero_add, Nat.reduceAdd, Nat.reduceSub, decide_true, decide_false, reduceIte, Nat.reduceLeDiff, Nat.reduceLT, Int.reduceLT, Int.reduceLE, Int.reduceNeg, Int.reducePow, and_self, or_self, and_true, true_and, or_true, true_or, Bool.not_true, Bool.not_false, pour_spend, spend_pour, Ob.sSeq, Ob.sSet, Ob.sOwn, Ob.sIf, Ob.sRet, Ob.sRetL, Ob.sRetO, Ob.sRetN, Ob.sDrop, Ob.sApp, Ob.sAug, Ob.sFrz, Ob.frz, Ob.sAsg, Ob.sPar, Ob.sE, Ob.bnd, Ob.lft, Ob.gSet, Ob.gsNil, Ob.gsCons, Ob.gTup, Ob.gLst, Ob.sFor, Ob.iL, Ob.iT, Ob.eVar, Ob.e2, Ob.op2, Ob.asB, Ob.truD, Ob.eChain, Ob.tAndF, Ob.tOrF, Ob.tNotF, Ob.eAnd, Ob.eOr, Ob.eNot, Ob.eIf, Ob.aNil, Ob.aCons, Ob.eTup, Ob.mkT, Ob.lLst, Ob.eL, Ob.mkL, Ob.eCall, Ob.pyAll, Ob.pE, Ob.pL, Ob.pT, Ob.pv, Ob.pvS, Ob.eIx, Ob.ixD, Ob.D.lst?, Ob.D.tup?, Ob.lLc, Ob.lcD, Ob.wipeE, Ob.pYes, Ob.sNext, Ob.fnO, Ob.entry, Ob.goE, Ob.goL, Ob.goN, Ob.eG, Ob.lG, Ob.eP, Ob.eFld, Ob.fld, Ob.sFld, Ob.setFld, Ob.putD, Ob.sFldAug, Ob.clsOf, Ob.eMeth, Ob.eMeth0, Ob.eProp, Ob.eMake, Ob.eMakeK, Ob.made, Ob.eSup, Ob.eSup0, Ob.eSupK, Ob.Mr.list, Ob.eIsC, Ob.isC, Ob.sRaise, Ob.eLenSet, Ob.lenSet, List.lookup_cons, List.lookup_nil, Bool.false_eq_true, List.set_set, beq_self_eq_true, Option.isNone_none, Option.map_none, Option.bind_none, q_law_3, pl2, lv2, lc3, Ob.pyAll_map, nl]) ?_
  refine oseq (e := E11 x0 x1 p dsl zsl x5 k [V (cT e.nm), x8, V (cI m), V (.py (.list rl_)), V (.obj st.length), y12, x13, x14]) (s := s2) (by simp only [sSeq, sSet, sOwn, sPar, sParL,  sIf, sRet, sRetL, sRetO, sDrop, sAug, sApp, sFrz, frz, sAsg, gSet, gsNil, gsCons, gTupF, Fi.gSub, sFor, iL, iT, iR1, iR2, iZ, iEn, itemsK, eVar, eC, Fi.e2, Fi.e1, asB, eChain, tAndF, tOrF, tNotF, eAnd, eOr, eNot, eIf, aNil, aCons, eTup, lLst, eL, eCall, lCall, eCallF, lCallF, eSlT, lSl, oNone, oSome, ownIx, ownLen, lLc, wipeE, pYes, sNext, fnD, entry, fAdd_int, fSub, fMul_l, fMul_r, fDiv_ok, fMod_ok, fPow_ok, fLt, fLe, fGt, fGe, fEq_int, fEq_str, fEq_bool, fNe_int, fNe_str, fNe_bool, isN, fIs, fIsNot, fIx, fNeg, fLen, fMin, fMax, fTuple, fList, fIntB, fSum, fAll, fAny, at_0, at_1, at_2, eT, eS, eStep, eR, getInts_map, Option.bind_some, Option.map_some, List.getElem?_cons_succ, List.getElem?_cons_zero, List.set_cons_succ, List.set_cons_zero, List.length_cons, List.length_nil, List.length_map, List.map_cons, List.map_nil, List.nil_append, List.cons_append, List.replicate, Nat.zero_add, Nat.reduceAdd, Nat.reduceSub, decide_true, decide_false, reduceIte, Nat.reduceLeDiff, Nat.reduceLT, Int.reduceLT, Int.reduceLE, Int.reduceNeg, Int.reducePow, and_self, or_self, and_true, true_and, or_true, true_or, Bool.not_true, Bool.not_false, pour_spend, spend_pour, Ob.sSeq, Ob.sSet, Ob.sOwn, Ob.sIf, Ob.sRet, Ob.sRetL, Ob.sRetO, Ob.sRetN, Ob.sDrop, Ob.sApp, Ob.sAug, Ob.sFrz, Ob.frz, Ob.sAsg, Ob.sPar, Ob.sE, Ob.bnd, Ob.lft, Ob.gSet, Ob.gsNil, Ob.gsCons, Ob.gTup, Ob.gLst, Ob.sFor, Ob.iL, Ob.iT, Ob.eVar, Ob.e2, Ob.op2, Ob.asB, Ob.truD, Ob.eChain, Ob.tAndF, Ob.tOrF, Ob.tNotF, Ob.eAnd, Ob.eOr, Ob.eNot, Ob.eIf, Ob.aNil, Ob.aCons, Ob.eTup, Ob.mkT, Ob.lLst, Ob.eL, Ob.mkL, Ob.eCall, Ob.pyAll, Ob.pE, Ob.pL, Ob.pT, Ob.pv, Ob.pvS, Ob.eIx, Ob.ixD, Ob.D.lst?, Ob.D.tup?, Ob.lLc, Ob.lcD, Ob.wipeE, Ob.pYes, Ob.sNext, Ob.fnO, Ob.entry, Ob.goE, Ob.goL, Ob.goN, Ob.eG, Ob.lG, Ob.eP, Ob.eFld, Ob.fld, Ob.sFld, Ob.setFld, Ob.putD, Ob.sFldAug, Ob.clsOf, Ob.eMeth, Ob.eMeth0, Ob.eProp, Ob.eMake, Ob.eMakeK, Ob.made, Ob.eSup, Ob.eSup0, Ob.eSupK, Ob.Mr.list, Ob.eIsC, Ob.isC, Ob.sRaise, Ob.eLenSet, Ob.lenSet, List.lookup_cons, List.lookup_nil, Bool.false_eq_true, List.set_set, beq_self_eq_true, Option.isNone_none, Option.map_none, Option.bind_none, q_law_5, zl]; exact f5) ?_
  unfold q_law_6
  exact if_ne (told_err (er := "UnknownEnvelope") (du := "unknown value") t6 (by simp only [sSeq, sSet, sOwn, sPar, sParL,  sIf, sRet, sRetL, sRetO, sDrop, sAug, sApp, sFrz, frz, sAsg, gSet, gsNil, gsCons, gTupF, Fi.gSub, sFor, iL, iT, iR1, iR2, iZ, iEn, itemsK, eVar, eC, Fi.e2, Fi.e1, asB, eChain, tAndF, tOrF, tNotF, eAnd, eOr, eNot, eIf, aNil, aCons, eTup, lLst, eL, eCall, lCall, eCallF, lCallF, eSlT, lSl, oNone, oSome, ownIx, ownLen, lLc, wipeE, pYes, sNext, fnD, entry, fAdd_int, fSub, fMul_l, fMul_r, fDiv_ok, fMod_ok, fPow_ok, fLt, fLe, fGt, fGe, fEq_int, fEq_str, fEq_bool, fNe_int, fNe_str, fNe_bool, isN, fIs, fIsNot, fIx, fNeg, fLen, fMin, fMax, fTuple, fList, fIntB, fSum, fAll, fAny, at_0, at_1, at_2, eT, eS, eStep, eR, getInts_map, Option.bind_some, Option.map_some, List.getElem?_cons_succ, List.getElem?_cons_zero, List.set_cons_succ, List.set_cons_zero, List.length_cons, List.length_nil, List.length_map, List.map_cons, List.map_nil, List.nil_append, List.cons_append, List.replicate, Nat.zero_add, Nat.reduceAdd, Nat.reduceSub, decide_true, decide_false, reduceIte, Nat.reduceLeDiff, Nat.reduceLT, Int.reduceLT, Int.reduceLE, Int.reduceNeg, Int.reducePow, and_self, or_self, and_true, true_and, or_true, true_or, Bool.not_true, Bool.not_false, pour_spend, spend_pour, Ob.sSeq, Ob.sSet, Ob.sOwn, Ob.sIf, Ob.sRet, Ob.sRetL, Ob.sRetO, Ob.sRetN, Ob.sDrop, Ob.sApp, Ob.sAug, Ob.sFrz, Ob.frz, Ob.sAsg, Ob.sPar, Ob.sE, Ob.bnd, Ob.lft, Ob.gSet, Ob.gsNil, Ob.gsCons, Ob.gTup, Ob.gLst, Ob.sFor, Ob.iL, Ob.iT, Ob.eVar, Ob.e2, Ob.op2, Ob.asB, Ob.truD, Ob.eChain, Ob.tAndF, Ob.tOrF, Ob.tNotF, Ob.eAnd, Ob.eOr, Ob.eNot, Ob.eIf, Ob.aNil, Ob.aCons, Ob.eTup, Ob.mkT, Ob.lLst, Ob.eL, Ob.mkL, Ob.eCall, Ob.pyAll, Ob.pE, Ob.pL, Ob.pT, Ob.pv, Ob.pvS, Ob.eIx, Ob.ixD, Ob.D.lst?, Ob.D.tup?, Ob.lLc, Ob.lcD, Ob.wipeE, Ob.pYes, Ob.sNext, Ob.fnO, Ob.entry, Ob.goE, Ob.goL, Ob.goN, Ob.eG, Ob.lG, Ob.eP, Ob.eFld, Ob.fld, Ob.sFld, Ob.setFld, Ob.putD, Ob.sFldAug, Ob.clsOf, Ob.eMeth, Ob.eMeth0, Ob.eProp, Ob.eMake, Ob.eMakeK, Ob.made, Ob.eSup, Ob.eSup0, Ob.eSupK, Ob.Mr.list, Ob.eIsC, Ob.isC, Ob.sRaise, Ob.eLenSet, Ob.lenSet, List.lookup_cons, List.lookup_nil, Bool.false_eq_true, List.set_set, beq_self_eq_true, Option.isNone_none, Option.map_none, Option.bind_none, km2, uk]) (by simp only [List.lookup_cons, beq_self_eq_true, bq_UnknownEnvelope_InvalidPlace, qe_UnknownEnvelope_InvalidPlace])) rfl (fNe_self (shaped_T (by decide +kernel)))
end
end Lw

namespace Lw
open PySem L2 Fi
def NM : List Str := ["rent", "food", "fun", "trip", "car", "gift"]
theorem NM_good : ∀ z ∈ NM, Good z := by
  intro z hz
  simp only [NM, List.mem_cons, List.not_mem_nil, or_false] at hz
  rcases hz with rfl | rfl | rfl | rfl | rfl | rfl <;> exact ⟨by kernel_rfl, by decide +kernel⟩
theorem NM_cut {k : Nat} (h1 : 2 ≤ k) (h2 : k ≤ 6) : (NM.take k).length = k ∧ (NM.take k).Nodup ∧ ("zoe" : Str) ∉ NM.take k ∧ ∀ z ∈ NM.take k, Good z := by
  refine ⟨?_, ?_, fun z => absurd (List.mem_of_mem_take z) (by decide +kernel), fun z hz => NM_good z (List.mem_of_mem_take hz)⟩
  · rw [List.length_take]
    show min k 6 = k
    omega
  · match k, h1, h2 with
    | 2, _, _ => decide +kernel
    | 3, _, _ => decide +kernel
    | 4, _, _ => decide +kernel
    | 5, _, _ => decide +kernel
    | 6, _, _ => decide +kernel
theorem enumD_get {zs : List Str} {i : Nat} {d : Ob.D} (h : ((enumD (zs.map PyData.str)).map Ob.D.py)[i]? = some d) : ∃ z, zs[i]? = some z ∧ d = .py (.tuple [.int i, .str z]) := by
  unfold enumD at h
  rw [List.getElem?_map, List.getElem?_zipWith, List.getElem?_map] at h
  cases he : zs[i]? with
  | none =>
    rw [he] at h
    simp at h
  | some e =>
    have hi : i < zs.length := (List.getElem?_eq_some_iff.mp he).1
    rw [he, List.getElem?_range (by rw [List.length_map]; exact hi)] at h
    cases h
    exact ⟨e, rfl, rfl⟩
section
variable {x0 x1 x2 x3 x4 x5 x6 x7 x8 x9 x10 x11 x12 x13 x14 : Option Ob.Sl}
theorem lc_rows2 : ∀ {rs : List Rw} {st : Ob.Stor}, (∀ r ∈ rs, r.Ok) →
    Ob.lcD (Ob.gTup 3 (Ob.gsCons (Ob.gSet 7) (Ob.gsCons (Ob.gSet 8) (Ob.gsCons (Ob.gSet 14) Ob.gsNil)))) Ob.pYes (Ob.eMake F_Envelope___init__ "Envelope" 3 (Ob.pL (aCons (eVar 7) (aCons (eVar 8) (aCons (eVar 14) aNil))))) [x0, x1, x2, x3, x4, x5, x6, none, none, x9, x10, x11, x12, x13, none] ((rs.map Rw.tup).map Ob.D.py) st = some ((mkR st.length rs).map Ev.o, st ++ (mkR st.length rs).map Ev.oj)
  | [], st, _ => by simp [Ob.lcD, mkR]
  | r :: rs, st, hg => by
    have g := hg r (List.mem_cons_self ..)
    have e := in_E (st := st) (nm := r.nm) g.g.nm g.c1 g.c2 g.h0 g.h1
    have ih := lc_rows2 (rs := rs) (st := st ++ [(r.ev st.length).oj]) fun y hy => hg y (List.mem_cons_of_mem _ hy)
    rw [List.length_append, List.append_assoc] at ih
    rw [mkR, List.map_cons, List.map_cons, List.map_cons, List.map_cons]
    exact lcD_yes (s1 := st ++ [(r.ev st.length).oj]) (e1 := [x0, x1, x2, x3, x4, x5, x6, V (cT r.nm), V (cI r.cap), x9, x10, x11, x12, x13, V (cI r.h)]) rfl (by simp only [sSeq, sSet, sOwn, sPar, sParL,  sIf, sRet, sRetL, sRetO, sDrop, sAug, sApp, sFrz, frz, sAsg, gSet, gsNil, gsCons, gTupF, Fi.gSub, sFor, iL, iT, iR1, iR2, iZ, iEn, itemsK, eVar, eC, Fi.e2, Fi.e1, asB, eChain, tAndF, tOrF, tNotF, eAnd, eOr, eNot, eIf, aNil, aCons, eTup, lLst, eL, eCall, lCall, eCallF, lCallF, eSlT, lSl, oNone, oSome, ownIx, ownLen, lLc, wipeE, pYes, sNext, fnD, entry, fAdd_int, fSub, fMul_l, fMul_r, fDiv_ok, fMod_ok, fPow_ok, fLt, fLe, fGt, fGe, fEq_int, fEq_str, fEq_bool, fNe_int, fNe_str, fNe_bool, isN, fIs, fIsNot, fIx, fNeg, fLen, fMin, fMax, fTuple, fList, fIntB, fSum, fAll, fAny, at_0, at_1, at_2, eT, eS, eStep, eR, getInts_map, Option.bind_some, Option.map_some, List.getElem?_cons_succ, List.getElem?_cons_zero, List.set_cons_succ, List.set_cons_zero, List.length_cons, List.length_nil, List.length_map, List.map_cons, List.map_nil, List.nil_append, List.cons_append, List.replicate, Nat.zero_add, Nat.reduceAdd, Nat.reduceSub, decide_true, decide_false, reduceIte, Nat.reduceLeDiff, Nat.reduceLT, Int.reduceLT, Int.reduceLE, Int.reduceNeg, Int.reducePow, and_self, or_self, and_true, true_and, or_true, true_or, Bool.not_true, Bool.not_false, pour_spend, spend_pour, Ob.sSeq, Ob.sSet, Ob.sOwn, Ob.sIf, Ob.sRet, Ob.sRetL, Ob.sRetO, Ob.sRetN, Ob.sDrop, Ob.sApp, Ob.sAug, Ob.sFrz, Ob.frz, Ob.sAsg, Ob.sPar, Ob.sE, Ob.bnd, Ob.lft, Ob.gSet, Ob.gsNil, Ob.gsCons, Ob.gTup, Ob.gLst, Ob.sFor, Ob.iL, Ob.iT, Ob.eVar, Ob.e2, Ob.op2, Ob.asB, Ob.truD, Ob.eChain, Ob.tAndF, Ob.tOrF, Ob.tNotF, Ob.eAnd, Ob.eOr, Ob.eNot, Ob.eIf, Ob.aNil, Ob.aCons, Ob.eTup, Ob.mkT, Ob.lLst, Ob.eL, Ob.mkL, Ob.eCall, Ob.pyAll, Ob.pE, Ob.pL, Ob.pT, Ob.pv, Ob.pvS, Ob.eIx, Ob.ixD, Ob.D.lst?, Ob.D.tup?, Ob.lLc, Ob.lcD, Ob.wipeE, Ob.pYes, Ob.sNext, Ob.fnO, Ob.entry, Ob.goE, Ob.goL, Ob.goN, Ob.eG, Ob.lG, Ob.eP, Ob.eFld, Ob.fld, Ob.sFld, Ob.setFld, Ob.putD, Ob.sFldAug, Ob.clsOf, Ob.eMeth, Ob.eMeth0, Ob.pick, Ob.eProp, Ob.pickP, Ob.eMake, Ob.eMakeK, Ob.made, Ob.eSup, Ob.eSup0, Ob.eSupK, Ob.Mr.list, Ob.eIsC, Ob.isC, Ob.sRaise, Ob.eLenSet, Ob.lenSet, List.lookup_cons, List.lookup_nil, Bool.false_eq_true, List.set_set, beq_self_eq_true, Option.isNone_none, Option.map_none, Option.bind_none, e]; rfl) ih
end
section
variable {st : Ob.Stor}
theorem read_ok {t nm nb : Str} {c : Int} (h1 : fCount (.str t) (.str ":") = some (.int 1)) (h2 : fCount (.str t) (.str "/") = some (.int 0)) (h3 : fSplit (.str t) (.str ":") = some [.str nm, .str nb]) (h4 : fSplit (.str nb) (.str "/") = some [.str nb]) (h5 : F_Envelope_is_name [.str nm] = some (.val (.bool true))) (h6 : F_is_number_text [.str nb] = some (.val (.bool true))) (h7 : fIntT [.str nb] = some (.int c)) (c1 : 1 ≤ c) (c2 : c ≤ 1000000) :
    F_Envelope_read [.cls "Envelope", cT t] st = some (.ok (.val (.obj st.length)) (st ++ [oE (cT nm) c 0])) := by
  have e := in_E (st := st) (nm := nm) (cap := c) (h := 0) h5 c1 c2 (by decide) (by omega)
  have i1 : kitB (tyD (.str t)) "str" = some true := rfl
  have n1 : ¬ c < 0 := by omega
  have a1 : atI [PyData.str nb] (-1) = some (.str nb) := rfl
  simp only [sSeq, sSet, sOwn, sPar, sParL,  sIf, sRet, sRetL, sRetO, sDrop, sAug, sApp, sFrz, frz, sAsg, gSet, gsNil, gsCons, gTupF, Fi.gSub, sFor, iL, iT, iR1, iR2, iZ, iEn, itemsK, eVar, eC, Fi.e2, Fi.e1, asB, eChain, tAndF, tOrF, tNotF, eAnd, eOr, eNot, eIf, aNil, aCons, eTup, lLst, eL, eCall, lCall, eCallF, lCallF, eSlT, lSl, oNone, oSome, ownIx, ownLen, lLc, wipeE, pYes, sNext, fnD, entry, fAdd_int, fSub, fMul_l, fMul_r, fDiv_ok, fMod_ok, fPow_ok, fLt, fLe, fGt, fGe, fEq_int, fEq_str, fEq_bool, fNe_int, fNe_str, fNe_bool, isN, fIs, fIsNot, fIx, fNeg, fLen, fMin, fMax, fTuple, fList, fIntB, fSum, fAll, fAny, at_0, at_1, at_2, eT, eS, eStep, eR, getInts_map, Option.bind_some, Option.map_some, List.getElem?_cons_succ, List.getElem?_cons_zero, List.set_cons_succ, List.set_cons_zero, List.length_cons, List.length_nil, List.length_map, List.map_cons, List.map_nil, List.nil_append, List.cons_append, List.replicate, Nat.zero_add, Nat.reduceAdd, Nat.reduceSub, decide_true, decide_false, reduceIte, Nat.reduceLeDiff, Nat.reduceLT, Int.reduceLT, Int.reduceLE, Int.reduceNeg, Int.reducePow, and_self, or_self, and_true, true_and, or_true, true_or, Bool.not_true, Bool.not_false, pour_spend, spend_pour, Ob.sSeq, Ob.sSet, Ob.sOwn, Ob.sIf, Ob.sRet, Ob.sRetL, Ob.sRetO, Ob.sRetN, Ob.sDrop, Ob.sApp, Ob.sAug, Ob.sFrz, Ob.frz, Ob.sAsg, Ob.sPar, Ob.sE, Ob.bnd, Ob.lft, Ob.gSet, Ob.gsNil, Ob.gsCons, Ob.gTup, Ob.gLst, Ob.sFor, Ob.iL, Ob.iT, Ob.eVar, Ob.e2, Ob.op2, Ob.asB, Ob.truD, Ob.eChain, Ob.tAndF, Ob.tOrF, Ob.tNotF, Ob.eAnd, Ob.eOr, Ob.eNot, Ob.eIf, Ob.aNil, Ob.aCons, Ob.eTup, Ob.mkT, Ob.lLst, Ob.eL, Ob.mkL, Ob.eCall, Ob.pyAll, Ob.pE, Ob.pL, Ob.pT, Ob.pv, Ob.pvS, Ob.eIx, Ob.ixD, Ob.D.lst?, Ob.D.tup?, Ob.lLc, Ob.lcD, Ob.wipeE, Ob.pYes, Ob.sNext, Ob.fnO, Ob.entry, Ob.goE, Ob.goL, Ob.goN, Ob.eG, Ob.lG, Ob.eP, Ob.eFld, Ob.fld, Ob.sFld, Ob.setFld, Ob.putD, Ob.sFldAug, Ob.clsOf, Ob.eMeth, Ob.eMeth0, Ob.pick, Ob.eProp, Ob.pickP, Ob.eMake, Ob.eMakeK, Ob.made, Ob.eSup, Ob.eSup0, Ob.eSupK, Ob.Mr.list, Ob.eIsC, Ob.isC, Ob.sRaise, Ob.eLenSet, Ob.lenSet, List.lookup_cons, List.lookup_nil, Bool.false_eq_true, List.set_set, beq_self_eq_true, Option.isNone_none, Option.map_none, Option.bind_none, F_Envelope_read, b_Envelope_read, eIsI, i1, h1, h2, lSplit, h3, h4, h5, lLc, lcD, h6, a1, fNeg, h7, c1, c2, n1, Ob.eMakeV, e, Ob.gLst, show getBools [PyData.bool true] = some [true] from rfl, show [true].all id = true from rfl, show decide (((1 : Nat) : Int) = 2) = false from rfl, Bool.not_true]
end
end Lw

namespace Lw
open PySem L2 Fi
theorem rows_loop {ds : List Int} (hds : ds.length = 90) {zs : List Str} (hz : zs.length ≤ 6) (hg : ∀ z ∈ zs, Good z) {st : Ob.Stor} {sl : List PyData} (x1 x2 x6 x7 x8 x9 x10 x11 x12 x13 x14 : Option Ob.Sl) :
    ∃ (rs : List Rw) (y6 y7 y8 : Option Ob.Sl), Ob.forD (Ob.gTup 2 (Ob.gsCons (Ob.gSet 6) (Ob.gsCons (Ob.gSet 7) Ob.gsNil))) lp_law_0 ((enumD (zs.map PyData.str)).map Ob.D.py) [V (.py (.list sl)), x1, x2, V (.py (.list (ds.map .int))), V (.py (.list (zs.map .str))), some (.own []), x6, x7, x8, x9, x10, x11, x12, x13, x14] st = some (.next [V (.py (.list sl)), x1, x2, V (.py (.list (ds.map .int))), V (.py (.list (zs.map .str))), some (.own ((rs.map Rw.tup).map Ob.D.py)), y6, y7, y8, x9, x10, x11, x12, x13, x14] st) ∧ rs.map (·.nm) = zs ∧ ∀ r ∈ rs, r.Ok := by
  obtain ⟨e, s, f, hs, rs, hn, hok, y6, y7, y8, rfl⟩ : ∃ e s, Ob.forD (Ob.gTup 2 (Ob.gsCons (Ob.gSet 6) (Ob.gsCons (Ob.gSet 7) Ob.gsNil))) lp_law_0 ((enumD (zs.map PyData.str)).map Ob.D.py) [V (.py (.list sl)), x1, x2, V (.py (.list (ds.map .int))), V (.py (.list (zs.map .str))), some (.own []), x6, x7, x8, x9, x10, x11, x12, x13, x14] st = some (.next e s) ∧ s = st ∧ ∃ rs : List Rw, rs.map (·.nm) = zs.take (0 + ((enumD (zs.map PyData.str)).map Ob.D.py).length) ∧ (∀ r ∈ rs, r.Ok) ∧ ∃ y6 y7 y8, e = [V (.py (.list sl)), x1, x2, V (.py (.list (ds.map .int))), V (.py (.list (zs.map .str))), some (.own ((rs.map Rw.tup).map Ob.D.py)), y6, y7, y8, x9, x10, x11, x12, x13, x14] := by
    refine ofor_inv (fun i e s => s = st ∧ ∃ rs : List Rw, rs.map (·.nm) = zs.take i ∧ (∀ r ∈ rs, r.Ok) ∧ ∃ y6 y7 y8, e = [V (.py (.list sl)), x1, x2, V (.py (.list (ds.map .int))), V (.py (.list (zs.map .str))), some (.own ((rs.map Rw.tup).map Ob.D.py)), y6, y7, y8, x9, x10, x11, x12, x13, x14]) _ 0 _ _ ⟨rfl, [], rfl, fun _ h => absurd h List.not_mem_nil, x6, x7, x8, rfl⟩ fun i d e s hd he => ?_
    obtain ⟨hs, rs, hn, hok, y6, y7, y8, rfl⟩ := he
    obtain ⟨z, h1, rfl⟩ := enumD_get hd
    rw [Nat.zero_add] at hn ⊢
    have hi : i < zs.length := (List.getElem?_eq_some_iff.mp h1).1
    have i0 := at_getZ (l := ds) (z := 1 + (i : Int)) (by omega) (by omega)
    have i1 := at_getZ (l := ds) (z := 10 + (i : Int)) (by omega) (by omega)
    generalize ds.getD (1 + (i : Int)).toNat 0 = v0 at i0
    generalize ds.getD (10 + (i : Int)).toNat 0 = v1 at i1
    have m0 : fMod (.int v0) (.int 90) = some (.int (v0 % 90)) := fMod_ok (by decide)
    have b0 := Int.emod_nonneg v0 (show (90 : Int) ≠ 0 by decide)
    have b1 := Int.emod_lt_of_pos v0 (show (0 : Int) < 90 by decide)
    have c1 : 1 ≤ 1 + v0 % 90 := by omega
    have c2 : 1 + v0 % 90 ≤ 1000000 := by omega
    generalize hc : 1 + v0 % 90 = cap at *
    have m1 : fMod (.int v1) (.int (cap + 1)) = some (.int (v1 % (cap + 1))) := fMod_ok (by omega)
    have d0 := Int.emod_nonneg v1 (show cap + 1 ≠ 0 by omega)
    have d1 := Int.emod_lt_of_pos v1 (show 0 < cap + 1 by omega)
    generalize v1 % (cap + 1) = h at *
    have hl : (rs.map Rw.tup).length < 100000 := by
      have := congrArg List.length hn
      rw [List.length_map, List.length_take] at this
      rw [List.length_map]
      omega
    refine ⟨[V (.py (.list sl)), x1, x2, V (.py (.list (ds.map .int))), V (.py (.list (zs.map .str))), some (.own ((rs.map Rw.tup).map Ob.D.py)), V (cI i), V (cT z), y8, x9, x10, x11, x12, x13, x14], [V (.py (.list sl)), x1, x2, V (.py (.list (ds.map .int))), V (.py (.list (zs.map .str))), some (.own (((rs ++ [(⟨z, cap, h⟩ : Rw)]).map Rw.tup).map Ob.D.py)), V (cI i), V (cT z), V (cI cap), x9, x10, x11, x12, x13, x14], st, rfl, ?_, rfl, rs ++ [(⟨z, cap, h⟩ : Rw)], ?_, ?_, V (cI i), V (cT z), V (cI cap), rfl⟩
    · rw [hs, List.map_append, List.map_append]
      generalize rs.map Rw.tup = rl at *
      generalize ds.map PyData.int = dsl at *
      generalize zs.map PyData.str = zsl at *
      simp only [sSeq, sSet, sOwn, sPar, sParL,  sIf, sRet, sRetL, sRetO, sDrop, sAug, sApp, sFrz, frz, sAsg, gSet, gsNil, gsCons, gTupF, Fi.gSub, sFor, iL, iT, iR1, iR2, iZ, iEn, itemsK, eVar, eC, Fi.e2, Fi.e1, asB, eChain, tAndF, tOrF, tNotF, eAnd, eOr, eNot, eIf, aNil, aCons, eTup, lLst, eL, eCall, lCall, eCallF, lCallF, eSlT, lSl, oNone, oSome, ownIx, ownLen, lLc, wipeE, pYes, sNext, fnD, entry, fAdd_int, fSub, fMul_l, fMul_r, fDiv_ok, fMod_ok, fPow_ok, fLt, fLe, fGt, fGe, fEq_int, fEq_str, fEq_bool, fNe_int, fNe_str, fNe_bool, isN, fIs, fIsNot, fIx, fNeg, fLen, fMin, fMax, fTuple, fList, fIntB, fSum, fAll, fAny, at_0, at_1, at_2, eT, eS, eStep, eR, getInts_map, Option.bind_some, Option.map_some, List.getElem?_cons_succ, List.getElem?_cons_zero, List.set_cons_succ, List.set_cons_zero, List.length_cons, List.length_nil, List.length_map, List.map_cons, List.map_nil, List.nil_append, List.cons_append, List.replicate, Nat.zero_add, Nat.reduceAdd, Nat.reduceSub, decide_true, decide_false, reduceIte, Nat.reduceLeDiff, Nat.reduceLT, Int.reduceLT, Int.reduceLE, Int.reduceNeg, Int.reducePow, and_self, or_self, and_true, true_and, or_true, true_or, Bool.not_true, Bool.not_false, pour_spend, spend_pour, Ob.sSeq, Ob.sSet, Ob.sOwn, Ob.sIf, Ob.sRet, Ob.sRetL, Ob.sRetO, Ob.sRetN, Ob.sDrop, Ob.sApp, Ob.sAug, Ob.sFrz, Ob.frz, Ob.sAsg, Ob.sPar, Ob.sE, Ob.bnd, Ob.lft, Ob.gSet, Ob.gsNil, Ob.gsCons, Ob.gTup, Ob.gLst, Ob.sFor, Ob.iL, Ob.iT, Ob.eVar, Ob.e2, Ob.op2, Ob.asB, Ob.truD, Ob.eChain, Ob.tAndF, Ob.tOrF, Ob.tNotF, Ob.eAnd, Ob.eOr, Ob.eNot, Ob.eIf, Ob.aNil, Ob.aCons, Ob.eTup, Ob.mkT, Ob.lLst, Ob.eL, Ob.mkL, Ob.eCall, Ob.pyAll, Ob.pE, Ob.pL, Ob.pT, Ob.pv, Ob.pvS, Ob.eIx, Ob.ixD, Ob.D.lst?, Ob.D.tup?, Ob.lLc, Ob.lcD, Ob.wipeE, Ob.pYes, Ob.sNext, Ob.fnO, Ob.entry, Ob.goE, Ob.goL, Ob.goN, Ob.eG, Ob.lG, Ob.eP, Ob.eFld, Ob.fld, Ob.sFld, Ob.setFld, Ob.putD, Ob.sFldAug, Ob.clsOf, Ob.eMeth, Ob.eMeth0, Ob.pick, Ob.eProp, Ob.pickP, Ob.eMake, Ob.eMakeK, Ob.made, Ob.eSup, Ob.eSup0, Ob.eSupK, Ob.Mr.list, Ob.eIsC, Ob.isC, Ob.sRaise, Ob.eLenSet, Ob.lenSet, List.lookup_cons, List.lookup_nil, Bool.false_eq_true, List.set_set, beq_self_eq_true, Option.isNone_none, Option.map_none, Option.bind_none, lp_law_0, q_law_1, i0, m0, hc, i1, m1, hl, Rw.tup]
    · rw [List.map_append, hn, List.take_add_one, h1]
      rfl
    · intro r hr
      rcases List.mem_append.mp hr with hr | hr
      · exact hok r hr
      · rw [List.mem_singleton.mp hr]
        exact ⟨hg z (List.mem_of_getElem? h1), c1, c2, d0, by show h ≤ cap; omega⟩
  rw [hs] at f
  refine ⟨rs, y6, y7, y8, f, ?_, hok⟩
  rw [hn, Nat.zero_add, List.length_map, show (enumD (zs.map PyData.str)).length = zs.length by unfold enumD; rw [List.length_zipWith, List.length_range, List.length_map, Nat.min_self], List.take_length]
theorem out11 (ns : List Int) (hl : ns.length ≤ 63) (k : Nat) (hk : k < 8) (st : Ob.Stor) (tb : st[0]? = some (.tab "law")) (x2 x3 x4 x5 x6 x7 x8 x9 x10 x11 x12 x13 x14 : Option Ob.Sl) : ∃ y2 y3 y4 y5 y6 y7 y8 y9 y10 y11 y12 y13 y14 s', lp_law_3 [V (.py (.list (ns.map .int))), V (cI k), x2, x3, x4, x5, x6, x7, x8, x9, x10, x11, x12, x13, x14] st = some (.next [V (.py (.list (ns.map .int))), V (cI k), y2, y3, y4, y5, y6, y7, y8, y9, y10, y11, y12, y13, y14] s') ∧ s'[0]? = some (.tab "law") := by
  obtain ⟨ds, hds, hd, e1⟩ := digits_ok ns hl k (by omega) 90 (by decide) 27720 (by decide)
  replace e1 : F__law_digits [.list (ns.map .int), .int k, .int 90, .int 27720] = some (.own (ds.map .int)) := e1
  have i0 := at_getZ (l := ds) (z := 0) (by omega) (by omega)
  generalize ds.getD (0 : Int).toNat 0 = v0 at i0
  have m0 : fMod (.int v0) (.int 5) = some (.int (v0 % 5)) := fMod_ok (by decide)
  have k0 := Int.emod_nonneg v0 (show (5 : Int) ≠ 0 by decide)
  have k1 := Int.emod_lt_of_pos v0 (show (0 : Int) < 5 by decide)
  obtain ⟨K, hK⟩ : ∃ K : Nat, 2 + v0 % 5 = K := ⟨(2 + v0 % 5).toNat, by omega⟩
  obtain ⟨z1, z2, z3, z4⟩ := NM_cut (k := K) (by omega) (by omega)
  have nmo : F__law_names [] = some (.own (NM.map .str)) := by kernel_rfl
  have xc : cutD (NM.map PyData.str) none (some (K : Int)) = (NM.take K).map PyData.str := by rw [cut_to, List.map_take]
  generalize NM.take K = zs at *
  obtain ⟨rs, w6, w7, w8, f1, hn, hok⟩ := rows_loop hds (by omega) z4 (st := st) (sl := ns.map .int) (V (cI k)) x2 x6 x7 x8 x9 x10 x11 x12 x13 x14
  have rl : rs.length = zs.length := by rw [← hn, List.length_map]
  have hdn : (rs.map (·.nm)).Nodup := by rw [hn]; exact z2
  have r1 : rs ≠ [] := fun z => by rw [z] at rl; simp at rl; omega
  obtain ⟨a1, R1, p1⟩ := rowplan (st := st) hok hdn r1 (by omega)
  have lc1 : lc_law_0 [V (.py (.list (ns.map .int))), V (cI k), x2, V (.py (.list (ds.map .int))), V (.py (.list (zs.map .str))), V (.py (.list (rs.map Rw.tup))), w6, w7, w8, x9, x10, x11, x12, x13, x14] st = some (.ok ((mkR st.length rs).map Ev.o) (st ++ (mkR st.length rs).map Ev.oj)) := lLc_ok (ds := (rs.map Rw.tup).map Ob.D.py) (s1 := st) (by simp only [sSeq, sSet, sOwn, sPar, sParL,  sIf, sRet, sRetL, sRetO, sDrop, sAug, sApp, sFrz, frz, sAsg, gSet, gsNil, gsCons, gTupF, Fi.gSub, sFor, iL, iT, iR1, iR2, iZ, iEn, itemsK, eVar, eC, Fi.e2, Fi.e1, asB, eChain, tAndF, tOrF, tNotF, eAnd, eOr, eNot, eIf, aNil, aCons, eTup, lLst, eL, eCall, lCall, eCallF, lCallF, eSlT, lSl, oNone, oSome, ownIx, ownLen, lLc, wipeE, pYes, sNext, fnD, entry, fAdd_int, fSub, fMul_l, fMul_r, fDiv_ok, fMod_ok, fPow_ok, fLt, fLe, fGt, fGe, fEq_int, fEq_str, fEq_bool, fNe_int, fNe_str, fNe_bool, isN, fIs, fIsNot, fIx, fNeg, fLen, fMin, fMax, fTuple, fList, fIntB, fSum, fAll, fAny, at_0, at_1, at_2, eT, eS, eStep, eR, getInts_map, Option.bind_some, Option.map_some, List.getElem?_cons_succ, List.getElem?_cons_zero, List.set_cons_succ, List.set_cons_zero, List.length_cons, List.length_nil, List.length_map, List.map_cons, List.map_nil, List.nil_append, List.cons_append, List.replicate, Nat.zero_add, Nat.reduceAdd, Nat.reduceSub, decide_true, decide_false, reduceIte, Nat.reduceLeDiff, Nat.reduceLT, Int.reduceLT, Int.reduceLE, Int.reduceNeg, Int.reducePow, and_self, or_self, and_true, true_and, or_true, true_or, Bool.not_true, Bool.not_false, pour_spend, spend_pour, Ob.sSeq, Ob.sSet, Ob.sOwn, Ob.sIf, Ob.sRet, Ob.sRetL, Ob.sRetO, Ob.sRetN, Ob.sDrop, Ob.sApp, Ob.sAug, Ob.sFrz, Ob.frz, Ob.sAsg, Ob.sPar, Ob.sE, Ob.bnd, Ob.lft, Ob.gSet, Ob.gsNil, Ob.gsCons, Ob.gTup, Ob.gLst, Ob.sFor, Ob.iL, Ob.iT, Ob.eVar, Ob.e2, Ob.op2, Ob.asB, Ob.truD, Ob.eChain, Ob.tAndF, Ob.tOrF, Ob.tNotF, Ob.eAnd, Ob.eOr, Ob.eNot, Ob.eIf, Ob.aNil, Ob.aCons, Ob.eTup, Ob.mkT, Ob.lLst, Ob.eL, Ob.mkL, Ob.eCall, Ob.pyAll, Ob.pE, Ob.pL, Ob.pT, Ob.pv, Ob.pvS, Ob.eIx, Ob.ixD, Ob.D.lst?, Ob.D.tup?, Ob.lLc, Ob.lcD, Ob.wipeE, Ob.pYes, Ob.sNext, Ob.fnO, Ob.entry, Ob.goE, Ob.goL, Ob.goN, Ob.eG, Ob.lG, Ob.eP, Ob.eFld, Ob.fld, Ob.sFld, Ob.setFld, Ob.putD, Ob.sFldAug, Ob.clsOf, Ob.eMeth, Ob.eMeth0, Ob.pick, Ob.eProp, Ob.pickP, Ob.eMake, Ob.eMakeK, Ob.made, Ob.eSup, Ob.eSup0, Ob.eSupK, Ob.Mr.list, Ob.eIsC, Ob.isC, Ob.sRaise, Ob.eLenSet, Ob.lenSet, List.lookup_cons, List.lookup_nil, Bool.false_eq_true, List.set_set, beq_self_eq_true, Option.isNone_none, Option.map_none, Option.bind_none]) (by rw [List.length_map, List.length_map]; omega) (lc_rows2 hok)
  have q1 : Ob.pyAll ((mkR st.length rs).map Ev.o) = none := pyAll_on fun z => by
    have := congrArg List.length z
    rw [mkR_len] at this
    exact r1 (List.length_eq_zero_iff.mp this)
  have tb1 := getL (l := (mkR st.length rs).map Ev.oj ++ [oP (mkR st.length rs) 0]) tb
  rw [← List.append_assoc] at tb1
  generalize hS : st ++ (mkR st.length rs).map Ev.oj ++ [oP (mkR st.length rs) 0] = S at *
  generalize hp : st.length + rs.length = p at *
  have M0 : Mv S p zs (mkR st.length rs) := ⟨R1, p1, by rw [mkR_nm, hn], tb1⟩
  obtain ⟨e, s2, f2, ⟨es2, M2⟩, y6, u7, u8, u9, u10, u11, u12, u13, u14, rfl⟩ : ∃ e s, Ob.forD (Ob.gSet 6) lp_law_2 (((List.range 6).map fun (i : Nat) => PyData.int (i : Int)).map Ob.D.py) [V (.py (.list (ns.map .int))), V (cI k), V (.obj p), V (.py (.list (ds.map .int))), V (.py (.list (zs.map .str))), V (.py (.list (rs.map Rw.tup))), w6, w7, w8, x9, x10, x11, x12, x13, x14] S = some (.next e s) ∧ (∃ es, Mv s p zs es) ∧ ∃ y6 u7 u8 u9 u10 u11 u12 u13 u14, e = [V (.py (.list (ns.map .int))), V (cI k), V (.obj p), V (.py (.list (ds.map .int))), V (.py (.list (zs.map .str))), V (.py (.list (rs.map Rw.tup))), y6, u7, u8, u9, u10, u11, u12, u13, u14] := by
    refine ofor_inv (fun _ e s => (∃ es, Mv s p zs es) ∧ ∃ y6 u7 u8 u9 u10 u11 u12 u13 u14, e = [V (.py (.list (ns.map .int))), V (cI k), V (.obj p), V (.py (.list (ds.map .int))), V (.py (.list (zs.map .str))), V (.py (.list (rs.map Rw.tup))), y6, u7, u8, u9, u10, u11, u12, u13, u14]) _ 0 _ _ ⟨⟨_, M0⟩, w6, w7, w8, x9, x10, x11, x12, x13, x14, rfl⟩ fun i d e s hd he => ?_
    obtain ⟨⟨es, M⟩, y6, u7, u8, u9, u10, u11, u12, u13, u14, rfl⟩ := he
    obtain ⟨hi, rfl⟩ := orange_get hd
    obtain ⟨es', s', v7, v8, v9, v10, v11, v12, v13, v14, h, M'⟩ := mv_turn (x0 := V (.py (.list (ns.map .int)))) (x1 := V (cI k)) (x5 := V (.py (.list (rs.map Rw.tup)))) (k := i) hds hi z2 (by omega) (by omega) (fun z hz => (z4 z hz).lay) z3 M u7 u8 u9 u10 u11 u12 u13 u14
    exact ⟨_, _, _, rfl, h, ⟨_, M'⟩, V (cI i), v7, v8, v9, v10, v11, v12, v13, v14, rfl⟩
  obtain ⟨s3, tb3, x3⟩ := exch_ok hds hok hdn (by omega) (by omega) s2 M2.tb
  rw [hn] at x3
  refine ⟨V (.obj p), V (.py (.list (ds.map .int))), V (.py (.list (zs.map .str))), V (.py (.list (rs.map Rw.tup))), y6, u7, u8, u9, u10, u11, u12, u13, u14, s3, ?_, tb3⟩
  generalize ns.map PyData.int = nsl at *
  generalize hdl : ds.map PyData.int = dsl at *
  generalize hzl : zs.map PyData.str = zsl at *
  generalize rs.map Rw.tup = rsl at *
  generalize st ++ (mkR st.length rs).map Ev.oj = T1 at *
  generalize (mkR st.length rs).map Ev.o = o1 at *
  unfold lp_law_3
  refine oseq (e := [V (.py (.list nsl)), V (cI k), x2, V (.py (.list dsl)), x4, x5, x6, x7, x8, x9, x10, x11, x12, x13, x14]) (s := st) (by simp only [sSeq, sSet, sOwn, sPar, sParL,  sIf, sRet, sRetL, sRetO, sDrop, sAug, sApp, sFrz, frz, sAsg, gSet, gsNil, gsCons, gTupF, Fi.gSub, sFor, iL, iT, iR1, iR2, iZ, iEn, itemsK, eVar, eC, Fi.e2, Fi.e1, asB, eChain, tAndF, tOrF, tNotF, eAnd, eOr, eNot, eIf, aNil, aCons, eTup, lLst, eL, eCall, lCall, eCallF, lCallF, eSlT, lSl, oNone, oSome, ownIx, ownLen, lLc, wipeE, pYes, sNext, fnD, entry, fAdd_int, fSub, fMul_l, fMul_r, fDiv_ok, fMod_ok, fPow_ok, fLt, fLe, fGt, fGe, fEq_int, fEq_str, fEq_bool, fNe_int, fNe_str, fNe_bool, isN, fIs, fIsNot, fIx, fNeg, fLen, fMin, fMax, fTuple, fList, fIntB, fSum, fAll, fAny, at_0, at_1, at_2, eT, eS, eStep, eR, getInts_map, Option.bind_some, Option.map_some, List.getElem?_cons_succ, List.getElem?_cons_zero, List.set_cons_succ, List.set_cons_zero, List.length_cons, List.length_nil, List.length_map, List.map_cons, List.map_nil, List.nil_append, List.cons_append, List.replicate, Nat.zero_add, Nat.reduceAdd, Nat.reduceSub, decide_true, decide_false, reduceIte, Nat.reduceLeDiff, Nat.reduceLT, Int.reduceLT, Int.reduceLE, Int.reduceNeg, Int.reducePow, and_self, or_self, and_true, true_and, or_true, true_or, Bool.not_true, Bool.not_false, pour_spend, spend_pour, Ob.sSeq, Ob.sSet, Ob.sOwn, Ob.sIf, Ob.sRet, Ob.sRetL, Ob.sRetO, Ob.sRetN, Ob.sDrop, Ob.sApp, Ob.sAug, Ob.sFrz, Ob.frz, Ob.sAsg, Ob.sPar, Ob.sE, Ob.bnd, Ob.lft, Ob.gSet, Ob.gsNil, Ob.gsCons, Ob.gTup, Ob.gLst, Ob.sFor, Ob.iL, Ob.iT, Ob.eVar, Ob.e2, Ob.op2, Ob.asB, Ob.truD, Ob.eChain, Ob.tAndF, Ob.tOrF, Ob.tNotF, Ob.eAnd, Ob.eOr, Ob.eNot, Ob.eIf, Ob.aNil, Ob.aCons, Ob.eTup, Ob.mkT, Ob.lLst, Ob.eL, Ob.mkL, Ob.eCall, Ob.pyAll, Ob.pE, Ob.pL, Ob.pT, Ob.pv, Ob.pvS, Ob.eIx, Ob.ixD, Ob.D.lst?, Ob.D.tup?, Ob.lLc, Ob.lcD, Ob.wipeE, Ob.pYes, Ob.sNext, Ob.fnO, Ob.entry, Ob.goE, Ob.goL, Ob.goN, Ob.eG, Ob.lG, Ob.eP, Ob.eFld, Ob.fld, Ob.sFld, Ob.setFld, Ob.putD, Ob.sFldAug, Ob.clsOf, Ob.eMeth, Ob.eMeth0, Ob.eProp, Ob.eMake, Ob.eMakeK, Ob.made, Ob.eSup, Ob.eSup0, Ob.eSupK, Ob.Mr.list, Ob.eIsC, Ob.isC, Ob.sRaise, Ob.eLenSet, Ob.lenSet, List.lookup_cons, List.lookup_nil, Bool.false_eq_true, List.set_set, beq_self_eq_true, Option.isNone_none, Option.map_none, Option.bind_none, e1]) ?_
  refine oseq (e := [V (.py (.list nsl)), V (cI k), x2, V (.py (.list dsl)), V (.py (.list zsl)), x5, x6, x7, x8, x9, x10, x11, x12, x13, x14]) (s := st) (by generalize NM.map PyData.str = nms at *; simp only [sSeq, sSet, sOwn, sPar, sParL,  sIf, sRet, sRetL, sRetO, sDrop, sAug, sApp, sFrz, frz, sAsg, gSet, gsNil, gsCons, gTupF, Fi.gSub, sFor, iL, iT, iR1, iR2, iZ, iEn, itemsK, eVar, eC, Fi.e2, Fi.e1, asB, eChain, tAndF, tOrF, tNotF, eAnd, eOr, eNot, eIf, aNil, aCons, eTup, lLst, eL, eCall, lCall, eCallF, lCallF, eSlT, lSl, oNone, oSome, ownIx, ownLen, lLc, wipeE, pYes, sNext, fnD, entry, fAdd_int, fSub, fMul_l, fMul_r, fDiv_ok, fMod_ok, fPow_ok, fLt, fLe, fGt, fGe, fEq_int, fEq_str, fEq_bool, fNe_int, fNe_str, fNe_bool, isN, fIs, fIsNot, fIx, fNeg, fLen, fMin, fMax, fTuple, fList, fIntB, fSum, fAll, fAny, at_0, at_1, at_2, eT, eS, eStep, eR, getInts_map, Option.bind_some, Option.map_some, List.getElem?_cons_succ, List.getElem?_cons_zero, List.set_cons_succ, List.set_cons_zero, List.length_cons, List.length_nil, List.length_map, List.map_cons, List.map_nil, List.nil_append, List.cons_append, List.replicate, Nat.zero_add, Nat.reduceAdd, Nat.reduceSub, decide_true, decide_false, reduceIte, Nat.reduceLeDiff, Nat.reduceLT, Int.reduceLT, Int.reduceLE, Int.reduceNeg, Int.reducePow, and_self, or_self, and_true, true_and, or_true, true_or, Bool.not_true, Bool.not_false, pour_spend, spend_pour, Ob.sSeq, Ob.sSet, Ob.sOwn, Ob.sIf, Ob.sRet, Ob.sRetL, Ob.sRetO, Ob.sRetN, Ob.sDrop, Ob.sApp, Ob.sAug, Ob.sFrz, Ob.frz, Ob.sAsg, Ob.sPar, Ob.sE, Ob.bnd, Ob.lft, Ob.gSet, Ob.gsNil, Ob.gsCons, Ob.gTup, Ob.gLst, Ob.sFor, Ob.iL, Ob.iT, Ob.eVar, Ob.e2, Ob.op2, Ob.asB, Ob.truD, Ob.eChain, Ob.tAndF, Ob.tOrF, Ob.tNotF, Ob.eAnd, Ob.eOr, Ob.eNot, Ob.eIf, Ob.aNil, Ob.aCons, Ob.eTup, Ob.mkT, Ob.lLst, Ob.eL, Ob.mkL, Ob.eCall, Ob.pyAll, Ob.pE, Ob.pL, Ob.pT, Ob.pv, Ob.pvS, Ob.eIx, Ob.ixD, Ob.D.lst?, Ob.D.tup?, Ob.lLc, Ob.lcD, Ob.wipeE, Ob.pYes, Ob.sNext, Ob.fnO, Ob.entry, Ob.goE, Ob.goL, Ob.goN, Ob.eG, Ob.lG, Ob.eP, Ob.eFld, Ob.fld, Ob.sFld, Ob.setFld, Ob.putD, Ob.sFldAug, Ob.clsOf, Ob.eMeth, Ob.eMeth0, Ob.eProp, Ob.eMake, Ob.eMakeK, Ob.made, Ob.eSup, Ob.eSup0, Ob.eSupK, Ob.Mr.list, Ob.eIsC, Ob.isC, Ob.sRaise, Ob.eLenSet, Ob.lenSet, List.lookup_cons, List.lookup_nil, Bool.false_eq_true, List.set_set, beq_self_eq_true, Option.isNone_none, Option.map_none, Option.bind_none, q_law_0, nmo, lSl, i0, m0, hK, xc]) ?_
  refine oseq (e := [V (.py (.list nsl)), V (cI k), x2, V (.py (.list dsl)), V (.py (.list zsl)), some (.own []), x6, x7, x8, x9, x10, x11, x12, x13, x14]) (s := st) (by simp only [sSeq, sSet, sOwn, sPar, sParL,  sIf, sRet, sRetL, sRetO, sDrop, sAug, sApp, sFrz, frz, sAsg, gSet, gsNil, gsCons, gTupF, Fi.gSub, sFor, iL, iT, iR1, iR2, iZ, iEn, itemsK, eVar, eC, Fi.e2, Fi.e1, asB, eChain, tAndF, tOrF, tNotF, eAnd, eOr, eNot, eIf, aNil, aCons, eTup, lLst, eL, eCall, lCall, eCallF, lCallF, eSlT, lSl, oNone, oSome, ownIx, ownLen, lLc, wipeE, pYes, sNext, fnD, entry, fAdd_int, fSub, fMul_l, fMul_r, fDiv_ok, fMod_ok, fPow_ok, fLt, fLe, fGt, fGe, fEq_int, fEq_str, fEq_bool, fNe_int, fNe_str, fNe_bool, isN, fIs, fIsNot, fIx, fNeg, fLen, fMin, fMax, fTuple, fList, fIntB, fSum, fAll, fAny, at_0, at_1, at_2, eT, eS, eStep, eR, getInts_map, Option.bind_some, Option.map_some, List.getElem?_cons_succ, List.getElem?_cons_zero, List.set_cons_succ, List.set_cons_zero, List.length_cons, List.length_nil, List.length_map, List.map_cons, List.map_nil, List.nil_append, List.cons_append, List.replicate, Nat.zero_add, Nat.reduceAdd, Nat.reduceSub, decide_true, decide_false, reduceIte, Nat.reduceLeDiff, Nat.reduceLT, Int.reduceLT, Int.reduceLE, Int.reduceNeg, Int.reducePow, and_self, or_self, and_true, true_and, or_true, true_or, Bool.not_true, Bool.not_false, pour_spend, spend_pour, Ob.sSeq, Ob.sSet, Ob.sOwn, Ob.sIf, Ob.sRet, Ob.sRetL, Ob.sRetO, Ob.sRetN, Ob.sDrop, Ob.sApp, Ob.sAug, Ob.sFrz, Ob.frz, Ob.sAsg, Ob.sPar, Ob.sE, Ob.bnd, Ob.lft, Ob.gSet, Ob.gsNil, Ob.gsCons, Ob.gTup, Ob.gLst, Ob.sFor, Ob.iL, Ob.iT, Ob.eVar, Ob.e2, Ob.op2, Ob.asB, Ob.truD, Ob.eChain, Ob.tAndF, Ob.tOrF, Ob.tNotF, Ob.eAnd, Ob.eOr, Ob.eNot, Ob.eIf, Ob.aNil, Ob.aCons, Ob.eTup, Ob.mkT, Ob.lLst, Ob.eL, Ob.mkL, Ob.eCall, Ob.pyAll, Ob.pE, Ob.pL, Ob.pT, Ob.pv, Ob.pvS, Ob.eIx, Ob.ixD, Ob.D.lst?, Ob.D.tup?, Ob.lLc, Ob.lcD, Ob.wipeE, Ob.pYes, Ob.sNext, Ob.fnO, Ob.entry, Ob.goE, Ob.goL, Ob.goN, Ob.eG, Ob.lG, Ob.eP, Ob.eFld, Ob.fld, Ob.sFld, Ob.setFld, Ob.putD, Ob.sFldAug, Ob.clsOf, Ob.eMeth, Ob.eMeth0, Ob.eProp, Ob.eMake, Ob.eMakeK, Ob.made, Ob.eSup, Ob.eSup0, Ob.eSupK, Ob.Mr.list, Ob.eIsC, Ob.isC, Ob.sRaise, Ob.eLenSet, Ob.lenSet, List.lookup_cons, List.lookup_nil, Bool.false_eq_true, List.set_set, beq_self_eq_true, Option.isNone_none, Option.map_none, Option.bind_none]) ?_
  refine oseq (e := [V (.py (.list nsl)), V (cI k), x2, V (.py (.list dsl)), V (.py (.list zsl)), some (.own (rsl.map Ob.D.py)), w6, w7, w8, x9, x10, x11, x12, x13, x14]) (s := st) (by simp only [sSeq, sSet, sOwn, sPar, sParL,  sIf, sRet, sRetL, sRetO, sDrop, sAug, sApp, sFrz, frz, sAsg, gSet, gsNil, gsCons, gTupF, Fi.gSub, sFor, iL, iT, iR1, iR2, iZ, iEn, itemsK, eVar, eC, Fi.e2, Fi.e1, asB, eChain, tAndF, tOrF, tNotF, eAnd, eOr, eNot, eIf, aNil, aCons, eTup, lLst, eL, eCall, lCall, eCallF, lCallF, eSlT, lSl, oNone, oSome, ownIx, ownLen, lLc, wipeE, pYes, sNext, fnD, entry, fAdd_int, fSub, fMul_l, fMul_r, fDiv_ok, fMod_ok, fPow_ok, fLt, fLe, fGt, fGe, fEq_int, fEq_str, fEq_bool, fNe_int, fNe_str, fNe_bool, isN, fIs, fIsNot, fIx, fNeg, fLen, fMin, fMax, fTuple, fList, fIntB, fSum, fAll, fAny, at_0, at_1, at_2, eT, eS, eStep, eR, getInts_map, Option.bind_some, Option.map_some, List.getElem?_cons_succ, List.getElem?_cons_zero, List.set_cons_succ, List.set_cons_zero, List.length_cons, List.length_nil, List.length_map, List.map_cons, List.map_nil, List.nil_append, List.cons_append, List.replicate, Nat.zero_add, Nat.reduceAdd, Nat.reduceSub, decide_true, decide_false, reduceIte, Nat.reduceLeDiff, Nat.reduceLT, Int.reduceLT, Int.reduceLE, Int.reduceNeg, Int.reducePow, and_self, or_self, and_true, true_and, or_true, true_or, Bool.not_true, Bool.not_false, pour_spend, spend_pour, Ob.sSeq, Ob.sSet, Ob.sOwn, Ob.sIf, Ob.sRet, Ob.sRetL, Ob.sRetO, Ob.sRetN, Ob.sDrop, Ob.sApp, Ob.sAug, Ob.sFrz, Ob.frz, Ob.sAsg, Ob.sPar, Ob.sE, Ob.bnd, Ob.lft, Ob.gSet, Ob.gsNil, Ob.gsCons, Ob.gTup, Ob.gLst, Ob.sFor, Ob.iL, Ob.iT, Ob.eVar, Ob.e2, Ob.op2, Ob.asB, Ob.truD, Ob.eChain, Ob.tAndF, Ob.tOrF, Ob.tNotF, Ob.eAnd, Ob.eOr, Ob.eNot, Ob.eIf, Ob.aNil, Ob.aCons, Ob.eTup, Ob.mkT, Ob.lLst, Ob.eL, Ob.mkL, Ob.eCall, Ob.pyAll, Ob.pE, Ob.pL, Ob.pT, Ob.pv, Ob.pvS, Ob.eIx, Ob.ixD, Ob.D.lst?, Ob.D.tup?, Ob.lLc, Ob.lcD, Ob.wipeE, Ob.pYes, Ob.sNext, Ob.fnO, Ob.entry, Ob.goE, Ob.goL, Ob.goN, Ob.eG, Ob.lG, Ob.eP, Ob.eFld, Ob.fld, Ob.sFld, Ob.setFld, Ob.putD, Ob.sFldAug, Ob.clsOf, Ob.eMeth, Ob.eMeth0, Ob.eProp, Ob.eMake, Ob.eMakeK, Ob.made, Ob.eSup, Ob.eSup0, Ob.eSupK, Ob.Mr.list, Ob.eIsC, Ob.isC, Ob.sRaise, Ob.eLenSet, Ob.lenSet, List.lookup_cons, List.lookup_nil, Bool.false_eq_true, List.set_set, beq_self_eq_true, Option.isNone_none, Option.map_none, Option.bind_none, iEn, itemsK, f1]) ?_
  have z5 : Ob.frz 5 [V (.py (.list nsl)), V (cI k), x2, V (.py (.list dsl)), V (.py (.list zsl)), some (.own (rsl.map Ob.D.py)), w6, w7, w8, x9, x10, x11, x12, x13, x14] = [V (.py (.list nsl)), V (cI k), x2, V (.py (.list dsl)), V (.py (.list zsl)), V (.py (.list rsl)), w6, w7, w8, x9, x10, x11, x12, x13, x14] := by
    show [V (.py (.list nsl)), V (cI k), x2, V (.py (.list dsl)), V (.py (.list zsl)), V (Ob.mkL (rsl.map Ob.D.py)), w6, w7, w8, x9, x10, x11, x12, x13, x14] = _
    rw [Ob.mkL_py]
  show (Ob.sSeq _ _ : Ob.FS) (Ob.frz 5 _) st = _
  rw [z5]
  refine oseq (e := [V (.py (.list nsl)), V (cI k), V (.obj p), V (.py (.list dsl)), V (.py (.list zsl)), V (.py (.list rsl)), w6, w7, w8, x9, x10, x11, x12, x13, x14]) (s := S) (by simp only [sSeq, sSet, sOwn, sPar, sParL,  sIf, sRet, sRetL, sRetO, sDrop, sAug, sApp, sFrz, frz, sAsg, gSet, gsNil, gsCons, gTupF, Fi.gSub, sFor, iL, iT, iR1, iR2, iZ, iEn, itemsK, eVar, eC, Fi.e2, Fi.e1, asB, eChain, tAndF, tOrF, tNotF, eAnd, eOr, eNot, eIf, aNil, aCons, eTup, lLst, eL, eCall, lCall, eCallF, lCallF, eSlT, lSl, oNone, oSome, ownIx, ownLen, lLc, wipeE, pYes, sNext, fnD, entry, fAdd_int, fSub, fMul_l, fMul_r, fDiv_ok, fMod_ok, fPow_ok, fLt, fLe, fGt, fGe, fEq_int, fEq_str, fEq_bool, fNe_int, fNe_str, fNe_bool, isN, fIs, fIsNot, fIx, fNeg, fLen, fMin, fMax, fTuple, fList, fIntB, fSum, fAll, fAny, at_0, at_1, at_2, eT, eS, eStep, eR, getInts_map, Option.bind_some, Option.map_some, List.getElem?_cons_succ, List.getElem?_cons_zero, List.set_cons_succ, List.set_cons_zero, List.length_cons, List.length_nil, List.length_map, List.map_cons, List.map_nil, List.nil_append, List.cons_append, List.replicate, Nat.zero_add, Nat.reduceAdd, Nat.reduceSub, decide_true, decide_false, reduceIte, Nat.reduceLeDiff, Nat.reduceLT, Int.reduceLT, Int.reduceLE, Int.reduceNeg, Int.reducePow, and_self, or_self, and_true, true_and, or_true, true_or, Bool.not_true, Bool.not_false, pour_spend, spend_pour, Ob.sSeq, Ob.sSet, Ob.sOwn, Ob.sIf, Ob.sRet, Ob.sRetL, Ob.sRetO, Ob.sRetN, Ob.sDrop, Ob.sApp, Ob.sAug, Ob.sFrz, Ob.frz, Ob.sAsg, Ob.sPar, Ob.sE, Ob.bnd, Ob.lft, Ob.gSet, Ob.gsNil, Ob.gsCons, Ob.gTup, Ob.gLst, Ob.sFor, Ob.iL, Ob.iT, Ob.eVar, Ob.e2, Ob.op2, Ob.asB, Ob.truD, Ob.eChain, Ob.tAndF, Ob.tOrF, Ob.tNotF, Ob.eAnd, Ob.eOr, Ob.eNot, Ob.eIf, Ob.aNil, Ob.aCons, Ob.eTup, Ob.mkT, Ob.lLst, Ob.eL, Ob.mkL, Ob.eCall, Ob.pyAll, Ob.pE, Ob.pL, Ob.pT, Ob.pv, Ob.pvS, Ob.eIx, Ob.ixD, Ob.D.lst?, Ob.D.tup?, Ob.lLc, Ob.lcD, Ob.wipeE, Ob.pYes, Ob.sNext, Ob.fnO, Ob.entry, Ob.goE, Ob.goL, Ob.goN, Ob.eG, Ob.lG, Ob.eP, Ob.eFld, Ob.fld, Ob.sFld, Ob.setFld, Ob.putD, Ob.sFldAug, Ob.clsOf, Ob.eMeth, Ob.eMeth0, Ob.eProp, Ob.eMake, Ob.eMakeK, Ob.made, Ob.eSup, Ob.eSup0, Ob.eSupK, Ob.Mr.list, Ob.eIsC, Ob.isC, Ob.sRaise, Ob.eLenSet, Ob.lenSet, List.lookup_cons, List.lookup_nil, Bool.false_eq_true, List.set_set, beq_self_eq_true, Option.isNone_none, Option.map_none, Option.bind_none, lc1, q1, a1]) ?_
  refine oseq (e := [V (.py (.list nsl)), V (cI k), V (.obj p), V (.py (.list dsl)), V (.py (.list zsl)), V (.py (.list rsl)), y6, u7, u8, u9, u10, u11, u12, u13, u14]) (s := s2) (by simp only [sSeq, sSet, sOwn, sPar, sParL,  sIf, sRet, sRetL, sRetO, sDrop, sAug, sApp, sFrz, frz, sAsg, gSet, gsNil, gsCons, gTupF, Fi.gSub, sFor, iL, iT, iR1, iR2, iZ, iEn, itemsK, eVar, eC, Fi.e2, Fi.e1, asB, eChain, tAndF, tOrF, tNotF, eAnd, eOr, eNot, eIf, aNil, aCons, eTup, lLst, eL, eCall, lCall, eCallF, lCallF, eSlT, lSl, oNone, oSome, ownIx, ownLen, lLc, wipeE, pYes, sNext, fnD, entry, fAdd_int, fSub, fMul_l, fMul_r, fDiv_ok, fMod_ok, fPow_ok, fLt, fLe, fGt, fGe, fEq_int, fEq_str, fEq_bool, fNe_int, fNe_str, fNe_bool, isN, fIs, fIsNot, fIx, fNeg, fLen, fMin, fMax, fTuple, fList, fIntB, fSum, fAll, fAny, at_0, at_1, at_2, eT, eS, eStep, eR, getInts_map, Option.bind_some, Option.map_some, List.getElem?_cons_succ, List.getElem?_cons_zero, List.set_cons_succ, List.set_cons_zero, List.length_cons, List.length_nil, List.length_map, List.map_cons, List.map_nil, List.nil_append, List.cons_append, List.replicate, Nat.zero_add, Nat.reduceAdd, Nat.reduceSub, decide_true, decide_false, reduceIte, Nat.reduceLeDiff, Nat.reduceLT, Int.reduceLT, Int.reduceLE, Int.reduceNeg, Int.reducePow, and_self, or_self, and_true, true_and, or_true, true_or, Bool.not_true, Bool.not_false, pour_spend, spend_pour, Ob.sSeq, Ob.sSet, Ob.sOwn, Ob.sIf, Ob.sRet, Ob.sRetL, Ob.sRetO, Ob.sRetN, Ob.sDrop, Ob.sApp, Ob.sAug, Ob.sFrz, Ob.frz, Ob.sAsg, Ob.sPar, Ob.sE, Ob.bnd, Ob.lft, Ob.gSet, Ob.gsNil, Ob.gsCons, Ob.gTup, Ob.gLst, Ob.sFor, Ob.iL, Ob.iT, Ob.eVar, Ob.e2, Ob.op2, Ob.asB, Ob.truD, Ob.eChain, Ob.tAndF, Ob.tOrF, Ob.tNotF, Ob.eAnd, Ob.eOr, Ob.eNot, Ob.eIf, Ob.aNil, Ob.aCons, Ob.eTup, Ob.mkT, Ob.lLst, Ob.eL, Ob.mkL, Ob.eCall, Ob.pyAll, Ob.pE, Ob.pL, Ob.pT, Ob.pv, Ob.pvS, Ob.eIx, Ob.ixD, Ob.D.lst?, Ob.D.tup?, Ob.lLc, Ob.lcD, Ob.wipeE, Ob.pYes, Ob.sNext, Ob.fnO, Ob.entry, Ob.goE, Ob.goL, Ob.goN, Ob.eG, Ob.lG, Ob.eP, Ob.eFld, Ob.fld, Ob.sFld, Ob.setFld, Ob.putD, Ob.sFldAug, Ob.clsOf, Ob.eMeth, Ob.eMeth0, Ob.eProp, Ob.eMake, Ob.eMakeK, Ob.made, Ob.eSup, Ob.eSup0, Ob.eSupK, Ob.Mr.list, Ob.eIsC, Ob.isC, Ob.sRaise, Ob.eLenSet, Ob.lenSet, List.lookup_cons, List.lookup_nil, Bool.false_eq_true, List.set_set, beq_self_eq_true, Option.isNone_none, Option.map_none, Option.bind_none, f2, show (6 : Int).toNat = 6 from rfl]) ?_
  simp only [sSeq, sSet, sOwn, sPar, sParL,  sIf, sRet, sRetL, sRetO, sDrop, sAug, sApp, sFrz, frz, sAsg, gSet, gsNil, gsCons, gTupF, Fi.gSub, sFor, iL, iT, iR1, iR2, iZ, iEn, itemsK, eVar, eC, Fi.e2, Fi.e1, asB, eChain, tAndF, tOrF, tNotF, eAnd, eOr, eNot, eIf, aNil, aCons, eTup, lLst, eL, eCall, lCall, eCallF, lCallF, eSlT, lSl, oNone, oSome, ownIx, ownLen, lLc, wipeE, pYes, sNext, fnD, entry, fAdd_int, fSub, fMul_l, fMul_r, fDiv_ok, fMod_ok, fPow_ok, fLt, fLe, fGt, fGe, fEq_int, fEq_str, fEq_bool, fNe_int, fNe_str, fNe_bool, isN, fIs, fIsNot, fIx, fNeg, fLen, fMin, fMax, fTuple, fList, fIntB, fSum, fAll, fAny, at_0, at_1, at_2, eT, eS, eStep, eR, getInts_map, Option.bind_some, Option.map_some, List.getElem?_cons_succ, List.getElem?_cons_zero, List.set_cons_succ, List.set_cons_zero, List.length_cons, List.length_nil, List.length_map, List.map_cons, List.map_nil, List.nil_append, List.cons_append, List.replicate, Nat.zero_add, Nat.reduceAdd, Nat.reduceSub, decide_true, decide_false, reduceIte, Nat.reduceLeDiff, Nat.reduceLT, Int.reduceLT, Int.reduceLE, Int.reduceNeg, Int.reducePow, and_self, or_self, and_true, true_and, or_true, true_or, Bool.not_true, Bool.not_false, pour_spend, spend_pour, Ob.sSeq, Ob.sSet, Ob.sOwn, Ob.sIf, Ob.sRet, Ob.sRetL, Ob.sRetO, Ob.sRetN, Ob.sDrop, Ob.sApp, Ob.sAug, Ob.sFrz, Ob.frz, Ob.sAsg, Ob.sPar, Ob.sE, Ob.bnd, Ob.lft, Ob.gSet, Ob.gsNil, Ob.gsCons, Ob.gTup, Ob.gLst, Ob.sFor, Ob.iL, Ob.iT, Ob.eVar, Ob.e2, Ob.op2, Ob.asB, Ob.truD, Ob.eChain, Ob.tAndF, Ob.tOrF, Ob.tNotF, Ob.eAnd, Ob.eOr, Ob.eNot, Ob.eIf, Ob.aNil, Ob.aCons, Ob.eTup, Ob.mkT, Ob.lLst, Ob.eL, Ob.mkL, Ob.eCall, Ob.pyAll, Ob.pE, Ob.pL, Ob.pT, Ob.pv, Ob.pvS, Ob.eIx, Ob.ixD, Ob.D.lst?, Ob.D.tup?, Ob.lLc, Ob.lcD, Ob.wipeE, Ob.pYes, Ob.sNext, Ob.fnO, Ob.entry, Ob.goE, Ob.goL, Ob.goN, Ob.eG, Ob.lG, Ob.eP, Ob.eFld, Ob.fld, Ob.sFld, Ob.setFld, Ob.putD, Ob.sFldAug, Ob.clsOf, Ob.eMeth, Ob.eMeth0, Ob.eProp, Ob.eMake, Ob.eMakeK, Ob.made, Ob.eSup, Ob.eSup0, Ob.eSupK, Ob.Mr.list, Ob.eIsC, Ob.isC, Ob.sRaise, Ob.eLenSet, Ob.lenSet, List.lookup_cons, List.lookup_nil, Bool.false_eq_true, List.set_set, beq_self_eq_true, Option.isNone_none, Option.map_none, Option.bind_none, q_law_7, x3]
end Lw

namespace Lw
open PySem L2 Fi
theorem e_rent (st : Ob.Stor) : F_Envelope_read [.cls "Envelope", cT "rent:50"] st = some (.ok (.val (.obj st.length)) (st ++ [oE (cT "rent") 50 0])) :=
  read_ok (t := "rent:50") (nm := "rent") (nb := "50") (c := 50) (by kernel_rfl) (by kernel_rfl) (by kernel_rfl) (by kernel_rfl) (by kernel_rfl) (by kernel_rfl) (by kernel_rfl) (by decide) (by decide)
theorem e_food (st : Ob.Stor) : F_Envelope_read [.cls "Envelope", cT "food:30"] st = some (.ok (.val (.obj st.length)) (st ++ [oE (cT "food") 30 0])) :=
  read_ok (t := "food:30") (nm := "food") (nb := "30") (c := 30) (by kernel_rfl) (by kernel_rfl) (by kernel_rfl) (by kernel_rfl) (by kernel_rfl) (by kernel_rfl) (by kernel_rfl) (by decide) (by decide)
theorem e_fun (st : Ob.Stor) : F_Envelope_read [.cls "Envelope", cT "fun:9"] st = some (.ok (.val (.obj st.length)) (st ++ [oE (cT "fun") 9 0])) :=
  read_ok (t := "fun:9") (nm := "fun") (nb := "9") (c := 9) (by kernel_rfl) (by kernel_rfl) (by kernel_rfl) (by kernel_rfl) (by kernel_rfl) (by kernel_rfl) (by kernel_rfl) (by decide) (by decide)
abbrev RS3 : List Rw := [⟨"rent", 50, 0⟩, ⟨"food", 30, 0⟩, ⟨"fun", 9, 0⟩]
theorem RS3_ok : ∀ r ∈ RS3, r.Ok := by
  intro r hr
  simp only [RS3, List.mem_cons, List.not_mem_nil, or_false] at hr
  rcases hr with rfl | rfl | rfl
  · exact ⟨NM_good _ (by decide +kernel), by decide, by decide, by decide, by decide⟩
  · exact ⟨NM_good _ (by decide +kernel), by decide, by decide, by decide, by decide⟩
  · exact ⟨NM_good _ (by decide +kernel), by decide, by decide, by decide, by decide⟩
theorem read3 (st : Ob.Stor) : ∃ s', F_Plan_read [.cls "Plan", cT "rent:50, food:30, fun:9"] st = some (.ok (.val (.obj (st.length + 3))) s') ∧ Row s' (mkR st.length RS3) ∧ s'[st.length + 3]? = some (oP (mkR st.length RS3) 0) := by
  have R := mkR_row (rs := RS3) (st := st) (es := []) Row.nil RS3_ok (by decide +kernel) (fun _ _ => List.not_mem_nil)
  rw [List.nil_append] at R
  have hl : (st ++ (mkR st.length RS3).map Ev.oj).length = st.length + 3 := by rw [List.length_append, List.length_map, mkR_len]; rfl
  have mr := mk_row (k := 0) (by intro z; cases z) (by rw [mkR_len]; decide) R
  rw [hl] at mr
  have i1 : kitB (tyD (.str "rent:50, food:30, fun:9")) "str" = some true := rfl
  have sp : fSplit (.str "rent:50, food:30, fun:9") (.str ", ") = some [.str "rent:50", .str "food:30", .str "fun:9"] := by kernel_rfl
  have lc1 : lc_Plan_read_0 [V (.cls "Plan"), V (cT "rent:50, food:30, fun:9"), none, none, none, none] st = some (.ok ((mkR st.length RS3).map Ev.o) (st ++ (mkR st.length RS3).map Ev.oj)) := by
    refine lLc_ok (ds := [.py (.str "rent:50"), .py (.str "food:30"), .py (.str "fun:9")]) (s1 := st) (by simp only [sSeq, sSet, sOwn, sPar, sParL,  sIf, sRet, sRetL, sRetO, sDrop, sAug, sApp, sFrz, frz, sAsg, gSet, gsNil, gsCons, gTupF, Fi.gSub, sFor, iL, iT, iR1, iR2, iZ, iEn, itemsK, eVar, eC, Fi.e2, Fi.e1, asB, eChain, tAndF, tOrF, tNotF, eAnd, eOr, eNot, eIf, aNil, aCons, eTup, lLst, eL, eCall, lCall, eCallF, lCallF, eSlT, lSl, oNone, oSome, ownIx, ownLen, lLc, wipeE, pYes, sNext, fnD, entry, fAdd_int, fSub, fMul_l, fMul_r, fDiv_ok, fMod_ok, fPow_ok, fLt, fLe, fGt, fGe, fEq_int, fEq_str, fEq_bool, fNe_int, fNe_str, fNe_bool, isN, fIs, fIsNot, fIx, fNeg, fLen, fMin, fMax, fTuple, fList, fIntB, fSum, fAll, fAny, at_0, at_1, at_2, eT, eS, eStep, eR, getInts_map, Option.bind_some, Option.map_some, List.getElem?_cons_succ, List.getElem?_cons_zero, List.set_cons_succ, List.set_cons_zero, List.length_cons, List.length_nil, List.length_map, List.map_cons, List.map_nil, List.nil_append, List.cons_append, List.replicate, Nat.zero_add, Nat.reduceAdd, Nat.reduceSub, decide_true, decide_false, reduceIte, Nat.reduceLeDiff, Nat.reduceLT, Int.reduceLT, Int.reduceLE, Int.reduceNeg, Int.reducePow, and_self, or_self, and_true, true_and, or_true, true_or, Bool.not_true, Bool.not_false, pour_spend, spend_pour, Ob.sSeq, Ob.sSet, Ob.sOwn, Ob.sIf, Ob.sRet, Ob.sRetL, Ob.sRetO, Ob.sRetN, Ob.sDrop, Ob.sApp, Ob.sAug, Ob.sFrz, Ob.frz, Ob.sAsg, Ob.sPar, Ob.sE, Ob.bnd, Ob.lft, Ob.gSet, Ob.gsNil, Ob.gsCons, Ob.gTup, Ob.gLst, Ob.sFor, Ob.iL, Ob.iT, Ob.eVar, Ob.e2, Ob.op2, Ob.asB, Ob.truD, Ob.eChain, Ob.tAndF, Ob.tOrF, Ob.tNotF, Ob.eAnd, Ob.eOr, Ob.eNot, Ob.eIf, Ob.aNil, Ob.aCons, Ob.eTup, Ob.mkT, Ob.lLst, Ob.eL, Ob.mkL, Ob.eCall, Ob.pyAll, Ob.pE, Ob.pL, Ob.pT, Ob.pv, Ob.pvS, Ob.eIx, Ob.ixD, Ob.D.lst?, Ob.D.tup?, Ob.lLc, Ob.lcD, Ob.wipeE, Ob.pYes, Ob.sNext, Ob.fnO, Ob.entry, Ob.goE, Ob.goL, Ob.goN, Ob.eG, Ob.lG, Ob.eP, Ob.eFld, Ob.fld, Ob.sFld, Ob.setFld, Ob.putD, Ob.sFldAug, Ob.clsOf, Ob.eMeth, Ob.eMeth0, Ob.pick, Ob.eProp, Ob.pickP, Ob.eMake, Ob.eMakeK, Ob.made, Ob.eSup, Ob.eSup0, Ob.eSupK, Ob.Mr.list, Ob.eIsC, Ob.isC, Ob.sRaise, Ob.eLenSet, Ob.lenSet, List.lookup_cons, List.lookup_nil, Bool.false_eq_true, List.set_set, beq_self_eq_true, Option.isNone_none, Option.map_none, Option.bind_none, lSplit, sp]) (by decide) ?_
    have a1 := e_rent st
    have a2 := e_food (st ++ [oE (cT "rent") 50 0])
    have a3 := e_fun (st ++ [oE (cT "rent") 50 0] ++ [oE (cT "food") 30 0])
    rw [List.length_append] at a2
    rw [List.length_append, List.length_append] at a3
    have g := lcD_yes (g := Ob.gSet 4) (f := Ob.eCM F_Envelope_read "Envelope" 1 (Ob.pL (aCons (eVar 4) aNil))) (env := [V (.cls "Plan"), V (cT "rent:50, food:30, fun:9"), none, none, none, none]) (dd := .py (.str "fun:9")) (x := .obj (st.length + 1 + 1)) (ds := []) (st := st ++ [oE (cT "rent") 50 0] ++ [oE (cT "food") 30 0]) (s1 := st ++ [oE (cT "rent") 50 0] ++ [oE (cT "food") 30 0] ++ [oE (cT "fun") 9 0]) rfl (by simp only [sSeq, sSet, sOwn, sPar, sParL,  sIf, sRet, sRetL, sRetO, sDrop, sAug, sApp, sFrz, frz, sAsg, gSet, gsNil, gsCons, gTupF, Fi.gSub, sFor, iL, iT, iR1, iR2, iZ, iEn, itemsK, eVar, eC, Fi.e2, Fi.e1, asB, eChain, tAndF, tOrF, tNotF, eAnd, eOr, eNot, eIf, aNil, aCons, eTup, lLst, eL, eCall, lCall, eCallF, lCallF, eSlT, lSl, oNone, oSome, ownIx, ownLen, lLc, wipeE, pYes, sNext, fnD, entry, fAdd_int, fSub, fMul_l, fMul_r, fDiv_ok, fMod_ok, fPow_ok, fLt, fLe, fGt, fGe, fEq_int, fEq_str, fEq_bool, fNe_int, fNe_str, fNe_bool, isN, fIs, fIsNot, fIx, fNeg, fLen, fMin, fMax, fTuple, fList, fIntB, fSum, fAll, fAny, at_0, at_1, at_2, eT, eS, eStep, eR, getInts_map, Option.bind_some, Option.map_some, List.getElem?_cons_succ, List.getElem?_cons_zero, List.set_cons_succ, List.set_cons_zero, List.length_cons, List.length_nil, List.length_map, List.map_cons, List.map_nil, List.nil_append, List.cons_append, List.replicate, Nat.zero_add, Nat.reduceAdd, Nat.reduceSub, decide_true, decide_false, reduceIte, Nat.reduceLeDiff, Nat.reduceLT, Int.reduceLT, Int.reduceLE, Int.reduceNeg, Int.reducePow, and_self, or_self, and_true, true_and, or_true, true_or, Bool.not_true, Bool.not_false, pour_spend, spend_pour, Ob.sSeq, Ob.sSet, Ob.sOwn, Ob.sIf, Ob.sRet, Ob.sRetL, Ob.sRetO, Ob.sRetN, Ob.sDrop, Ob.sApp, Ob.sAug, Ob.sFrz, Ob.frz, Ob.sAsg, Ob.sPar, Ob.sE, Ob.bnd, Ob.lft, Ob.gSet, Ob.gsNil, Ob.gsCons, Ob.gTup, Ob.gLst, Ob.sFor, Ob.iL, Ob.iT, Ob.eVar, Ob.e2, Ob.op2, Ob.asB, Ob.truD, Ob.eChain, Ob.tAndF, Ob.tOrF, Ob.tNotF, Ob.eAnd, Ob.eOr, Ob.eNot, Ob.eIf, Ob.aNil, Ob.aCons, Ob.eTup, Ob.mkT, Ob.lLst, Ob.eL, Ob.mkL, Ob.eCall, Ob.pyAll, Ob.pE, Ob.pL, Ob.pT, Ob.pv, Ob.pvS, Ob.eIx, Ob.ixD, Ob.D.lst?, Ob.D.tup?, Ob.lLc, Ob.lcD, Ob.wipeE, Ob.pYes, Ob.sNext, Ob.fnO, Ob.entry, Ob.goE, Ob.goL, Ob.goN, Ob.eG, Ob.lG, Ob.eP, Ob.eFld, Ob.fld, Ob.sFld, Ob.setFld, Ob.putD, Ob.sFldAug, Ob.clsOf, Ob.eMeth, Ob.eMeth0, Ob.pick, Ob.eProp, Ob.pickP, Ob.eMake, Ob.eMakeK, Ob.made, Ob.eSup, Ob.eSup0, Ob.eSupK, Ob.Mr.list, Ob.eIsC, Ob.isC, Ob.sRaise, Ob.eLenSet, Ob.lenSet, List.lookup_cons, List.lookup_nil, Bool.false_eq_true, List.set_set, beq_self_eq_true, Option.isNone_none, Option.map_none, Option.bind_none, Ob.eCM, a3]) rfl
    have g2 := lcD_yes (g := Ob.gSet 4) (f := Ob.eCM F_Envelope_read "Envelope" 1 (Ob.pL (aCons (eVar 4) aNil))) (env := [V (.cls "Plan"), V (cT "rent:50, food:30, fun:9"), none, none, none, none]) (dd := .py (.str "food:30")) (x := .obj (st.length + 1)) (st := st ++ [oE (cT "rent") 50 0]) (s1 := st ++ [oE (cT "rent") 50 0] ++ [oE (cT "food") 30 0]) rfl (by simp only [sSeq, sSet, sOwn, sPar, sParL,  sIf, sRet, sRetL, sRetO, sDrop, sAug, sApp, sFrz, frz, sAsg, gSet, gsNil, gsCons, gTupF, Fi.gSub, sFor, iL, iT, iR1, iR2, iZ, iEn, itemsK, eVar, eC, Fi.e2, Fi.e1, asB, eChain, tAndF, tOrF, tNotF, eAnd, eOr, eNot, eIf, aNil, aCons, eTup, lLst, eL, eCall, lCall, eCallF, lCallF, eSlT, lSl, oNone, oSome, ownIx, ownLen, lLc, wipeE, pYes, sNext, fnD, entry, fAdd_int, fSub, fMul_l, fMul_r, fDiv_ok, fMod_ok, fPow_ok, fLt, fLe, fGt, fGe, fEq_int, fEq_str, fEq_bool, fNe_int, fNe_str, fNe_bool, isN, fIs, fIsNot, fIx, fNeg, fLen, fMin, fMax, fTuple, fList, fIntB, fSum, fAll, fAny, at_0, at_1, at_2, eT, eS, eStep, eR, getInts_map, Option.bind_some, Option.map_some, List.getElem?_cons_succ, List.getElem?_cons_zero, List.set_cons_succ, List.set_cons_zero, List.length_cons, List.length_nil, List.length_map, List.map_cons, List.map_nil, List.nil_append, List.cons_append, List.replicate, Nat.zero_add, Nat.reduceAdd, Nat.reduceSub, decide_true, decide_false, reduceIte, Nat.reduceLeDiff, Nat.reduceLT, Int.reduceLT, Int.reduceLE, Int.reduceNeg, Int.reducePow, and_self, or_self, and_true, true_and, or_true, true_or, Bool.not_true, Bool.not_false, pour_spend, spend_pour, Ob.sSeq, Ob.sSet, Ob.sOwn, Ob.sIf, Ob.sRet, Ob.sRetL, Ob.sRetO, Ob.sRetN, Ob.sDrop, Ob.sApp, Ob.sAug, Ob.sFrz, Ob.frz, Ob.sAsg, Ob.sPar, Ob.sE, Ob.bnd, Ob.lft, Ob.gSet, Ob.gsNil, Ob.gsCons, Ob.gTup, Ob.gLst, Ob.sFor, Ob.iL, Ob.iT, Ob.eVar, Ob.e2, Ob.op2, Ob.asB, Ob.truD, Ob.eChain, Ob.tAndF, Ob.tOrF, Ob.tNotF, Ob.eAnd, Ob.eOr, Ob.eNot, Ob.eIf, Ob.aNil, Ob.aCons, Ob.eTup, Ob.mkT, Ob.lLst, Ob.eL, Ob.mkL, Ob.eCall, Ob.pyAll, Ob.pE, Ob.pL, Ob.pT, Ob.pv, Ob.pvS, Ob.eIx, Ob.ixD, Ob.D.lst?, Ob.D.tup?, Ob.lLc, Ob.lcD, Ob.wipeE, Ob.pYes, Ob.sNext, Ob.fnO, Ob.entry, Ob.goE, Ob.goL, Ob.goN, Ob.eG, Ob.lG, Ob.eP, Ob.eFld, Ob.fld, Ob.sFld, Ob.setFld, Ob.putD, Ob.sFldAug, Ob.clsOf, Ob.eMeth, Ob.eMeth0, Ob.pick, Ob.eProp, Ob.pickP, Ob.eMake, Ob.eMakeK, Ob.made, Ob.eSup, Ob.eSup0, Ob.eSupK, Ob.Mr.list, Ob.eIsC, Ob.isC, Ob.sRaise, Ob.eLenSet, Ob.lenSet, List.lookup_cons, List.lookup_nil, Bool.false_eq_true, List.set_set, beq_self_eq_true, Option.isNone_none, Option.map_none, Option.bind_none, Ob.eCM, a2]) g
    have g3 := lcD_yes (g := Ob.gSet 4) (f := Ob.eCM F_Envelope_read "Envelope" 1 (Ob.pL (aCons (eVar 4) aNil))) (env := [V (.cls "Plan"), V (cT "rent:50, food:30, fun:9"), none, none, none, none]) (dd := .py (.str "rent:50")) (x := .obj st.length) (st := st) (s1 := st ++ [oE (cT "rent") 50 0]) rfl (by simp only [sSeq, sSet, sOwn, sPar, sParL,  sIf, sRet, sRetL, sRetO, sDrop, sAug, sApp, sFrz, frz, sAsg, gSet, gsNil, gsCons, gTupF, Fi.gSub, sFor, iL, iT, iR1, iR2, iZ, iEn, itemsK, eVar, eC, Fi.e2, Fi.e1, asB, eChain, tAndF, tOrF, tNotF, eAnd, eOr, eNot, eIf, aNil, aCons, eTup, lLst, eL, eCall, lCall, eCallF, lCallF, eSlT, lSl, oNone, oSome, ownIx, ownLen, lLc, wipeE, pYes, sNext, fnD, entry, fAdd_int, fSub, fMul_l, fMul_r, fDiv_ok, fMod_ok, fPow_ok, fLt, fLe, fGt, fGe, fEq_int, fEq_str, fEq_bool, fNe_int, fNe_str, fNe_bool, isN, fIs, fIsNot, fIx, fNeg, fLen, fMin, fMax, fTuple, fList, fIntB, fSum, fAll, fAny, at_0, at_1, at_2, eT, eS, eStep, eR, getInts_map, Option.bind_some, Option.map_some, List.getElem?_cons_succ, List.getElem?_cons_zero, List.set_cons_succ, List.set_cons_zero, List.length_cons, List.length_nil, List.length_map, List.map_cons, List.map_nil, List.nil_append, List.cons_append, List.replicate, Nat.zero_add, Nat.reduceAdd, Nat.reduceSub, decide_true, decide_false, reduceIte, Nat.reduceLeDiff, Nat.reduceLT, Int.reduceLT, Int.reduceLE, Int.reduceNeg, Int.reducePow, and_self, or_self, and_true, true_and, or_true, true_or, Bool.not_true, Bool.not_false, pour_spend, spend_pour, Ob.sSeq, Ob.sSet, Ob.sOwn, Ob.sIf, Ob.sRet, Ob.sRetL, Ob.sRetO, Ob.sRetN, Ob.sDrop, Ob.sApp, Ob.sAug, Ob.sFrz, Ob.frz, Ob.sAsg, Ob.sPar, Ob.sE, Ob.bnd, Ob.lft, Ob.gSet, Ob.gsNil, Ob.gsCons, Ob.gTup, Ob.gLst, Ob.sFor, Ob.iL, Ob.iT, Ob.eVar, Ob.e2, Ob.op2, Ob.asB, Ob.truD, Ob.eChain, Ob.tAndF, Ob.tOrF, Ob.tNotF, Ob.eAnd, Ob.eOr, Ob.eNot, Ob.eIf, Ob.aNil, Ob.aCons, Ob.eTup, Ob.mkT, Ob.lLst, Ob.eL, Ob.mkL, Ob.eCall, Ob.pyAll, Ob.pE, Ob.pL, Ob.pT, Ob.pv, Ob.pvS, Ob.eIx, Ob.ixD, Ob.D.lst?, Ob.D.tup?, Ob.lLc, Ob.lcD, Ob.wipeE, Ob.pYes, Ob.sNext, Ob.fnO, Ob.entry, Ob.goE, Ob.goL, Ob.goN, Ob.eG, Ob.lG, Ob.eP, Ob.eFld, Ob.fld, Ob.sFld, Ob.setFld, Ob.putD, Ob.sFldAug, Ob.clsOf, Ob.eMeth, Ob.eMeth0, Ob.pick, Ob.eProp, Ob.pickP, Ob.eMake, Ob.eMakeK, Ob.made, Ob.eSup, Ob.eSup0, Ob.eSupK, Ob.Mr.list, Ob.eIsC, Ob.isC, Ob.sRaise, Ob.eLenSet, Ob.lenSet, List.lookup_cons, List.lookup_nil, Bool.false_eq_true, List.set_set, beq_self_eq_true, Option.isNone_none, Option.map_none, Option.bind_none, Ob.eCM, a1]) g2
    rw [List.append_assoc, List.append_assoc] at g3
    exact g3
  have lc2 : lc_Plan_read_1 [V (.cls "Plan"), V (cT "rent:50, food:30, fun:9"), V (.lst ((mkR st.length RS3).map Ev.o)), none, none, none] (st ++ (mkR st.length RS3).map Ev.oj) = some (.ok ((((mkR st.length RS3).map (·.nm)).map PyData.str).map Ob.D.py) (st ++ (mkR st.length RS3).map Ev.oj)) := lLc_ok (ds := (mkR st.length RS3).map Ev.o) (s1 := st ++ (mkR st.length RS3).map Ev.oj) (by simp only [sSeq, sSet, sOwn, sPar, sParL,  sIf, sRet, sRetL, sRetO, sDrop, sAug, sApp, sFrz, frz, sAsg, gSet, gsNil, gsCons, gTupF, Fi.gSub, sFor, iL, iT, iR1, iR2, iZ, iEn, itemsK, eVar, eC, Fi.e2, Fi.e1, asB, eChain, tAndF, tOrF, tNotF, eAnd, eOr, eNot, eIf, aNil, aCons, eTup, lLst, eL, eCall, lCall, eCallF, lCallF, eSlT, lSl, oNone, oSome, ownIx, ownLen, lLc, wipeE, pYes, sNext, fnD, entry, fAdd_int, fSub, fMul_l, fMul_r, fDiv_ok, fMod_ok, fPow_ok, fLt, fLe, fGt, fGe, fEq_int, fEq_str, fEq_bool, fNe_int, fNe_str, fNe_bool, isN, fIs, fIsNot, fIx, fNeg, fLen, fMin, fMax, fTuple, fList, fIntB, fSum, fAll, fAny, at_0, at_1, at_2, eT, eS, eStep, eR, getInts_map, Option.bind_some, Option.map_some, List.getElem?_cons_succ, List.getElem?_cons_zero, List.set_cons_succ, List.set_cons_zero, List.length_cons, List.length_nil, List.length_map, List.map_cons, List.map_nil, List.nil_append, List.cons_append, List.replicate, Nat.zero_add, Nat.reduceAdd, Nat.reduceSub, decide_true, decide_false, reduceIte, Nat.reduceLeDiff, Nat.reduceLT, Int.reduceLT, Int.reduceLE, Int.reduceNeg, Int.reducePow, and_self, or_self, and_true, true_and, or_true, true_or, Bool.not_true, Bool.not_false, pour_spend, spend_pour, Ob.sSeq, Ob.sSet, Ob.sOwn, Ob.sIf, Ob.sRet, Ob.sRetL, Ob.sRetO, Ob.sRetN, Ob.sDrop, Ob.sApp, Ob.sAug, Ob.sFrz, Ob.frz, Ob.sAsg, Ob.sPar, Ob.sE, Ob.bnd, Ob.lft, Ob.gSet, Ob.gsNil, Ob.gsCons, Ob.gTup, Ob.gLst, Ob.sFor, Ob.iL, Ob.iT, Ob.eVar, Ob.e2, Ob.op2, Ob.asB, Ob.truD, Ob.eChain, Ob.tAndF, Ob.tOrF, Ob.tNotF, Ob.eAnd, Ob.eOr, Ob.eNot, Ob.eIf, Ob.aNil, Ob.aCons, Ob.eTup, Ob.mkT, Ob.lLst, Ob.eL, Ob.mkL, Ob.eCall, Ob.pyAll, Ob.pE, Ob.pL, Ob.pT, Ob.pv, Ob.pvS, Ob.eIx, Ob.ixD, Ob.D.lst?, Ob.D.tup?, Ob.lLc, Ob.lcD, Ob.wipeE, Ob.pYes, Ob.sNext, Ob.fnO, Ob.entry, Ob.goE, Ob.goL, Ob.goN, Ob.eG, Ob.lG, Ob.eP, Ob.eFld, Ob.fld, Ob.sFld, Ob.setFld, Ob.putD, Ob.sFldAug, Ob.clsOf, Ob.eMeth, Ob.eMeth0, Ob.pick, Ob.eProp, Ob.pickP, Ob.eMake, Ob.eMakeK, Ob.made, Ob.eSup, Ob.eSup0, Ob.eSupK, Ob.Mr.list, Ob.eIsC, Ob.isC, Ob.sRaise, Ob.eLenSet, Ob.lenSet, List.lookup_cons, List.lookup_nil, Bool.false_eq_true, List.set_set, beq_self_eq_true, Option.isNone_none, Option.map_none, Option.bind_none]) (by rw [List.length_map, mkR_len]; decide) (names_c R.ok (by simp [Ob.wipeE]))
  rw [mkR_nm] at lc2
  have dS : Ob.distS (RS3.map (·.nm)) = 3 := by kernel_rfl
  have gs := getStrs_map (RS3.map (·.nm))
  refine ⟨st ++ (mkR st.length RS3).map Ev.oj ++ [oP (mkR st.length RS3) 0], ?_, R.app, by rw [← hl]; exact app_get⟩
  have q1 : Ob.pyAll ((mkR st.length RS3).map Ev.o) = none := rfl
  have ol : ((mkR st.length RS3).map Ev.o).length = 3 := rfl
  have nl : ((RS3.map (·.nm)).map PyData.str).length = 3 := rfl
  have l2 : (RS3.map (·.nm)).length = 3 := rfl
  generalize hT : st ++ (mkR st.length RS3).map Ev.oj = T1 at *
  generalize hO : (mkR st.length RS3).map Ev.o = o1 at *
  generalize RS3.map (·.nm) = zs at *
  generalize hZ : zs.map PyData.str = zsl at *
  have hb : b_Plan_read [V (.cls "Plan"), V (cT "rent:50, food:30, fun:9"), none, none, none, none] st = some (.ret (.obj (st.length + 3)) (T1 ++ [oP (mkR st.length RS3) 0])) := by
    unfold b_Plan_read
    refine oseq (e := [V (.cls "Plan"), V (cT "rent:50, food:30, fun:9"), none, none, none, none]) (s := st) (by simp only [sSeq, sSet, sOwn, sPar, sParL,  sIf, sRet, sRetL, sRetO, sDrop, sAug, sApp, sFrz, frz, sAsg, gSet, gsNil, gsCons, gTupF, Fi.gSub, sFor, iL, iT, iR1, iR2, iZ, iEn, itemsK, eVar, eC, Fi.e2, Fi.e1, asB, eChain, tAndF, tOrF, tNotF, eAnd, eOr, eNot, eIf, aNil, aCons, eTup, lLst, eL, eCall, lCall, eCallF, lCallF, eSlT, lSl, oNone, oSome, ownIx, ownLen, lLc, wipeE, pYes, sNext, fnD, entry, fAdd_int, fSub, fMul_l, fMul_r, fDiv_ok, fMod_ok, fPow_ok, fLt, fLe, fGt, fGe, fEq_int, fEq_str, fEq_bool, fNe_int, fNe_str, fNe_bool, isN, fIs, fIsNot, fIx, fNeg, fLen, fMin, fMax, fTuple, fList, fIntB, fSum, fAll, fAny, at_0, at_1, at_2, eT, eS, eStep, eR, getInts_map, Option.bind_some, Option.map_some, List.getElem?_cons_succ, List.getElem?_cons_zero, List.set_cons_succ, List.set_cons_zero, List.length_cons, List.length_nil, List.length_map, List.map_cons, List.map_nil, List.nil_append, List.cons_append, List.replicate, Nat.zero_add, Nat.reduceAdd, Nat.reduceSub, decide_true, decide_false, reduceIte, Nat.reduceLeDiff, Nat.reduceLT, Int.reduceLT, Int.reduceLE, Int.reduceNeg, Int.reducePow, and_self, or_self, and_true, true_and, or_true, true_or, Bool.not_true, Bool.not_false, pour_spend, spend_pour, Ob.sSeq, Ob.sSet, Ob.sOwn, Ob.sIf, Ob.sRet, Ob.sRetL, Ob.sRetO, Ob.sRetN, Ob.sDrop, Ob.sApp, Ob.sAug, Ob.sFrz, Ob.frz, Ob.sAsg, Ob.sPar, Ob.sE, Ob.bnd, Ob.lft, Ob.gSet, Ob.gsNil, Ob.gsCons, Ob.gTup, Ob.gLst, Ob.sFor, Ob.iL, Ob.iT, Ob.eVar, Ob.e2, Ob.op2, Ob.asB, Ob.truD, Ob.eChain, Ob.tAndF, Ob.tOrF, Ob.tNotF, Ob.eAnd, Ob.eOr, Ob.eNot, Ob.eIf, Ob.aNil, Ob.aCons, Ob.eTup, Ob.mkT, Ob.lLst, Ob.eL, Ob.mkL, Ob.eCall, Ob.pyAll, Ob.pE, Ob.pL, Ob.pT, Ob.pv, Ob.pvS, Ob.eIx, Ob.ixD, Ob.D.lst?, Ob.D.tup?, Ob.lLc, Ob.lcD, Ob.wipeE, Ob.pYes, Ob.sNext, Ob.fnO, Ob.entry, Ob.goE, Ob.goL, Ob.goN, Ob.eG, Ob.lG, Ob.eP, Ob.eFld, Ob.fld, Ob.sFld, Ob.setFld, Ob.putD, Ob.sFldAug, Ob.clsOf, Ob.eMeth, Ob.eMeth0, Ob.eProp, Ob.eMake, Ob.eMakeK, Ob.made, Ob.eSup, Ob.eSup0, Ob.eSupK, Ob.Mr.list, Ob.eIsC, Ob.isC, Ob.sRaise, Ob.eLenSet, Ob.lenSet, List.lookup_cons, List.lookup_nil, Bool.false_eq_true, List.set_set, beq_self_eq_true, Option.isNone_none, Option.map_none, Option.bind_none, eIsI, i1]) ?_
    refine oseq (e := [V (.cls "Plan"), V (cT "rent:50, food:30, fun:9"), some (.own o1), none, none, none]) (s := T1) (by simp only [sSeq, sSet, sOwn, sPar, sParL,  sIf, sRet, sRetL, sRetO, sDrop, sAug, sApp, sFrz, frz, sAsg, gSet, gsNil, gsCons, gTupF, Fi.gSub, sFor, iL, iT, iR1, iR2, iZ, iEn, itemsK, eVar, eC, Fi.e2, Fi.e1, asB, eChain, tAndF, tOrF, tNotF, eAnd, eOr, eNot, eIf, aNil, aCons, eTup, lLst, eL, eCall, lCall, eCallF, lCallF, eSlT, lSl, oNone, oSome, ownIx, ownLen, lLc, wipeE, pYes, sNext, fnD, entry, fAdd_int, fSub, fMul_l, fMul_r, fDiv_ok, fMod_ok, fPow_ok, fLt, fLe, fGt, fGe, fEq_int, fEq_str, fEq_bool, fNe_int, fNe_str, fNe_bool, isN, fIs, fIsNot, fIx, fNeg, fLen, fMin, fMax, fTuple, fList, fIntB, fSum, fAll, fAny, at_0, at_1, at_2, eT, eS, eStep, eR, getInts_map, Option.bind_some, Option.map_some, List.getElem?_cons_succ, List.getElem?_cons_zero, List.set_cons_succ, List.set_cons_zero, List.length_cons, List.length_nil, List.length_map, List.map_cons, List.map_nil, List.nil_append, List.cons_append, List.replicate, Nat.zero_add, Nat.reduceAdd, Nat.reduceSub, decide_true, decide_false, reduceIte, Nat.reduceLeDiff, Nat.reduceLT, Int.reduceLT, Int.reduceLE, Int.reduceNeg, Int.reducePow, and_self, or_self, and_true, true_and, or_true, true_or, Bool.not_true, Bool.not_false, pour_spend, spend_pour, Ob.sSeq, Ob.sSet, Ob.sOwn, Ob.sIf, Ob.sRet, Ob.sRetL, Ob.sRetO, Ob.sRetN, Ob.sDrop, Ob.sApp, Ob.sAug, Ob.sFrz, Ob.frz, Ob.sAsg, Ob.sPar, Ob.sE, Ob.bnd, Ob.lft, Ob.gSet, Ob.gsNil, Ob.gsCons, Ob.gTup, Ob.gLst, Ob.sFor, Ob.iL, Ob.iT, Ob.eVar, Ob.e2, Ob.op2, Ob.asB, Ob.truD, Ob.eChain, Ob.tAndF, Ob.tOrF, Ob.tNotF, Ob.eAnd, Ob.eOr, Ob.eNot, Ob.eIf, Ob.aNil, Ob.aCons, Ob.eTup, Ob.mkT, Ob.lLst, Ob.eL, Ob.mkL, Ob.eCall, Ob.pyAll, Ob.pE, Ob.pL, Ob.pT, Ob.pv, Ob.pvS, Ob.eIx, Ob.ixD, Ob.D.lst?, Ob.D.tup?, Ob.lLc, Ob.lcD, Ob.wipeE, Ob.pYes, Ob.sNext, Ob.fnO, Ob.entry, Ob.goE, Ob.goL, Ob.goN, Ob.eG, Ob.lG, Ob.eP, Ob.eFld, Ob.fld, Ob.sFld, Ob.setFld, Ob.putD, Ob.sFldAug, Ob.clsOf, Ob.eMeth, Ob.eMeth0, Ob.eProp, Ob.eMake, Ob.eMakeK, Ob.made, Ob.eSup, Ob.eSup0, Ob.eSupK, Ob.Mr.list, Ob.eIsC, Ob.isC, Ob.sRaise, Ob.eLenSet, Ob.lenSet, List.lookup_cons, List.lookup_nil, Bool.false_eq_true, List.set_set, beq_self_eq_true, Option.isNone_none, Option.map_none, Option.bind_none, lc1]) ?_
    have z2 : Ob.frz 2 [V (.cls "Plan"), V (cT "rent:50, food:30, fun:9"), some (.own o1), none, none, none] = [V (.cls "Plan"), V (cT "rent:50, food:30, fun:9"), V (.lst o1), none, none, none] := by
      show [V (.cls "Plan"), V (cT "rent:50, food:30, fun:9"), V (Ob.mkL o1), none, none, none] = _
      unfold Ob.mkL
      rw [q1]
    show (Ob.sSeq _ _ : Ob.FS) (Ob.frz 2 _) T1 = _
    rw [z2]
    refine oseq (e := [V (.cls "Plan"), V (cT "rent:50, food:30, fun:9"), V (.lst o1), some (.own (zsl.map Ob.D.py)), none, none]) (s := T1) (by simp only [sSeq, sSet, sOwn, sPar, sParL,  sIf, sRet, sRetL, sRetO, sDrop, sAug, sApp, sFrz, frz, sAsg, gSet, gsNil, gsCons, gTupF, Fi.gSub, sFor, iL, iT, iR1, iR2, iZ, iEn, itemsK, eVar, eC, Fi.e2, Fi.e1, asB, eChain, tAndF, tOrF, tNotF, eAnd, eOr, eNot, eIf, aNil, aCons, eTup, lLst, eL, eCall, lCall, eCallF, lCallF, eSlT, lSl, oNone, oSome, ownIx, ownLen, lLc, wipeE, pYes, sNext, fnD, entry, fAdd_int, fSub, fMul_l, fMul_r, fDiv_ok, fMod_ok, fPow_ok, fLt, fLe, fGt, fGe, fEq_int, fEq_str, fEq_bool, fNe_int, fNe_str, fNe_bool, isN, fIs, fIsNot, fIx, fNeg, fLen, fMin, fMax, fTuple, fList, fIntB, fSum, fAll, fAny, at_0, at_1, at_2, eT, eS, eStep, eR, getInts_map, Option.bind_some, Option.map_some, List.getElem?_cons_succ, List.getElem?_cons_zero, List.set_cons_succ, List.set_cons_zero, List.length_cons, List.length_nil, List.length_map, List.map_cons, List.map_nil, List.nil_append, List.cons_append, List.replicate, Nat.zero_add, Nat.reduceAdd, Nat.reduceSub, decide_true, decide_false, reduceIte, Nat.reduceLeDiff, Nat.reduceLT, Int.reduceLT, Int.reduceLE, Int.reduceNeg, Int.reducePow, and_self, or_self, and_true, true_and, or_true, true_or, Bool.not_true, Bool.not_false, pour_spend, spend_pour, Ob.sSeq, Ob.sSet, Ob.sOwn, Ob.sIf, Ob.sRet, Ob.sRetL, Ob.sRetO, Ob.sRetN, Ob.sDrop, Ob.sApp, Ob.sAug, Ob.sFrz, Ob.frz, Ob.sAsg, Ob.sPar, Ob.sE, Ob.bnd, Ob.lft, Ob.gSet, Ob.gsNil, Ob.gsCons, Ob.gTup, Ob.gLst, Ob.sFor, Ob.iL, Ob.iT, Ob.eVar, Ob.e2, Ob.op2, Ob.asB, Ob.truD, Ob.eChain, Ob.tAndF, Ob.tOrF, Ob.tNotF, Ob.eAnd, Ob.eOr, Ob.eNot, Ob.eIf, Ob.aNil, Ob.aCons, Ob.eTup, Ob.mkT, Ob.lLst, Ob.eL, Ob.mkL, Ob.eCall, Ob.pyAll, Ob.pE, Ob.pL, Ob.pT, Ob.pv, Ob.pvS, Ob.eIx, Ob.ixD, Ob.D.lst?, Ob.D.tup?, Ob.lLc, Ob.lcD, Ob.wipeE, Ob.pYes, Ob.sNext, Ob.fnO, Ob.entry, Ob.goE, Ob.goL, Ob.goN, Ob.eG, Ob.lG, Ob.eP, Ob.eFld, Ob.fld, Ob.sFld, Ob.setFld, Ob.putD, Ob.sFldAug, Ob.clsOf, Ob.eMeth, Ob.eMeth0, Ob.eProp, Ob.eMake, Ob.eMakeK, Ob.made, Ob.eSup, Ob.eSup0, Ob.eSupK, Ob.Mr.list, Ob.eIsC, Ob.isC, Ob.sRaise, Ob.eLenSet, Ob.lenSet, List.lookup_cons, List.lookup_nil, Bool.false_eq_true, List.set_set, beq_self_eq_true, Option.isNone_none, Option.map_none, Option.bind_none, lc2]) ?_
    have z3 : Ob.frz 3 [V (.cls "Plan"), V (cT "rent:50, food:30, fun:9"), V (.lst o1), some (.own (zsl.map Ob.D.py)), none, none] = [V (.cls "Plan"), V (cT "rent:50, food:30, fun:9"), V (.lst o1), V (.py (.list zsl)), none, none] := by
      show [V (.cls "Plan"), V (cT "rent:50, food:30, fun:9"), V (.lst o1), V (Ob.mkL (zsl.map Ob.D.py)), none, none] = _
      rw [Ob.mkL_py]
    show (Ob.sSeq _ _ : Ob.FS) (Ob.frz 3 _) T1 = _
    rw [z3]
    refine oseq (e := [V (.cls "Plan"), V (cT "rent:50, food:30, fun:9"), V (.lst o1), V (.py (.list zsl)), none, none]) (s := T1) (by simp only [sSeq, sSet, sOwn, sPar, sParL,  sIf, sRet, sRetL, sRetO, sDrop, sAug, sApp, sFrz, frz, sAsg, gSet, gsNil, gsCons, gTupF, Fi.gSub, sFor, iL, iT, iR1, iR2, iZ, iEn, itemsK, eVar, eC, Fi.e2, Fi.e1, asB, eChain, tAndF, tOrF, tNotF, eAnd, eOr, eNot, eIf, aNil, aCons, eTup, lLst, eL, eCall, lCall, eCallF, lCallF, eSlT, lSl, oNone, oSome, ownIx, ownLen, lLc, wipeE, pYes, sNext, fnD, entry, fAdd_int, fSub, fMul_l, fMul_r, fDiv_ok, fMod_ok, fPow_ok, fLt, fLe, fGt, fGe, fEq_int, fEq_str, fEq_bool, fNe_int, fNe_str, fNe_bool, isN, fIs, fIsNot, fIx, fNeg, fLen, fMin, fMax, fTuple, fList, fIntB, fSum, fAll, fAny, at_0, at_1, at_2, eT, eS, eStep, eR, getInts_map, Option.bind_some, Option.map_some, List.getElem?_cons_succ, List.getElem?_cons_zero, List.set_cons_succ, List.set_cons_zero, List.length_cons, List.length_nil, List.length_map, List.map_cons, List.map_nil, List.nil_append, List.cons_append, List.replicate, Nat.zero_add, Nat.reduceAdd, Nat.reduceSub, decide_true, decide_false, reduceIte, Nat.reduceLeDiff, Nat.reduceLT, Int.reduceLT, Int.reduceLE, Int.reduceNeg, Int.reducePow, and_self, or_self, and_true, true_and, or_true, true_or, Bool.not_true, Bool.not_false, pour_spend, spend_pour, Ob.sSeq, Ob.sSet, Ob.sOwn, Ob.sIf, Ob.sRet, Ob.sRetL, Ob.sRetO, Ob.sRetN, Ob.sDrop, Ob.sApp, Ob.sAug, Ob.sFrz, Ob.frz, Ob.sAsg, Ob.sPar, Ob.sE, Ob.bnd, Ob.lft, Ob.gSet, Ob.gsNil, Ob.gsCons, Ob.gTup, Ob.gLst, Ob.sFor, Ob.iL, Ob.iT, Ob.eVar, Ob.e2, Ob.op2, Ob.asB, Ob.truD, Ob.eChain, Ob.tAndF, Ob.tOrF, Ob.tNotF, Ob.eAnd, Ob.eOr, Ob.eNot, Ob.eIf, Ob.aNil, Ob.aCons, Ob.eTup, Ob.mkT, Ob.lLst, Ob.eL, Ob.mkL, Ob.eCall, Ob.pyAll, Ob.pE, Ob.pL, Ob.pT, Ob.pv, Ob.pvS, Ob.eIx, Ob.ixD, Ob.D.lst?, Ob.D.tup?, Ob.lLc, Ob.lcD, Ob.wipeE, Ob.pYes, Ob.sNext, Ob.fnO, Ob.entry, Ob.goE, Ob.goL, Ob.goN, Ob.eG, Ob.lG, Ob.eP, Ob.eFld, Ob.fld, Ob.sFld, Ob.setFld, Ob.putD, Ob.sFldAug, Ob.clsOf, Ob.eMeth, Ob.eMeth0, Ob.eProp, Ob.eMake, Ob.eMakeK, Ob.made, Ob.eSup, Ob.eSup0, Ob.eSupK, Ob.Mr.list, Ob.eIsC, Ob.isC, Ob.sRaise, Ob.eLenSet, Ob.lenSet, List.lookup_cons, List.lookup_nil, Bool.false_eq_true, List.set_set, beq_self_eq_true, Option.isNone_none, Option.map_none, Option.bind_none, Ob.eLenD, Ob.D.seq?, ol, Ob.eLenSetS, Ob.lenSetS, gs, l2, dS, nl, show decide ((6 : Int) < ((3 : Nat) : Int)) = false from rfl, show decide (((3 : Nat) : Int) < ((3 : Nat) : Int)) = false from rfl, Nat.reduceLeDiff]) ?_
    simp only [sSeq, sSet, sOwn, sPar, sParL,  sIf, sRet, sRetL, sRetO, sDrop, sAug, sApp, sFrz, frz, sAsg, gSet, gsNil, gsCons, gTupF, Fi.gSub, sFor, iL, iT, iR1, iR2, iZ, iEn, itemsK, eVar, eC, Fi.e2, Fi.e1, asB, eChain, tAndF, tOrF, tNotF, eAnd, eOr, eNot, eIf, aNil, aCons, eTup, lLst, eL, eCall, lCall, eCallF, lCallF, eSlT, lSl, oNone, oSome, ownIx, ownLen, lLc, wipeE, pYes, sNext, fnD, entry, fAdd_int, fSub, fMul_l, fMul_r, fDiv_ok, fMod_ok, fPow_ok, fLt, fLe, fGt, fGe, fEq_int, fEq_str, fEq_bool, fNe_int, fNe_str, fNe_bool, isN, fIs, fIsNot, fIx, fNeg, fLen, fMin, fMax, fTuple, fList, fIntB, fSum, fAll, fAny, at_0, at_1, at_2, eT, eS, eStep, eR, getInts_map, Option.bind_some, Option.map_some, List.getElem?_cons_succ, List.getElem?_cons_zero, List.set_cons_succ, List.set_cons_zero, List.length_cons, List.length_nil, List.length_map, List.map_cons, List.map_nil, List.nil_append, List.cons_append, List.replicate, Nat.zero_add, Nat.reduceAdd, Nat.reduceSub, decide_true, decide_false, reduceIte, Nat.reduceLeDiff, Nat.reduceLT, Int.reduceLT, Int.reduceLE, Int.reduceNeg, Int.reducePow, and_self, or_self, and_true, true_and, or_true, true_or, Bool.not_true, Bool.not_false, pour_spend, spend_pour, Ob.sSeq, Ob.sSet, Ob.sOwn, Ob.sIf, Ob.sRet, Ob.sRetL, Ob.sRetO, Ob.sRetN, Ob.sDrop, Ob.sApp, Ob.sAug, Ob.sFrz, Ob.frz, Ob.sAsg, Ob.sPar, Ob.sE, Ob.bnd, Ob.lft, Ob.gSet, Ob.gsNil, Ob.gsCons, Ob.gTup, Ob.gLst, Ob.sFor, Ob.iL, Ob.iT, Ob.eVar, Ob.e2, Ob.op2, Ob.asB, Ob.truD, Ob.eChain, Ob.tAndF, Ob.tOrF, Ob.tNotF, Ob.eAnd, Ob.eOr, Ob.eNot, Ob.eIf, Ob.aNil, Ob.aCons, Ob.eTup, Ob.mkT, Ob.lLst, Ob.eL, Ob.mkL, Ob.eCall, Ob.pyAll, Ob.pE, Ob.pL, Ob.pT, Ob.pv, Ob.pvS, Ob.eIx, Ob.ixD, Ob.D.lst?, Ob.D.tup?, Ob.lLc, Ob.lcD, Ob.wipeE, Ob.pYes, Ob.sNext, Ob.fnO, Ob.entry, Ob.goE, Ob.goL, Ob.goN, Ob.eG, Ob.lG, Ob.eP, Ob.eFld, Ob.fld, Ob.sFld, Ob.setFld, Ob.putD, Ob.sFldAug, Ob.clsOf, Ob.eMeth, Ob.eMeth0, Ob.eProp, Ob.eMake, Ob.eMakeK, Ob.made, Ob.eSup, Ob.eSup0, Ob.eSupK, Ob.Mr.list, Ob.eIsC, Ob.isC, Ob.sRaise, Ob.eLenSet, Ob.lenSet, List.lookup_cons, List.lookup_nil, Bool.false_eq_true, List.set_set, beq_self_eq_true, Option.isNone_none, Option.map_none, Option.bind_none, Ob.eMakeVS, Ob.D.seq?, Ob.made, hl, mr]
  show Ob.fnO 6 b_Plan_read [.cls "Plan", cT "rent:50, food:30, fun:9"] st = _
  unfold Ob.fnO
  rw [show Ob.entry 6 [Ob.D.cls "Plan", cT "rent:50, food:30, fun:9"] = [V (.cls "Plan"), V (cT "rent:50, food:30, fun:9"), none, none, none, none] from rfl, hb]
theorem law_true (ns : List Int) (hl : ns.length ≤ 63) : ∃ st, F_law [.py (.list (ns.map .int))] [.tab "law"] = some (.ok (.val (.py (.bool true))) st) := by
  obtain ⟨e, s1, f1, t1, y1, y2, y3, y4, y5, y6, y7, y8, y9, y10, y11, y12, y13, y14, rfl⟩ : ∃ e s, Ob.forD (Ob.gSet 1) lp_law_3 (((List.range 8).map fun (i : Nat) => PyData.int (i : Int)).map Ob.D.py) [V (.py (.list (ns.map .int))), none, none, none, none, none, none, none, none, none, none, none, none, none, none] [.tab "law"] = some (.next e s) ∧ s[0]? = some (.tab "law") ∧ ∃ y1 y2 y3 y4 y5 y6 y7 y8 y9 y10 y11 y12 y13 y14, e = [V (.py (.list (ns.map .int))), y1, y2, y3, y4, y5, y6, y7, y8, y9, y10, y11, y12, y13, y14] := by
    refine ofor_inv (fun _ e s => s[0]? = some (.tab "law") ∧ ∃ y1 y2 y3 y4 y5 y6 y7 y8 y9 y10 y11 y12 y13 y14, e = [V (.py (.list (ns.map .int))), y1, y2, y3, y4, y5, y6, y7, y8, y9, y10, y11, y12, y13, y14]) _ 0 _ [.tab "law"] ⟨rfl, _, _, _, _, _, _, _, _, _, _, _, _, _, _, rfl⟩ fun i d e s hd he => ?_
    obtain ⟨hs, y1, y2, y3, y4, y5, y6, y7, y8, y9, y10, y11, y12, y13, y14, rfl⟩ := he
    obtain ⟨hi, rfl⟩ := orange_get hd
    obtain ⟨z2, z3, z4, z5, z6, z7, z8, z9, z10, z11, z12, z13, z14, s2, h, h1⟩ := out11 ns hl i hi s hs y2 y3 y4 y5 y6 y7 y8 y9 y10 y11 y12 y13 y14
    exact ⟨_, _, _, rfl, h, h1, V (cI i), z2, z3, z4, z5, z6, z7, z8, z9, z10, z11, z12, z13, z14, rfl⟩
  obtain ⟨s2, e2, R2, p2⟩ := read3 s1
  have hR : Row s2 (mkR s1.length RS3) := R2
  have mv := move_ok (e := ⟨s1.length + 1 + 1, 0, "fun", 9, 0, 0, false⟩) (k := 0) R2 p2 (by simp [mkR, Rw.ev]) (by rw [mkR_len]; decide) (by rw [mkR_len]; decide)
  have km := pmv_pick (F := F_Plan_move) p2
  have hp := row_plan R2.ok p2
  have R3 := (R2.setP (fs := []) (o := oP (mvE ⟨s1.length + 1 + 1, 0, "fun", 9, 0, 0, false⟩ 0 (mkR s1.length RS3)) 0) hp).perm (mv_perm 0 (e := ⟨s1.length + 1 + 1, 0, "fun", 9, 0, 0, false⟩) (by simp [mkR, Rw.ev]) R2.nn)
  have p3 := set_get (u := oP (mvE ⟨s1.length + 1 + 1, 0, "fun", 9, 0, 0, false⟩ 0 (mkR s1.length RS3)) 0) p2
  have l3 : (mvE ⟨s1.length + 1 + 1, 0, "fun", 9, 0, 0, false⟩ 0 (mkR s1.length RS3)).map (·.nm) = (["fun", "rent", "food"] : List Str) := by
    unfold mvE
    rw [List.take_zero, List.nil_append, List.drop_zero, List.map_cons, oth_nm, mkR_nm]
    show ("fun" : Str) :: (RS3.map (·.nm)).filter (fun y => decide (y ≠ ("fun" : Str))) = (["fun", "rent", "food"] : List Str)
    decide +kernel
  have nm3 := pnames_ok R3.ok (by have := congrArg List.length l3; rw [List.length_map] at this; rw [this]; decide) p3
  rw [l3] at nm3
  have pn := ppickP (F := F_Plan_names) p3
  generalize s2.set (s1.length + 3) (oP (mvE ⟨s1.length + 1 + 1, 0, "fun", 9, 0, 0, false⟩ 0 (mkR s1.length RS3)) 0) = s3 at *
  replace mv : F_Plan_move [.obj (s1.length + 3), cT "fun", cI 0] s2 = some (.ok (.val (.py .none)) s3) := mv
  have eq3 : fEq (.tuple [.str "fun", .str "rent", .str "food"]) (.tuple [.str "fun", .str "rent", .str "food"]) = some (.bool true) := fEq_self (shaped_T (by decide +kernel))
  replace nm3 : F_Plan_names [.obj (s1.length + 3)] s3 = some (.ok (.val (.py (.tuple [.str "fun", .str "rent", .str "food"]))) s3) := nm3
  refine ⟨s3, ?_⟩
  generalize s1.length + 3 = pp at *
  simp only [sSeq, sSet, sOwn, sPar, sParL,  sIf, sRet, sRetL, sRetO, sDrop, sAug, sApp, sFrz, frz, sAsg, gSet, gsNil, gsCons, gTupF, Fi.gSub, sFor, iL, iT, iR1, iR2, iZ, iEn, itemsK, eVar, eC, Fi.e2, Fi.e1, asB, eChain, tAndF, tOrF, tNotF, eAnd, eOr, eNot, eIf, aNil, aCons, eTup, lLst, eL, eCall, lCall, eCallF, lCallF, eSlT, lSl, oNone, oSome, ownIx, ownLen, lLc, wipeE, pYes, sNext, fnD, entry, fAdd_int, fSub, fMul_l, fMul_r, fDiv_ok, fMod_ok, fPow_ok, fLt, fLe, fGt, fGe, fEq_int, fEq_str, fEq_bool, fNe_int, fNe_str, fNe_bool, isN, fIs, fIsNot, fIx, fNeg, fLen, fMin, fMax, fTuple, fList, fIntB, fSum, fAll, fAny, at_0, at_1, at_2, eT, eS, eStep, eR, getInts_map, Option.bind_some, Option.map_some, List.getElem?_cons_succ, List.getElem?_cons_zero, List.set_cons_succ, List.set_cons_zero, List.length_cons, List.length_nil, List.length_map, List.map_cons, List.map_nil, List.nil_append, List.cons_append, List.replicate, Nat.zero_add, Nat.reduceAdd, Nat.reduceSub, decide_true, decide_false, reduceIte, Nat.reduceLeDiff, Nat.reduceLT, Int.reduceLT, Int.reduceLE, Int.reduceNeg, Int.reducePow, and_self, or_self, and_true, true_and, or_true, true_or, Bool.not_true, Bool.not_false, pour_spend, spend_pour, Ob.sSeq, Ob.sSet, Ob.sOwn, Ob.sIf, Ob.sRet, Ob.sRetL, Ob.sRetO, Ob.sRetN, Ob.sDrop, Ob.sApp, Ob.sAug, Ob.sFrz, Ob.frz, Ob.sAsg, Ob.sPar, Ob.sE, Ob.bnd, Ob.lft, Ob.gSet, Ob.gsNil, Ob.gsCons, Ob.gTup, Ob.gLst, Ob.sFor, Ob.iL, Ob.iT, Ob.eVar, Ob.e2, Ob.op2, Ob.asB, Ob.truD, Ob.eChain, Ob.tAndF, Ob.tOrF, Ob.tNotF, Ob.eAnd, Ob.eOr, Ob.eNot, Ob.eIf, Ob.aNil, Ob.aCons, Ob.eTup, Ob.mkT, Ob.lLst, Ob.eL, Ob.mkL, Ob.eCall, Ob.pyAll, Ob.pE, Ob.pL, Ob.pT, Ob.pv, Ob.pvS, Ob.eIx, Ob.ixD, Ob.D.lst?, Ob.D.tup?, Ob.lLc, Ob.lcD, Ob.wipeE, Ob.pYes, Ob.sNext, Ob.fnO, Ob.entry, Ob.goE, Ob.goL, Ob.goN, Ob.eG, Ob.lG, Ob.eP, Ob.eFld, Ob.fld, Ob.sFld, Ob.setFld, Ob.putD, Ob.sFldAug, Ob.clsOf, Ob.eMeth, Ob.eMeth0, Ob.eProp, Ob.eMake, Ob.eMakeK, Ob.made, Ob.eSup, Ob.eSup0, Ob.eSupK, Ob.Mr.list, Ob.eIsC, Ob.isC, Ob.sRaise, Ob.eLenSet, Ob.lenSet, List.lookup_cons, List.lookup_nil, Bool.false_eq_true, List.set_set, beq_self_eq_true, Option.isNone_none, Option.map_none, Option.bind_none, F_law, b_law, q_law_8, f1, Ob.eCM, e2, km, mv, pn, nm3, eq3, show (8 : Int).toNat = 8 from rfl]
end Lw

namespace Lw
open PySem PySem.Spec PyProof.Rows L2 Fi
section
variable {w : World} {K : PySem.W.Frag} {mg : Str → Option Value} {base : Heap}
def u_err_InvalidPlace : FS := (sSeq (sSet 1 (eL (lLst (aCons (eC (.bool false)) (aCons (eC (.bool false)) (aCons (eC (.bool false)) aNil)))))) (sSeq (sSet 1 (e2 Ht.fCat (eVar 1) (eL (lLst (aCons (eC (.bool false)) (aCons (eC (.bool false)) (aCons (eC (.bool false)) aNil))))))) (sSeq (sSet 1 (e2 Ht.fCat (eVar 1) (eL (lLst (aCons (eC (.bool false)) (aCons (eC (.bool true)) (aCons (eC (.bool false)) aNil))))))) (sSeq (sSet 1 (e2 Ht.fCat (eVar 1) (eL (lLst (aCons (eC (.bool false)) (aCons (eC (.bool false)) (aCons (eC (.bool true)) aNil))))))) (sSeq (sSet 2 (eC (.str "name cap level floor amount text envelopes place deed unknown enough value"))) (sRet (Ht.eJoin (eC (.str " ")) (lLc (iZ .l .l (aCons (eL (Ht.lSplit (eVar 2) (eC (.str " ")))) (aCons (eVar 1) aNil))) (gTupF 2 (gsCons (gSet 3) (gsCons (gSet 4) gsNil))) (asB (eVar 4)) (eVar 3) [3, 4]))))))))
theorem k_err_InvalidPlace (T : Tx K mg base) : Ht.FnE PW w K mg base 1 (He.ga K "_law_error") (He.ga K "InvalidPlace") "place value" := by
  obtain ⟨fd, F⟩ := T.d__law_error
  exact Ht.fnE_ok (k := 0) (u := u_err_InvalidPlace) F sc__law_error rfl (fun _ _ _ _ _ _ us hl => match us, hl with | [_], _ => rfl) (by kernel_rfl) fun cdv A outer s H E0 p hot hz hr => by
    have E := Ht.isE_of (X := L2H.cxH CX0 PW w K mg base N__law_error "_law_error" (defScope s__law_error) (He.ga K "_law_error") cdv A outer s H E0 p) (p := p) (x := "e") T.x_InvalidPlace (List.mem_singleton.mpr rfl) hot hz T.n_isinstance
    exact (Ht.f_cons (Ht.f_set 1 (by decide) sc__law_error.nd (Ht.fx_L (Ht.fl_lst (Ht.fa_cons (Ht.x_isE E T.g_InvalidName (Ht.row_at T.r_InvalidPlace 0)) (Ht.fa_cons (Ht.x_isE E T.g_InvalidCap (Ht.row_at T.r_InvalidPlace 1)) (Ht.fa_cons (Ht.x_isE E T.g_InvalidLevel (Ht.row_at T.r_InvalidPlace 2)) Ht.fa_nil)))))) (Ht.f_cons (Ht.f_set 1 (by decide) sc__law_error.nd (Ht.fx_bin Ht.od_cat (Ht.f_of (x_var 1)) (Ht.fx_L (Ht.fl_lst (Ht.fa_cons (Ht.x_isE E T.g_InvalidFloor (Ht.row_at T.r_InvalidPlace 3)) (Ht.fa_cons (Ht.x_isE E T.g_InvalidAmount (Ht.row_at T.r_InvalidPlace 4)) (Ht.fa_cons (Ht.x_isE E T.g_InvalidText (Ht.row_at T.r_InvalidPlace 5)) Ht.fa_nil))))))) (Ht.f_cons (Ht.f_set 1 (by decide) sc__law_error.nd (Ht.fx_bin Ht.od_cat (Ht.f_of (x_var 1)) (Ht.fx_L (Ht.fl_lst (Ht.fa_cons (Ht.x_isE E T.g_InvalidEnvelopes (Ht.row_at T.r_InvalidPlace 6)) (Ht.fa_cons (Ht.x_isE E T.g_InvalidPlace (Ht.row_at T.r_InvalidPlace 7)) (Ht.fa_cons (Ht.x_isE E T.g_InvalidDeed (Ht.row_at T.r_InvalidPlace 8)) Ht.fa_nil))))))) (Ht.f_cons (Ht.f_set 1 (by decide) sc__law_error.nd (Ht.fx_bin Ht.od_cat (Ht.f_of (x_var 1)) (Ht.fx_L (Ht.fl_lst (Ht.fa_cons (Ht.x_isE E T.g_UnknownEnvelope (Ht.row_at T.r_InvalidPlace 9)) (Ht.fa_cons (Ht.x_isE E T.g_NotEnough (Ht.row_at T.r_InvalidPlace 10)) (Ht.fa_cons (Ht.x_isET (T := "ValueError") E T.n_ValueError (by decide +kernel) (of_decide_eq_true T.rt_InvalidPlace)) Ht.fa_nil))))))) (Ht.f_cons (Ht.f_set 2 (by decide) sc__law_error.nd (Ht.f_of x_str)) (Ht.f_ret (Ht.x_join x_str (Ht.l_lcH hot (List.mem_singleton.mpr rfl) sc__law_error.nd (Ht.i_zipH rfl T.n_zip (a_cons (x_L (Ht.l_split (x_var 2) x_str)) (a_cons (x_var 1) a_nil))) (blkOk_by (own := [("word", 3), ("good", 4)]) (N := N__law_error) (sc := defScope s__law_error) (by decide +kernel)) (fun _ _ _ _ _ => (Ht.g_tupH hot (List.mem_singleton.mpr rfl) (gs_cons (g_name 3 sc__law_error.nd) (gs_cons (g_name 4 sc__law_error.nd) (gs_nil (m := false)))))) (fun _ _ _ _ _ => (q_one (t_val (x_var 4)))) (fun _ _ _ _ _ => (x_var 3))))))))))
def u_err_UnknownEnvelope : FS := (sSeq (sSet 1 (eL (lLst (aCons (eC (.bool false)) (aCons (eC (.bool false)) (aCons (eC (.bool false)) aNil)))))) (sSeq (sSet 1 (e2 Ht.fCat (eVar 1) (eL (lLst (aCons (eC (.bool false)) (aCons (eC (.bool false)) (aCons (eC (.bool false)) aNil))))))) (sSeq (sSet 1 (e2 Ht.fCat (eVar 1) (eL (lLst (aCons (eC (.bool false)) (aCons (eC (.bool false)) (aCons (eC (.bool false)) aNil))))))) (sSeq (sSet 1 (e2 Ht.fCat (eVar 1) (eL (lLst (aCons (eC (.bool true)) (aCons (eC (.bool false)) (aCons (eC (.bool true)) aNil))))))) (sSeq (sSet 2 (eC (.str "name cap level floor amount text envelopes place deed unknown enough value"))) (sRet (Ht.eJoin (eC (.str " ")) (lLc (iZ .l .l (aCons (eL (Ht.lSplit (eVar 2) (eC (.str " ")))) (aCons (eVar 1) aNil))) (gTupF 2 (gsCons (gSet 3) (gsCons (gSet 4) gsNil))) (asB (eVar 4)) (eVar 3) [3, 4]))))))))
theorem k_err_UnknownEnvelope (T : Tx K mg base) : Ht.FnE PW w K mg base 1 (He.ga K "_law_error") (He.ga K "UnknownEnvelope") "unknown value" := by
  obtain ⟨fd, F⟩ := T.d__law_error
  exact Ht.fnE_ok (k := 0) (u := u_err_UnknownEnvelope) F sc__law_error rfl (fun _ _ _ _ _ _ us hl => match us, hl with | [_], _ => rfl) (by kernel_rfl) fun cdv A outer s H E0 p hot hz hr => by
    have E := Ht.isE_of (X := L2H.cxH CX0 PW w K mg base N__law_error "_law_error" (defScope s__law_error) (He.ga K "_law_error") cdv A outer s H E0 p) (p := p) (x := "e") T.x_UnknownEnvelope (List.mem_singleton.mpr rfl) hot hz T.n_isinstance
    exact (Ht.f_cons (Ht.f_set 1 (by decide) sc__law_error.nd (Ht.fx_L (Ht.fl_lst (Ht.fa_cons (Ht.x_isE E T.g_InvalidName (Ht.row_at T.r_UnknownEnvelope 0)) (Ht.fa_cons (Ht.x_isE E T.g_InvalidCap (Ht.row_at T.r_UnknownEnvelope 1)) (Ht.fa_cons (Ht.x_isE E T.g_InvalidLevel (Ht.row_at T.r_UnknownEnvelope 2)) Ht.fa_nil)))))) (Ht.f_cons (Ht.f_set 1 (by decide) sc__law_error.nd (Ht.fx_bin Ht.od_cat (Ht.f_of (x_var 1)) (Ht.fx_L (Ht.fl_lst (Ht.fa_cons (Ht.x_isE E T.g_InvalidFloor (Ht.row_at T.r_UnknownEnvelope 3)) (Ht.fa_cons (Ht.x_isE E T.g_InvalidAmount (Ht.row_at T.r_UnknownEnvelope 4)) (Ht.fa_cons (Ht.x_isE E T.g_InvalidText (Ht.row_at T.r_UnknownEnvelope 5)) Ht.fa_nil))))))) (Ht.f_cons (Ht.f_set 1 (by decide) sc__law_error.nd (Ht.fx_bin Ht.od_cat (Ht.f_of (x_var 1)) (Ht.fx_L (Ht.fl_lst (Ht.fa_cons (Ht.x_isE E T.g_InvalidEnvelopes (Ht.row_at T.r_UnknownEnvelope 6)) (Ht.fa_cons (Ht.x_isE E T.g_InvalidPlace (Ht.row_at T.r_UnknownEnvelope 7)) (Ht.fa_cons (Ht.x_isE E T.g_InvalidDeed (Ht.row_at T.r_UnknownEnvelope 8)) Ht.fa_nil))))))) (Ht.f_cons (Ht.f_set 1 (by decide) sc__law_error.nd (Ht.fx_bin Ht.od_cat (Ht.f_of (x_var 1)) (Ht.fx_L (Ht.fl_lst (Ht.fa_cons (Ht.x_isE E T.g_UnknownEnvelope (Ht.row_at T.r_UnknownEnvelope 9)) (Ht.fa_cons (Ht.x_isE E T.g_NotEnough (Ht.row_at T.r_UnknownEnvelope 10)) (Ht.fa_cons (Ht.x_isET (T := "ValueError") E T.n_ValueError (by decide +kernel) (of_decide_eq_true T.rt_UnknownEnvelope)) Ht.fa_nil))))))) (Ht.f_cons (Ht.f_set 2 (by decide) sc__law_error.nd (Ht.f_of x_str)) (Ht.f_ret (Ht.x_join x_str (Ht.l_lcH hot (List.mem_singleton.mpr rfl) sc__law_error.nd (Ht.i_zipH rfl T.n_zip (a_cons (x_L (Ht.l_split (x_var 2) x_str)) (a_cons (x_var 1) a_nil))) (blkOk_by (own := [("word", 3), ("good", 4)]) (N := N__law_error) (sc := defScope s__law_error) (by decide +kernel)) (fun _ _ _ _ _ => (Ht.g_tupH hot (List.mem_singleton.mpr rfl) (gs_cons (g_name 3 sc__law_error.nd) (gs_cons (g_name 4 sc__law_error.nd) (gs_nil (m := false)))))) (fun _ _ _ _ _ => (q_one (t_val (x_var 4)))) (fun _ _ _ _ _ => (x_var 3))))))))))
theorem k__law_cell (T : Tx K mg base) : Known PW w K mg base 1 "_law_cell" 2 F__law_cell :=
  known_mk T.d__law_cell T.g__law_cell sc__law_cell rfl rfl (fun _ _ _ _ _ _ us hl => match us, hl with | [_, _], _ => rfl) fun cdv A outer s H E hr =>
    (s_cons (s_if (t_cmp od_lt (x_var 1) (x_callB cd_len rfl T.n_len PySem.boot_len (a_cons (x_var 0) a_nil)) (nomark _)) (s_one (s_ret (x_ix (x_var 0) (x_var 1) (fun _ _ => rfl)))) s_nil)
    (s_cons (s_if (t_cmp (od_eq hr.units) (x_callB cd_len rfl T.n_len PySem.boot_len (a_cons (x_var 0) a_nil)) x_int (nomark _)) (s_one (s_ret (x_bin od_add (x_bin od_mul x_int (x_var 1)) x_int))) s_nil)
    (s_one (s_ret (x_bin od_add (x_bin od_mod (x_ix (x_var 0) (x_bin od_mod (x_var 1) (x_callB cd_len rfl T.n_len PySem.boot_len (a_cons (x_var 0) a_nil))) (fun _ _ => rfl)) x_int) (x_bin od_mul x_int (x_var 1)))))))
theorem k__law_names (T : Tx K mg base) : Known PW w K mg base 1 "_law_names" 0 F__law_names :=
  known_mk T.d__law_names T.g__law_names sc__law_names rfl rfl (fun _ _ _ _ _ _ us hl => match us, hl with | [], _ => rfl) fun cdv A outer s H E hr =>
    (s_one (s_retL (l_lst (a_cons x_str (a_cons x_str (a_cons x_str (a_cons x_str (a_cons x_str (a_cons x_str a_nil)))))))))
theorem fn_Envelope_name (T : Tx K mg base) {fd : FuncData} (F : FunD K "name" "Envelope.name" (defArgs s_Envelope_name) (defBody s_Envelope_name) (defScope s_Envelope_name) [] [] (Ob.Lo.ad K (.p "Envelope" "name")) fd) : FnOk PW w K mg base (L2N.CX PW w) 1 (Ob.Lo.ad K (.p "Envelope" "name")) fd ["self"] (Ob.spO K 1 F_Envelope_name) :=
  Ob.def_ok F sc_Envelope_name rfl rfl fun cdv A outer s H E hr tk =>
    (Ob.s_one (Ob.s_ret (Ob.x_fld ["Envelope"] T.a_Env_label (Ob.x_var 0))))
theorem k_Envelope_name (T : Tx K mg base) : Ob.Cal PW w K mg base 1 (Ob.Lo.ad K (.p "Envelope" "name")) (Ob.spO K 1 F_Envelope_name) := by
  obtain ⟨fd, F⟩ := T.d_Envelope_name
  exact Ob.cal_of (fn_Envelope_name T F) (FunD.bindsN (ps := ["self"]) F (fun _ _ _ _ _ _ us hl => match us, hl with | [_], _ => rfl))
theorem k_Envelope_is_name (T : Tx K mg base) : Ob.Stat PW w K mg base 1 "Envelope" "is_name" 1 F_Envelope_is_name := by
  obtain ⟨fd, F⟩ := T.d_Envelope_is_name
  exact Ob.stat_of T.t_Envelope_is_name T.g_Envelope (Ob.pure_ok F sc_Envelope_is_name rfl rfl fun cdv A outer s H E hr =>
    (s_one (s_ret (x_and (x_isI (T := "str") (by decide +kernel) rfl T.n_isinstance rfl T.n_str (x_var 0)) (x_and (x_chain od_le od_le x_int (x_callB cd_lenS rfl T.n_len PySem.boot_len (a_cons (x_var 0) a_nil)) x_int) (x_one (x_callB (cd_all rfl) rfl T.n_all (by decide +kernel) (a_cons (x_L (l_lc rfl sc_Envelope_is_name.nd (i_str (x_var 0)) (blkOk_by (own := [("sign", 1)]) (N := N_Envelope_is_name) (sc := defScope s_Envelope_is_name) (by decide +kernel)) (fun _ _ _ _ _ => (g_name 1 sc_Envelope_is_name.nd)) (fun _ _ _ _ _ => q_nil) (fun _ _ _ _ _ => (x_cmp od_inS (x_var 1) (x_glS T.c_LETTERS) rfl)))) a_nil)))))))) F.kp (F.bindsN (fun _ _ _ _ _ _ us hl => match us, hl with | [_], _ => rfl))
theorem k_is_integer (T : Tx K mg base) : Known PW w K mg base 1 "is_integer" 3 F_is_integer :=
  known_mk T.d_is_integer T.g_is_integer sc_is_integer rfl rfl (fun _ _ _ _ _ _ us hl => match us, hl with | [_, _, _], _ => rfl) fun cdv A outer s H E hr =>
    (s_one (s_ret (x_and (x_isI (T := "int") (by decide +kernel) rfl T.n_isinstance rfl T.n_int (x_var 0)) (x_and (x_not (x_isI (T := "bool") (by decide +kernel) rfl T.n_isinstance rfl T.n_bool (x_var 0))) (x_one (x_chain od_le od_le (x_var 1) (x_var 0) (x_var 2)))))))
theorem fn_Envelope_level (T : Tx K mg base) {fd : FuncData} (F : FunD K "level" "Envelope.level" (defArgs s_Envelope_level) (defBody s_Envelope_level) (defScope s_Envelope_level) [] [] (Ob.Lo.ad K (.p "Envelope" "level")) fd) : FnOk PW w K mg base (L2N.CX PW w) 1 (Ob.Lo.ad K (.p "Envelope" "level")) fd ["self"] (Ob.spO K 1 F_Envelope_level) :=
  Ob.def_ok F sc_Envelope_level rfl rfl fun cdv A outer s H E hr tk =>
    (Ob.s_one (Ob.s_ret (Ob.x_fld ["Envelope"] T.a_Env_held (Ob.x_var 0))))
theorem k_Envelope_level (T : Tx K mg base) : Ob.Cal PW w K mg base 1 (Ob.Lo.ad K (.p "Envelope" "level")) (Ob.spO K 1 F_Envelope_level) := by
  obtain ⟨fd, F⟩ := T.d_Envelope_level
  exact Ob.cal_of (fn_Envelope_level T F) (FunD.bindsN (ps := ["self"]) F (fun _ _ _ _ _ _ us hl => match us, hl with | [_], _ => rfl))
theorem fn_Envelope_free (T : Tx K mg base) {fd : FuncData} (F : FunD K "free" "Envelope.free" (defArgs s_Envelope_free) (defBody s_Envelope_free) (defScope s_Envelope_free) [] [] (Ob.Lo.ad K (.m "Envelope" "free")) fd) : FnOk PW w K mg base (L2N.CX PW w) 1 (Ob.Lo.ad K (.m "Envelope" "free")) fd ["self"] (Ob.spO K 1 F_Envelope_free) :=
  Ob.def_ok F sc_Envelope_free rfl rfl fun cdv A outer s H E hr tk =>
    (Ob.s_one (Ob.s_ret (Ob.x_fld ["Envelope"] T.a_Env_held (Ob.x_var 0))))
theorem k_Envelope_free (T : Tx K mg base) : Ob.Cal PW w K mg base 1 (Ob.Lo.ad K (.m "Envelope" "free")) (Ob.spO K 1 F_Envelope_free) := by
  obtain ⟨fd, F⟩ := T.d_Envelope_free
  exact Ob.cal_of (fn_Envelope_free T F) (FunD.bindsN (ps := ["self"]) F (fun _ _ _ _ _ _ us hl => match us, hl with | [_], _ => rfl))
theorem fn_Plan_lost (T : Tx K mg base) {fd : FuncData} (F : FunD K "lost" "Plan.lost" (defArgs s_Plan_lost) (defBody s_Plan_lost) (defScope s_Plan_lost) [] [] (Ob.Lo.ad K (.p "Plan" "lost")) fd) : FnOk PW w K mg base (L2N.CX PW w) 1 (Ob.Lo.ad K (.p "Plan" "lost")) fd ["self"] (Ob.spO K 1 F_Plan_lost) :=
  Ob.def_ok F sc_Plan_lost rfl rfl fun cdv A outer s H E hr tk =>
    (Ob.s_one (Ob.s_ret (Ob.x_fld ["Plan"] T.a_Plan_gone (Ob.x_var 0))))
theorem k_Plan_lost (T : Tx K mg base) : Ob.Cal PW w K mg base 1 (Ob.Lo.ad K (.p "Plan" "lost")) (Ob.spO K 1 F_Plan_lost) := by
  obtain ⟨fd, F⟩ := T.d_Plan_lost
  exact Ob.cal_of (fn_Plan_lost T F) (FunD.bindsN (ps := ["self"]) F (fun _ _ _ _ _ _ us hl => match us, hl with | [_], _ => rfl))
theorem k_is_number_text (T : Tx K mg base) : Known PW w K mg base 1 "is_number_text" 1 F_is_number_text :=
  known_mk T.d_is_number_text T.g_is_number_text sc_is_number_text rfl rfl (fun _ _ _ _ _ _ us hl => match us, hl with | [_], _ => rfl) fun cdv A outer s H E hr =>
    (s_cons (s_if (PW.pt (w_or (t_cmp (od_eq hr.units) (x_var 0) x_str (nomark _)) (w_or (t_cmp od_gt (x_callB cd_lenS rfl T.n_len PySem.boot_len (a_cons (x_var 0) a_nil)) x_int (nomark _)) (pw_or1 (t_not (t_val (x_callB (cd_all rfl) rfl T.n_all (by decide +kernel) (a_cons (x_L (l_lc rfl sc_is_number_text.nd (i_str (x_var 0)) (blkOk_by (own := [("sign", 1)]) (N := N_is_number_text) (sc := defScope s_is_number_text) (by decide +kernel)) (fun _ _ _ _ _ => (g_name 1 sc_is_number_text.nd)) (fun _ _ _ _ _ => q_nil) (fun _ _ _ _ _ => (x_cmp od_inS (x_var 1) (x_glS T.c_FIGURES) rfl)))) a_nil)))))))) (s_one (s_ret x_bl)) s_nil)
    (s_one (s_ret (x_or (x_cmp (od_eq hr.units) (x_var 0) x_str (nomark _)) (x_one (x_cmp (od_ne hr.units) (x_ixS (x_var 0) x_int (fun _ _ => rfl)) x_str (nomark _)))))))
theorem k__law_digits (T : Tx K mg base) : Known PW w K mg base 2 "_law_digits" 4 F__law_digits :=
  known_mk T.d__law_digits T.g__law_digits sc__law_digits rfl rfl (fun _ _ _ _ _ _ us hl => match us, hl with | [_, _, _, _], _ => rfl) fun cdv A outer s H E hr =>
    (s_cons (s_set 4 sc__law_digits.nd (x_tup (a_cons x_int (a_cons x_int (a_cons x_int (a_cons x_int (a_cons x_int (a_cons x_int (a_cons x_int (a_cons x_int a_nil))))))))))
    (s_cons (s_set 5 sc__law_digits.nd (x_fn (k__law_cell T) hr (a_cons (x_var 0) (a_cons (x_var 1) a_nil)) (ln_cons (ln_cons ln_nil))))
    (s_cons (s_set 6 sc__law_digits.nd (x_if (t_cmp od_ge (x_var 5) (x_bin od_pow x_int x_int) (nomark _)) (x_var 5) x_int))
    (s_cons (s_own 7 sc__law_digits.nd (l_lst a_nil))
    (s_cons (s_for PassesOwn.never rfl (i_range1 rfl T.n_range (a_cons (x_var 2) a_nil)) (g_name 8 sc__law_digits.nd) (s_cons (s_set 9 sc__law_digits.nd (x_bin od_mul (x_bin od_mod (x_var 5) (x_ix (x_var 4) (x_bin od_mod (x_var 8) x_int) (fun _ _ => rfl))) (x_bin od_add x_int (x_bin od_mul (x_bin od_mul x_int (x_var 8)) (x_var 8)))))
    (s_cons (s_set 9 sc__law_digits.nd (x_bin od_add (x_bin od_add (x_var 9) (x_bin od_mul (x_bin od_mul x_int (x_bin od_add (x_var 8) x_int)) (x_bin od_add (x_var 8) x_int))) (x_bin od_mul x_int (x_var 1))))
    (s_cons (s_set 9 sc__law_digits.nd (x_bin od_mod (x_var 9) (x_ix (x_var 4) (x_bin od_mod (x_bin od_add (x_bin od_mul x_int (x_var 8)) (x_var 1)) x_int) (fun _ _ => rfl))))
    (s_cons (s_set 9 sc__law_digits.nd (x_bin od_mod (x_bin od_mul (x_bin od_mul (x_var 9) (x_var 9)) (x_var 9)) (x_ix (x_var 4) (x_bin od_mod (x_bin od_add (x_var 8) x_int) x_int) (fun _ _ => rfl))))
    (s_cons (s_if (t_cmp od_gt (x_var 6) x_int (nomark _)) (s_one (s_set 9 sc__law_digits.nd (x_var 6))) s_nil)
    (s_cons (s_app 7 (x_bin od_mod (x_var 9) (x_var 3)))
    (s_one (s_set 6 sc__law_digits.nd (x_bin od_div (x_var 6) (x_var 3)))))))))))
    (s_one (s_retO 7)))))))
theorem fn_Envelope___init__ (T : Tx K mg base) {fd : FuncData} (F : FunD K "__init__" "Envelope.__init__" (defArgs s_Envelope___init__) (defBody s_Envelope___init__) (defScope s_Envelope___init__) [.int 0] [] (Ob.Lo.ad K (.m "Envelope" "__init__")) fd) : FnOk PW w K mg base (L2N.CX PW w) 2 (Ob.Lo.ad K (.m "Envelope" "__init__")) fd ["self", "name", "cap", "level"] (Ob.spO K 4 F_Envelope___init__) :=
  Ob.def_ok F sc_Envelope___init__ rfl rfl fun cdv A outer s H E hr tk =>
    (Ob.s_cons (Ob.s_if (Ob.t_p (t_not (t_val (Ob.x_stat (k_Envelope_is_name T) hr (a_cons (x_var 1) a_nil) (ln_cons ln_nil))))) (Ob.s_one (Ob.s_raise T.e_InvalidName rfl tk)) Ob.s_nil)
    (Ob.s_cons (Ob.s_if (Ob.t_p (t_not (t_val (x_fn (k_is_integer T) hr (a_cons (x_var 2) (a_cons x_int (a_cons (Ob.x_cval T.v_Envelope_LARGEST) a_nil))) (ln_cons (ln_cons (ln_cons ln_nil))))))) (Ob.s_one (Ob.s_raise T.e_InvalidCap rfl tk)) Ob.s_nil)
    (Ob.s_cons (Ob.s_if (Ob.t_p (t_not (t_val (x_fn (k_is_integer T) hr (a_cons (x_var 3) (a_cons x_int (a_cons (x_var 2) a_nil))) (ln_cons (ln_cons (ln_cons ln_nil))))))) (Ob.s_one (Ob.s_raise T.e_InvalidLevel rfl tk)) Ob.s_nil)
    (Ob.s_cons (Ob.s_fld ["Envelope"] T.a_Env_label (Ob.x_p (x_var 1)) (Ob.x_var 0))
    (Ob.s_cons (Ob.s_fld ["Envelope"] T.a_Env_limit (Ob.x_p (x_var 2)) (Ob.x_var 0))
    (Ob.s_one (Ob.s_fld ["Envelope"] T.a_Env_held (Ob.x_p (x_var 3)) (Ob.x_var 0))))))))
theorem k_Envelope___init__ (T : Tx K mg base) : Ob.Cal PW w K mg base 2 (Ob.Lo.ad K (.m "Envelope" "__init__")) (Ob.spO K 4 F_Envelope___init__) := by
  obtain ⟨fd, F⟩ := T.d_Envelope___init__
  exact Ob.cal_of (fn_Envelope___init__ T F) (Ob.FunD.bindsP (ps := ["self", "name", "cap", "level"]) F (by decide) (fun _ _ _ _ _ _ _ us its hl hi => match us, hl, its, hi with | [_, _, _, _], _, [_], _ => ⟨_, rfl, rfl⟩))
theorem fn_check_amount (T : Tx K mg base) {fd : FuncData} (F : FunD K "check_amount" "check_amount" (defArgs s_check_amount) (defBody s_check_amount) (defScope s_check_amount) [] [] (Ob.Lo.ad K (.g "check_amount")) fd) : FnOk PW w K mg base (L2N.CX PW w) 2 (Ob.Lo.ad K (.g "check_amount")) fd ["amount"] (Ob.spO K 1 F_check_amount) :=
  Ob.def_ok F sc_check_amount rfl rfl fun cdv A outer s H E hr tk =>
    (Ob.s_one (Ob.s_if (Ob.t_p (t_not (t_val (x_fn (k_is_integer T) hr (a_cons (x_var 0) (a_cons x_int (a_cons x_int a_nil))) (ln_cons (ln_cons (ln_cons ln_nil))))))) (Ob.s_one (Ob.s_raise T.e_InvalidAmount rfl tk)) Ob.s_nil))
theorem k_check_amount_c (T : Tx K mg base) : Ob.Cal PW w K mg base 2 (Ob.Lo.ad K (.g "check_amount")) (Ob.spO K 1 F_check_amount) := by
  obtain ⟨fd, F⟩ := T.d_check_amount
  exact Ob.cal_of (fn_check_amount T F) (FunD.bindsN (ps := ["amount"]) F (fun _ _ _ _ _ _ us hl => match us, hl with | [_], _ => rfl))
theorem k_check_amount (T : Tx K mg base) : Ob.Kn PW w K mg base 2 "check_amount" 1 F_check_amount := by
  obtain ⟨fd, F⟩ := T.d_check_amount
  exact ⟨_, k_check_amount_c T, T.g_check_amount, F.kp⟩
theorem k_Plan___init__ (T : Tx K mg base) (m : Nat) : Ob.Cal PW w K mg base 3 (Ob.Lo.ad K (.m "Plan" "__init__")) (Ob.spO K (m + 1) F_Plan___init__) := by
  obtain ⟨fd, F⟩ := T.d_Plan___init__
  exact Ob.star_cal m F sc_Plan___init__ rfl (fun _ _ _ _ _ _ _ => rfl) (fun _ _ _ _ _ _ _ _ _ => rfl) fun cdv A outer s H E hr tk =>
    (Ob.s_cons (Ob.s_if (PW.pt (Ob.w_or (Ob.t_not (Ob.t_chain od_le od_le (Ob.x_p x_int) (Ob.x_lenD rfl T.n_len (Ob.x_var 1)) (Ob.x_p (Ob.x_cval T.v_Plan_MOST)))) (pw_or1 (Ob.t_not (Ob.t_val (Ob.x_callB (cd_all rfl) rfl T.n_all (by decide +kernel) (Ob.a_cons (Ob.x_L (Ob.l_lc rfl sc_Plan___init__.nd (Wp := Ob.W0) (We := Ob.W0) (Ob.i_tup (Ob.x_var 1)) (blkOk_by (own := [("one", 3)]) (N := N_Plan___init__) (sc := defScope s_Plan___init__) (by decide +kernel)) (fun _ _ _ _ _ => (Ob.g_name 3 sc_Plan___init__.nd)) (fun _ _ _ _ _ => Ob.q_nil) (fun _ _ _ _ _ => (Ob.x_isC T.i_Envelope rfl T.n_isinstance (Ob.x_var 3))))) Ob.a_nil))))))) (Ob.s_one (Ob.s_raise T.e_InvalidEnvelopes rfl tk)) Ob.s_nil)
    (Ob.s_cons (Ob.s_setLc 2 rfl sc_Plan___init__.nd (sw_true rfl rfl rfl (by decide +kernel)) (Wp := Ob.W0) (We := Ob.W0) (Ob.i_tup (Ob.x_var 1)) (blkOk_by (own := [("one", 3)]) (N := N_Plan___init__) (sc := defScope s_Plan___init__) (by decide +kernel)) (fun _ _ _ _ _ => (Ob.g_name 3 sc_Plan___init__.nd)) (fun _ _ _ _ _ => Ob.q_nil) (fun _ _ _ _ _ => (Ob.x_prop (j := 1) (Ob.prps_cons (Ob.prp_of T.l_Envelope T.p_Envelope_name T.y_Envelope_name (k_Envelope_name T)) Ob.prps_nil) hr (Ob.x_var 3)))) (Ob.s_frz 2 (Ob.s_cons (Ob.s_if (Ob.t_cmp od_lt (Ob.x_lenSetS rfl T.n_len rfl T.n_set (Ob.x_p (x_var 2))) (Ob.x_p (x_callB cd_len rfl T.n_len PySem.boot_len (a_cons (x_var 2) a_nil))) (nomark _)) (Ob.s_one (Ob.s_raise T.e_InvalidEnvelopes rfl tk)) Ob.s_nil)
    (Ob.s_cons (Ob.s_fld ["Plan"] T.a_Plan_row (Ob.x_L (Ob.l_listD rfl T.n_list (Ob.x_var 1))) (Ob.x_var 0))
    (Ob.s_one (Ob.s_fld ["Plan"] T.a_Plan_gone (Ob.x_p x_int) (Ob.x_var 0))))))))
theorem fn_Plan_names (T : Tx K mg base) {fd : FuncData} (F : FunD K "names" "Plan.names" (defArgs s_Plan_names) (defBody s_Plan_names) (defScope s_Plan_names) [] [] (Ob.Lo.ad K (.p "Plan" "names")) fd) : FnOk PW w K mg base (L2N.CX PW w) 3 (Ob.Lo.ad K (.p "Plan" "names")) fd ["self"] (Ob.spO K 1 F_Plan_names) :=
  Ob.def_ok F sc_Plan_names rfl rfl fun cdv A outer s H E hr tk =>
    (Ob.s_one (Ob.s_ret (Ob.x_callTy cd_tuple rfl T.n_tuple (by decide +kernel) (Ob.a_cons (Ob.x_L (Ob.l_lc rfl sc_Plan_names.nd (Wp := Ob.W0) (We := Ob.W0) (Ob.i_list (Ob.x_fld ["Plan"] T.a_Plan_row (Ob.x_var 0))) (blkOk_by (own := [("one", 1)]) (N := N_Plan_names) (sc := defScope s_Plan_names) (by decide +kernel)) (fun _ _ _ _ _ => (Ob.g_name 1 sc_Plan_names.nd)) (fun _ _ _ _ _ => Ob.q_nil) (fun _ _ _ _ _ => (Ob.x_prop (j := 1) (Ob.prps_cons (Ob.prp_of T.l_Envelope T.p_Envelope_name T.y_Envelope_name (k_Envelope_name T)) Ob.prps_nil) hr (Ob.x_var 1))))) Ob.a_nil))))
theorem k_Plan_names (T : Tx K mg base) : Ob.Cal PW w K mg base 3 (Ob.Lo.ad K (.p "Plan" "names")) (Ob.spO K 1 F_Plan_names) := by
  obtain ⟨fd, F⟩ := T.d_Plan_names
  exact Ob.cal_of (fn_Plan_names T F) (FunD.bindsN (ps := ["self"]) F (fun _ _ _ _ _ _ us hl => match us, hl with | [_], _ => rfl))
theorem fn_Plan_envelope (T : Tx K mg base) {fd : FuncData} (F : FunD K "envelope" "Plan.envelope" (defArgs s_Plan_envelope) (defBody s_Plan_envelope) (defScope s_Plan_envelope) [] [] (Ob.Lo.ad K (.m "Plan" "envelope")) fd) : FnOk PW w K mg base (L2N.CX PW w) 3 (Ob.Lo.ad K (.m "Plan" "envelope")) fd ["self", "name"] (Ob.spO K 2 F_Plan_envelope) :=
  Ob.def_ok F sc_Plan_envelope rfl rfl fun cdv A outer s H E hr tk =>
    (Ob.s_cons (Ob.s_for Ob.fin_passes rfl (Ob.i_list (Ob.x_fld ["Plan"] T.a_Plan_row (Ob.x_var 0))) (Ob.g_name 2 sc_Plan_envelope.nd) (Ob.s_one (Ob.s_if (PW.pt (Ob.w_and (Ob.t_p (t_val (x_isI (T := "str") (by decide +kernel) rfl T.n_isinstance rfl T.n_str (x_var 1)))) (pw_and1 (Ob.t_cmp (od_eq hr.units) (Ob.x_prop (j := 1) (Ob.prps_cons (Ob.prp_of T.l_Envelope T.p_Envelope_name T.y_Envelope_name (k_Envelope_name T)) Ob.prps_nil) hr (Ob.x_var 2)) (Ob.x_p (x_var 1)) (nomark _))))) (Ob.s_one (Ob.s_ret (Ob.x_var 2))) Ob.s_nil)))
    (Ob.s_one (Ob.s_raise T.e_UnknownEnvelope rfl tk)))
theorem k_Plan_envelope (T : Tx K mg base) : Ob.Cal PW w K mg base 3 (Ob.Lo.ad K (.m "Plan" "envelope")) (Ob.spO K 2 F_Plan_envelope) := by
  obtain ⟨fd, F⟩ := T.d_Plan_envelope
  exact Ob.cal_of (fn_Plan_envelope T F) (FunD.bindsN (ps := ["self", "name"]) F (fun _ _ _ _ _ _ us hl => match us, hl with | [_, _], _ => rfl))
theorem fn_Plan_levels (T : Tx K mg base) {fd : FuncData} (F : FunD K "levels" "Plan.levels" (defArgs s_Plan_levels) (defBody s_Plan_levels) (defScope s_Plan_levels) [] [] (Ob.Lo.ad K (.p "Plan" "levels")) fd) : FnOk PW w K mg base (L2N.CX PW w) 3 (Ob.Lo.ad K (.p "Plan" "levels")) fd ["self"] (Ob.spO K 1 F_Plan_levels) :=
  Ob.def_ok F sc_Plan_levels rfl rfl fun cdv A outer s H E hr tk =>
    (Ob.s_one (Ob.s_ret (Ob.x_callTy cd_tuple rfl T.n_tuple (by decide +kernel) (Ob.a_cons (Ob.x_L (Ob.l_lc rfl sc_Plan_levels.nd (Wp := Ob.W0) (We := Ob.W0) (Ob.i_list (Ob.x_fld ["Plan"] T.a_Plan_row (Ob.x_var 0))) (blkOk_by (own := [("one", 1)]) (N := N_Plan_levels) (sc := defScope s_Plan_levels) (by decide +kernel)) (fun _ _ _ _ _ => (Ob.g_name 1 sc_Plan_levels.nd)) (fun _ _ _ _ _ => Ob.q_nil) (fun _ _ _ _ _ => (Ob.x_prop (j := 1) (Ob.prps_cons (Ob.prp_of T.l_Envelope T.p_Envelope_level T.y_Envelope_level (k_Envelope_level T)) Ob.prps_nil) hr (Ob.x_var 1))))) Ob.a_nil))))
theorem k_Plan_levels (T : Tx K mg base) : Ob.Cal PW w K mg base 3 (Ob.Lo.ad K (.p "Plan" "levels")) (Ob.spO K 1 F_Plan_levels) := by
  obtain ⟨fd, F⟩ := T.d_Plan_levels
  exact Ob.cal_of (fn_Plan_levels T F) (FunD.bindsN (ps := ["self"]) F (fun _ _ _ _ _ _ us hl => match us, hl with | [_], _ => rfl))
theorem fn_Envelope_put (T : Tx K mg base) {fd : FuncData} (F : FunD K "put" "Envelope.put" (defArgs s_Envelope_put) (defBody s_Envelope_put) (defScope s_Envelope_put) [] [] (Ob.Lo.ad K (.m "Envelope" "put")) fd) : FnOk PW w K mg base (L2N.CX PW w) 3 (Ob.Lo.ad K (.m "Envelope" "put")) fd ["self", "amount"] (Ob.spO K 2 F_Envelope_put) :=
  Ob.def_ok F sc_Envelope_put rfl rfl fun cdv A outer s H E hr tk =>
    (Ob.s_cons (Ob.s_drop (Ob.x_fn (k_check_amount T) hr tk (Ob.a_p (a_cons (x_var 1) a_nil))))
    (Ob.s_cons (Ob.s_set 2 sc_Envelope_put.nd (Ob.x_callB (cd_min rfl) rfl T.n_min (by decide +kernel) (Ob.a_cons (Ob.x_p (x_var 1)) (Ob.a_cons (Ob.x_bin od_sub (Ob.x_fld ["Envelope"] T.a_Env_limit (Ob.x_var 0)) (Ob.x_fld ["Envelope"] T.a_Env_held (Ob.x_var 0))) Ob.a_nil))))
    (Ob.s_cons (Ob.s_fldAug ["Envelope"] T.a_Env_held (Ob.x_var 0) (Ob.x_p (x_var 2)) in_add)
    (Ob.s_one (Ob.s_ret (Ob.x_p (x_bin od_sub (x_var 1) (x_var 2))))))))
theorem k_Envelope_put (T : Tx K mg base) : Ob.Cal PW w K mg base 3 (Ob.Lo.ad K (.m "Envelope" "put")) (Ob.spO K 2 F_Envelope_put) := by
  obtain ⟨fd, F⟩ := T.d_Envelope_put
  exact Ob.cal_of (fn_Envelope_put T F) (FunD.bindsN (ps := ["self", "amount"]) F (fun _ _ _ _ _ _ us hl => match us, hl with | [_, _], _ => rfl))
theorem fn_Envelope_take (T : Tx K mg base) {fd : FuncData} (F : FunD K "take" "Envelope.take" (defArgs s_Envelope_take) (defBody s_Envelope_take) (defScope s_Envelope_take) [] [] (Ob.Lo.ad K (.m "Envelope" "take")) fd) : FnOk PW w K mg base (L2N.CX PW w) 3 (Ob.Lo.ad K (.m "Envelope" "take")) fd ["self", "amount"] (Ob.spO K 2 F_Envelope_take) :=
  Ob.def_ok F sc_Envelope_take rfl rfl fun cdv A outer s H E hr tk =>
    (Ob.s_cons (Ob.s_drop (Ob.x_fn (k_check_amount T) hr tk (Ob.a_p (a_cons (x_var 1) a_nil))))
    (Ob.s_cons (Ob.s_if (Ob.t_cmp od_gt (Ob.x_p (x_var 1)) (Ob.x_meth0 (j := 1) (Ob.mets_cons (Ob.met_of T.l_Envelope T.m_Envelope_free T.y_Envelope_free (k_Envelope_free T)) Ob.mets_nil) hr tk (Ob.x_var 0)) (nomark _)) (Ob.s_one (Ob.s_raise T.e_NotEnough rfl tk)) Ob.s_nil)
    (Ob.s_one (Ob.s_fldAug ["Envelope"] T.a_Env_held (Ob.x_var 0) (Ob.x_p (x_var 1)) in_sub))))
theorem k_Envelope_take (T : Tx K mg base) : Ob.Cal PW w K mg base 3 (Ob.Lo.ad K (.m "Envelope" "take")) (Ob.spO K 2 F_Envelope_take) := by
  obtain ⟨fd, F⟩ := T.d_Envelope_take
  exact Ob.cal_of (fn_Envelope_take T F) (FunD.bindsN (ps := ["self", "amount"]) F (fun _ _ _ _ _ _ us hl => match us, hl with | [_, _], _ => rfl))
theorem fn_Plan_total (T : Tx K mg base) {fd : FuncData} (F : FunD K "total" "Plan.total" (defArgs s_Plan_total) (defBody s_Plan_total) (defScope s_Plan_total) [] [] (Ob.Lo.ad K (.p "Plan" "total")) fd) : FnOk PW w K mg base (L2N.CX PW w) 3 (Ob.Lo.ad K (.p "Plan" "total")) fd ["self"] (Ob.spO K 1 F_Plan_total) :=
  Ob.def_ok F sc_Plan_total rfl rfl fun cdv A outer s H E hr tk =>
    (Ob.s_one (Ob.s_ret (Ob.x_callB (cd_sum rfl) rfl T.n_sum (by decide +kernel) (Ob.a_cons (Ob.x_L (Ob.l_lc rfl sc_Plan_total.nd (Wp := Ob.W0) (We := Ob.W0) (Ob.i_list (Ob.x_fld ["Plan"] T.a_Plan_row (Ob.x_var 0))) (blkOk_by (own := [("one", 1)]) (N := N_Plan_total) (sc := defScope s_Plan_total) (by decide +kernel)) (fun _ _ _ _ _ => (Ob.g_name 1 sc_Plan_total.nd)) (fun _ _ _ _ _ => Ob.q_nil) (fun _ _ _ _ _ => (Ob.x_prop (j := 1) (Ob.prps_cons (Ob.prp_of T.l_Envelope T.p_Envelope_level T.y_Envelope_level (k_Envelope_level T)) Ob.prps_nil) hr (Ob.x_var 1))))) Ob.a_nil))))
theorem k_Plan_total (T : Tx K mg base) : Ob.Cal PW w K mg base 3 (Ob.Lo.ad K (.p "Plan" "total")) (Ob.spO K 1 F_Plan_total) := by
  obtain ⟨fd, F⟩ := T.d_Plan_total
  exact Ob.cal_of (fn_Plan_total T F) (FunD.bindsN (ps := ["self"]) F (fun _ _ _ _ _ _ us hl => match us, hl with | [_], _ => rfl))
theorem fn_Plan_move (T : Tx K mg base) {fd : FuncData} (F : FunD K "move" "Plan.move" (defArgs s_Plan_move) (defBody s_Plan_move) (defScope s_Plan_move) [] [] (Ob.Lo.ad K (.m "Plan" "move")) fd) : FnOk PW w K mg base (L2N.CX PW w) 4 (Ob.Lo.ad K (.m "Plan" "move")) fd ["self", "name", "place"] (Ob.spO K 3 F_Plan_move) :=
  Ob.def_ok F sc_Plan_move rfl rfl fun cdv A outer s H E hr tk =>
    (Ob.s_cons (Ob.s_set 3 sc_Plan_move.nd (Ob.x_meth (j := 3) (Ob.mets_cons (Ob.met_of T.l_Plan T.m_Plan_envelope T.y_Plan_envelope (k_Plan_envelope T)) Ob.mets_nil) hr tk (Ob.x_var 0) (Ob.a_p (a_cons (x_var 1) a_nil))))
    (Ob.s_cons (Ob.s_if (Ob.t_not (Ob.t_val (Ob.x_pfn (k_is_integer T) hr (Ob.a_cons (Ob.x_p (x_var 2)) (Ob.a_cons (Ob.x_p x_int) (Ob.a_cons (Ob.x_bin od_sub (Ob.x_lenD rfl T.n_len (Ob.x_fld ["Plan"] T.a_Plan_row (Ob.x_var 0))) (Ob.x_p x_int)) Ob.a_nil)))))) (Ob.s_one (Ob.s_raise T.e_InvalidPlace rfl tk)) Ob.s_nil)
    (Ob.s_cons (Ob.s_setLc 4 rfl sc_Plan_move.nd (sw_true rfl rfl rfl (by decide +kernel)) (Wp := Ob.W0) (We := Ob.W0) (Ob.i_list (Ob.x_fld ["Plan"] T.a_Plan_row (Ob.x_var 0))) (blkOk_by (own := [("other", 5)]) (N := N_Plan_move) (sc := defScope s_Plan_move) (by decide +kernel)) (fun _ _ _ _ _ => (Ob.g_name 5 sc_Plan_move.nd)) (fun _ _ _ _ _ => (Ob.q_one (Ob.t_cmp (od_ne hr.units) (Ob.x_prop (j := 1) (Ob.prps_cons (Ob.prp_of T.l_Envelope T.p_Envelope_name T.y_Envelope_name (k_Envelope_name T)) Ob.prps_nil) hr (Ob.x_var 5)) (Ob.x_p (x_var 1)) (nomark _)))) (fun _ _ _ _ _ => (Ob.x_var 5))) (Ob.s_frz 4 (Ob.s_one (Ob.s_fld ["Plan"] T.a_Plan_row (Ob.x_L (Ob.l_catD (Ob.x_L (Ob.l_catD (Ob.x_L (Ob.l_slD (Ob.x_var 4) Ob.o_none (Ob.o_some (Ob.x_p (x_var 2))))) (Ob.x_L (Ob.l_lst (Ob.a_cons (Ob.x_var 3) Ob.a_nil))))) (Ob.x_L (Ob.l_slD (Ob.x_var 4) (Ob.o_some (Ob.x_p (x_var 2))) Ob.o_none)))) (Ob.x_var 0)))))))
theorem k_Plan_move (T : Tx K mg base) : Ob.Cal PW w K mg base 4 (Ob.Lo.ad K (.m "Plan" "move")) (Ob.spO K 3 F_Plan_move) := by
  obtain ⟨fd, F⟩ := T.d_Plan_move
  exact Ob.cal_of (fn_Plan_move T F) (FunD.bindsN (ps := ["self", "name", "place"]) F (fun _ _ _ _ _ _ us hl => match us, hl with | [_, _, _], _ => rfl))
theorem k_Plan_pour (T : Tx K mg base) (m : Nat) : Ob.Cal PW w K mg base 4 (Ob.Lo.ad K (.m "Plan" "pour")) (Ob.spO K (m + 1) F_Plan_pour) := by
  obtain ⟨fd, F⟩ := T.d_Plan_pour
  exact Ob.star_cal m F sc_Plan_pour rfl (fun _ _ _ _ _ _ _ => rfl) (fun _ _ _ _ _ _ _ _ _ => rfl) fun cdv A outer s H E hr tk =>
    (Ob.s_cons (Ob.s_for Ob.fin_passes rfl (Ob.i_p (i_tup (x_var 1))) (Ob.g_name 2 sc_Plan_pour.nd) (Ob.s_one (Ob.s_drop (Ob.x_fn (k_check_amount T) hr tk (Ob.a_p (a_cons (x_var 2) a_nil))))))
    (Ob.s_cons (Ob.s_set 3 sc_Plan_pour.nd (Ob.x_fld ["Plan"] T.a_Plan_gone (Ob.x_var 0)))
    (Ob.s_cons (Ob.s_for Ob.fin_passes rfl (Ob.i_p (i_tup (x_var 1))) (Ob.g_name 2 sc_Plan_pour.nd) (Ob.s_cons (Ob.s_for Ob.fin_passes rfl (Ob.i_list (Ob.x_fld ["Plan"] T.a_Plan_row (Ob.x_var 0))) (Ob.g_name 4 sc_Plan_pour.nd) (Ob.s_one (Ob.s_set 2 sc_Plan_pour.nd (Ob.x_meth (j := 3) (Ob.mets_cons (Ob.met_of T.l_Envelope T.m_Envelope_put T.y_Envelope_put (k_Envelope_put T)) Ob.mets_nil) hr tk (Ob.x_var 4) (Ob.a_p (a_cons (x_var 2) a_nil))))))
    (Ob.s_one (Ob.s_fldAug ["Plan"] T.a_Plan_gone (Ob.x_var 0) (Ob.x_p (x_var 2)) in_add))))
    (Ob.s_one (Ob.s_ret (Ob.x_bin od_sub (Ob.x_fld ["Plan"] T.a_Plan_gone (Ob.x_var 0)) (Ob.x_p (x_var 3))))))))
theorem fn_Envelope_read (T : Tx K mg base) {fd : FuncData} (F : FunD K "read" "Envelope.read" (defArgs s_Envelope_read) (defBody s_Envelope_read) (defScope s_Envelope_read) [] [] (Ob.Lo.ad K (.k "Envelope" "read")) fd) : FnOk PW w K mg base (L2N.CX PW w) 4 (Ob.Lo.ad K (.k "Envelope" "read")) fd ["cls", "text"] (Ob.spO K 2 F_Envelope_read) :=
  Ob.def_ok F sc_Envelope_read rfl rfl fun cdv A outer s H E hr tk =>
    (Ob.s_cons (Ob.s_if (Ob.t_p (PW.pt (w_or (t_not (t_val (x_isI (T := "str") (by decide +kernel) rfl T.n_isinstance rfl T.n_str (x_var 1)))) (w_or (t_cmp (od_ne hr.units) (x_count (x_var 1) x_str) x_int (nomark _)) (pw_or1 (t_cmp od_gt (x_count (x_var 1) x_str) x_int (nomark _))))))) (Ob.s_one (Ob.s_raise T.e_InvalidText rfl tk)) Ob.s_nil)
    (Ob.s_cons (Ob.s_asg (Ob.x_p (x_L (l_split (x_var 1) x_str))) (Ob.g_lst rfl (Ob.gs_cons (Ob.g_name 3 sc_Envelope_read.nd) (Ob.gs_cons (Ob.g_name 4 sc_Envelope_read.nd) Ob.gs_nil))))
    (Ob.s_cons (Ob.s_set 2 sc_Envelope_read.nd (Ob.x_p (x_L (l_split (x_var 4) x_str))))
    (Ob.s_cons (Ob.s_if (Ob.t_p (PW.pt (w_or (t_not (t_val (Ob.x_stat (k_Envelope_is_name T) hr (a_cons (x_var 3) a_nil) (ln_cons ln_nil)))) (pw_or1 (t_not (t_val (x_callB (cd_all rfl) rfl T.n_all (by decide +kernel) (a_cons (x_L (l_lc rfl sc_Envelope_read.nd (i_list (x_var 2)) (blkOk_by (own := [("part", 7)]) (N := N_Envelope_read) (sc := defScope s_Envelope_read) (by decide +kernel)) (fun _ _ _ _ _ => (g_name 7 sc_Envelope_read.nd)) (fun _ _ _ _ _ => q_nil) (fun _ _ _ _ _ => (x_fn (k_is_number_text T) hr (a_cons (x_var 7) a_nil) (ln_cons ln_nil))))) a_nil)))))))) (Ob.s_one (Ob.s_raise T.e_InvalidText rfl tk)) Ob.s_nil)
    (Ob.s_cons (Ob.s_par 5 6 rfl sc_Envelope_read.nd (Ob.a_p (a_cons (x_callTy cd_intT rfl T.n_int (by decide +kernel) (a_cons (x_ix (x_var 2) (x_neg x_int) (fun _ _ => rfl)) a_nil)) (a_cons (x_if (t_cmp (od_eq hr.units) (x_callB cd_len rfl T.n_len PySem.boot_len (a_cons (x_var 2) a_nil)) x_int (nomark _)) (x_callTy cd_intT rfl T.n_int (by decide +kernel) (a_cons (x_ix (x_var 2) x_int (fun _ _ => rfl)) a_nil)) x_int) a_nil))))
    (Ob.s_cons (Ob.s_if (Ob.t_p (PW.pt (w_or (t_not (t_chain od_le od_le x_int (x_var 5) (Ob.x_cval T.v_Envelope_LARGEST))) (pw_or1 (t_cmp od_gt (x_var 6) (x_var 5) (nomark _)))))) (Ob.s_one (Ob.s_raise T.e_InvalidText rfl tk)) Ob.s_nil)
    (Ob.s_one (Ob.s_ret (Ob.x_makeV (i := 0) (j := 2) (Ob.mkT_cons (Ob.mkr_of T.g_Envelope T.k_Envelope T.y_Envelope___init__ (k_Envelope___init__ T)) Ob.mkT_nil) hr tk (Ob.a_p (a_cons (x_var 3) (a_cons (x_var 5) (a_cons (x_var 6) a_nil)))))))))))))
theorem k_Envelope_read (T : Tx K mg base) : Ob.Cal PW w K mg base 4 (Ob.Lo.ad K (.k "Envelope" "read")) (Ob.spO K 2 F_Envelope_read) := by
  obtain ⟨fd, F⟩ := T.d_Envelope_read
  exact Ob.cal_of (fn_Envelope_read T F) (FunD.bindsN (ps := ["cls", "text"]) F (fun _ _ _ _ _ _ us hl => match us, hl with | [_, _], _ => rfl))
theorem fn__law_plan (T : Tx K mg base) {fd : FuncData} (F : FunD K "_law_plan" "_law_plan" (defArgs s__law_plan) (defBody s__law_plan) (defScope s__law_plan) [] [] (Ob.Lo.ad K (.g "_law_plan")) fd) : FnOk PW w K mg base (L2N.CX PW w) 5 (Ob.Lo.ad K (.g "_law_plan")) fd ["some"] (Ob.spO K 1 F__law_plan) :=
  Ob.def_ok F sc__law_plan rfl rfl fun cdv A outer s H E hr tk =>
    (Ob.s_cons (Ob.s_if (Ob.t_cmp (od_eq hr.units) (Ob.x_lenD rfl T.n_len (Ob.x_var 0)) (Ob.x_p x_int) (nomark _)) (Ob.s_one (Ob.s_ret (Ob.x_make (j := 3) (Ob.mkr_of T.g_Plan T.k_Plan T.y_Plan___init__ (k_Plan___init__ T 1)) hr tk (Ob.a_cons (Ob.x_ixL (Ob.x_var 0) (Ob.x_p x_int) (fun _ _ => rfl)) Ob.a_nil)))) Ob.s_nil)
    (Ob.s_cons (Ob.s_if (Ob.t_cmp (od_eq hr.units) (Ob.x_lenD rfl T.n_len (Ob.x_var 0)) (Ob.x_p x_int) (nomark _)) (Ob.s_one (Ob.s_ret (Ob.x_make (j := 3) (Ob.mkr_of T.g_Plan T.k_Plan T.y_Plan___init__ (k_Plan___init__ T 2)) hr tk (Ob.a_cons (Ob.x_ixL (Ob.x_var 0) (Ob.x_p x_int) (fun _ _ => rfl)) (Ob.a_cons (Ob.x_ixL (Ob.x_var 0) (Ob.x_p x_int) (fun _ _ => rfl)) Ob.a_nil))))) Ob.s_nil)
    (Ob.s_cons (Ob.s_if (Ob.t_cmp (od_eq hr.units) (Ob.x_lenD rfl T.n_len (Ob.x_var 0)) (Ob.x_p x_int) (nomark _)) (Ob.s_one (Ob.s_ret (Ob.x_make (j := 3) (Ob.mkr_of T.g_Plan T.k_Plan T.y_Plan___init__ (k_Plan___init__ T 3)) hr tk (Ob.a_cons (Ob.x_ixL (Ob.x_var 0) (Ob.x_p x_int) (fun _ _ => rfl)) (Ob.a_cons (Ob.x_ixL (Ob.x_var 0) (Ob.x_p x_int) (fun _ _ => rfl)) (Ob.a_cons (Ob.x_ixL (Ob.x_var 0) (Ob.x_p x_int) (fun _ _ => rfl)) Ob.a_nil)))))) Ob.s_nil)
    (Ob.s_cons (Ob.s_if (Ob.t_cmp (od_eq hr.units) (Ob.x_lenD rfl T.n_len (Ob.x_var 0)) (Ob.x_p x_int) (nomark _)) (Ob.s_one (Ob.s_ret (Ob.x_make (j := 3) (Ob.mkr_of T.g_Plan T.k_Plan T.y_Plan___init__ (k_Plan___init__ T 4)) hr tk (Ob.a_cons (Ob.x_ixL (Ob.x_var 0) (Ob.x_p x_int) (fun _ _ => rfl)) (Ob.a_cons (Ob.x_ixL (Ob.x_var 0) (Ob.x_p x_int) (fun _ _ => rfl)) (Ob.a_cons (Ob.x_ixL (Ob.x_var 0) (Ob.x_p x_int) (fun _ _ => rfl)) (Ob.a_cons (Ob.x_ixL (Ob.x_var 0) (Ob.x_p x_int) (fun _ _ => rfl)) Ob.a_nil))))))) Ob.s_nil)
    (Ob.s_cons (Ob.s_if (Ob.t_cmp (od_eq hr.units) (Ob.x_lenD rfl T.n_len (Ob.x_var 0)) (Ob.x_p x_int) (nomark _)) (Ob.s_one (Ob.s_ret (Ob.x_make (j := 3) (Ob.mkr_of T.g_Plan T.k_Plan T.y_Plan___init__ (k_Plan___init__ T 5)) hr tk (Ob.a_cons (Ob.x_ixL (Ob.x_var 0) (Ob.x_p x_int) (fun _ _ => rfl)) (Ob.a_cons (Ob.x_ixL (Ob.x_var 0) (Ob.x_p x_int) (fun _ _ => rfl)) (Ob.a_cons (Ob.x_ixL (Ob.x_var 0) (Ob.x_p x_int) (fun _ _ => rfl)) (Ob.a_cons (Ob.x_ixL (Ob.x_var 0) (Ob.x_p x_int) (fun _ _ => rfl)) (Ob.a_cons (Ob.x_ixL (Ob.x_var 0) (Ob.x_p x_int) (fun _ _ => rfl)) Ob.a_nil)))))))) Ob.s_nil)
    (Ob.s_one (Ob.s_ret (Ob.x_make (j := 3) (Ob.mkr_of T.g_Plan T.k_Plan T.y_Plan___init__ (k_Plan___init__ T 6)) hr tk (Ob.a_cons (Ob.x_ixL (Ob.x_var 0) (Ob.x_p x_int) (fun _ _ => rfl)) (Ob.a_cons (Ob.x_ixL (Ob.x_var 0) (Ob.x_p x_int) (fun _ _ => rfl)) (Ob.a_cons (Ob.x_ixL (Ob.x_var 0) (Ob.x_p x_int) (fun _ _ => rfl)) (Ob.a_cons (Ob.x_ixL (Ob.x_var 0) (Ob.x_p x_int) (fun _ _ => rfl)) (Ob.a_cons (Ob.x_ixL (Ob.x_var 0) (Ob.x_p x_int) (fun _ _ => rfl)) (Ob.a_cons (Ob.x_ixL (Ob.x_var 0) (Ob.x_p x_int) (fun _ _ => rfl)) Ob.a_nil))))))))))))))
theorem k__law_plan_c (T : Tx K mg base) : Ob.Cal PW w K mg base 5 (Ob.Lo.ad K (.g "_law_plan")) (Ob.spO K 1 F__law_plan) := by
  obtain ⟨fd, F⟩ := T.d__law_plan
  exact Ob.cal_of (fn__law_plan T F) (FunD.bindsN (ps := ["some"]) F (fun _ _ _ _ _ _ us hl => match us, hl with | [_], _ => rfl))
theorem k__law_plan (T : Tx K mg base) : Ob.Kn PW w K mg base 5 "_law_plan" 1 F__law_plan := by
  obtain ⟨fd, F⟩ := T.d__law_plan
  exact ⟨_, k__law_plan_c T, T.g__law_plan, F.kp⟩
theorem fn_Plan_read (T : Tx K mg base) {fd : FuncData} (F : FunD K "read" "Plan.read" (defArgs s_Plan_read) (defBody s_Plan_read) (defScope s_Plan_read) [] [] (Ob.Lo.ad K (.k "Plan" "read")) fd) : FnOk PW w K mg base (L2N.CX PW w) 5 (Ob.Lo.ad K (.k "Plan" "read")) fd ["cls", "text"] (Ob.spO K 2 F_Plan_read) :=
  Ob.def_ok F sc_Plan_read rfl rfl fun cdv A outer s H E hr tk =>
    (Ob.s_cons (Ob.s_if (Ob.t_p (t_not (t_val (x_isI (T := "str") (by decide +kernel) rfl T.n_isinstance rfl T.n_str (x_var 1))))) (Ob.s_one (Ob.s_raise T.e_InvalidText rfl tk)) Ob.s_nil)
    (Ob.s_cons (Ob.s_setLc 2 rfl sc_Plan_read.nd (sw_true rfl rfl rfl (by decide +kernel)) (Wp := Ob.W0) (We := Ob.W0) (Ob.i_p (i_list (x_L (l_split (x_var 1) x_str)))) (blkOk_by (own := [("part", 4)]) (N := N_Plan_read) (sc := defScope s_Plan_read) (by decide +kernel)) (fun _ _ _ _ _ => (Ob.g_name 4 sc_Plan_read.nd)) (fun _ _ _ _ _ => Ob.q_nil) (fun _ _ _ _ _ => (Ob.x_cm (j := 4) (Ob.cmt_of T.cm_Envelope_read T.g_Envelope (k_Envelope_read T)) hr Ob.takesN (Ob.a_p (a_cons (x_var 4) a_nil))))) (Ob.s_frz 2 (Ob.s_cons (Ob.s_setLc 3 rfl sc_Plan_read.nd (sw_true rfl rfl rfl (by decide +kernel)) (Wp := Ob.W0) (We := Ob.W0) (Ob.i_list (Ob.x_var 2)) (blkOk_by (own := [("one", 5)]) (N := N_Plan_read) (sc := defScope s_Plan_read) (by decide +kernel)) (fun _ _ _ _ _ => (Ob.g_name 5 sc_Plan_read.nd)) (fun _ _ _ _ _ => Ob.q_nil) (fun _ _ _ _ _ => (Ob.x_prop (j := 1) (Ob.prps_cons (Ob.prp_of T.l_Envelope T.p_Envelope_name T.y_Envelope_name (k_Envelope_name T)) Ob.prps_nil) hr (Ob.x_var 5)))) (Ob.s_frz 3 (Ob.s_cons (Ob.s_if (PW.pt (Ob.w_or (Ob.t_cmp od_gt (Ob.x_lenD rfl T.n_len (Ob.x_var 2)) (Ob.x_p (Ob.x_cval T.v_Plan_MOST)) (nomark _)) (pw_or1 (Ob.t_cmp od_lt (Ob.x_lenSetS rfl T.n_len rfl T.n_set (Ob.x_p (x_var 3))) (Ob.x_p (x_callB cd_len rfl T.n_len PySem.boot_len (a_cons (x_var 3) a_nil))) (nomark _))))) (Ob.s_one (Ob.s_raise T.e_InvalidText rfl tk)) Ob.s_nil)
    (Ob.s_one (Ob.s_ret (Ob.x_makeVS (i := 0) (j := 3) (fun n => Ob.mkr_of T.g_Plan T.k_Plan T.y_Plan___init__ (k_Plan___init__ T n)) hr tk (Ob.x_var 2))))))))))
theorem k_Plan_read (T : Tx K mg base) : Ob.Cal PW w K mg base 5 (Ob.Lo.ad K (.k "Plan" "read")) (Ob.spO K 2 F_Plan_read) := by
  obtain ⟨fd, F⟩ := T.d_Plan_read
  exact Ob.cal_of (fn_Plan_read T F) (FunD.bindsN (ps := ["cls", "text"]) F (fun _ _ _ _ _ _ us hl => match us, hl with | [_, _], _ => rfl))
theorem fn__law_exchanged_alike (T : Tx K mg base) {fd : FuncData} (F : FunD K "_law_exchanged_alike" "_law_exchanged_alike" (defArgs s__law_exchanged_alike) (defBody s__law_exchanged_alike) (defScope s__law_exchanged_alike) [] [] (Ob.Lo.ad K (.g "_law_exchanged_alike")) fd) : FnOk PW w K mg base (L2N.CX PW w) 6 (Ob.Lo.ad K (.g "_law_exchanged_alike")) fd ["digits", "names", "rows"] (Ob.spO K 3 F__law_exchanged_alike) :=
  Ob.def_ok F sc__law_exchanged_alike rfl rfl fun cdv A outer s H E hr tk =>
    (Ob.s_cons (Ob.s_set 3 sc__law_exchanged_alike.nd (Ob.x_p (x_bin od_mod (x_ix (x_var 0) x_int (fun _ _ => rfl)) (x_bin od_sub (x_callB cd_len rfl T.n_len PySem.boot_len (a_cons (x_var 1) a_nil)) x_int))))
    (Ob.s_cons (Ob.s_set 4 sc__law_exchanged_alike.nd (Ob.x_fn (k__law_plan T) hr tk (Ob.a_cons (Ob.x_L (Ob.l_lc rfl sc__law_exchanged_alike.nd (Wp := Ob.W0) (We := Ob.W0) (Ob.i_p (i_list (x_var 2))) (blkOk_by (own := [("name", 7), ("cap", 9), ("level", 10)]) (N := N__law_exchanged_alike) (sc := defScope s__law_exchanged_alike) (by decide +kernel)) (fun _ _ _ _ _ => (Ob.g_tup rfl (Ob.gs_cons (Ob.g_name 7 sc__law_exchanged_alike.nd) (Ob.gs_cons (Ob.g_name 9 sc__law_exchanged_alike.nd) (Ob.gs_cons (Ob.g_name 10 sc__law_exchanged_alike.nd) Ob.gs_nil))))) (fun _ _ _ _ _ => Ob.q_nil) (fun _ _ _ _ _ => (Ob.x_make (j := 2) (Ob.mkr_of T.g_Envelope T.k_Envelope T.y_Envelope___init__ (k_Envelope___init__ T)) hr Ob.takesN (Ob.a_p (a_cons (x_var 7) (a_cons (x_var 9) (a_cons (x_var 10) a_nil)))))))) Ob.a_nil)))
    (Ob.s_cons (Ob.s_set 5 sc__law_exchanged_alike.nd (Ob.x_fn (k__law_plan T) hr tk (Ob.a_cons (Ob.x_L (Ob.l_lc rfl sc__law_exchanged_alike.nd (Wp := Ob.W0) (We := Ob.W0) (Ob.i_p (i_list (x_var 2))) (blkOk_by (own := [("name", 7), ("cap", 9), ("level", 10)]) (N := N__law_exchanged_alike) (sc := defScope s__law_exchanged_alike) (by decide +kernel)) (fun _ _ _ _ _ => (Ob.g_tup rfl (Ob.gs_cons (Ob.g_name 7 sc__law_exchanged_alike.nd) (Ob.gs_cons (Ob.g_name 9 sc__law_exchanged_alike.nd) (Ob.gs_cons (Ob.g_name 10 sc__law_exchanged_alike.nd) Ob.gs_nil))))) (fun _ _ _ _ _ => Ob.q_nil) (fun _ _ _ _ _ => (Ob.x_make (j := 2) (Ob.mkr_of T.g_Envelope T.k_Envelope T.y_Envelope___init__ (k_Envelope___init__ T)) hr Ob.takesN (Ob.a_p (a_cons (x_var 7) (a_cons (x_var 9) (a_cons (x_var 10) a_nil)))))))) Ob.a_nil)))
    (Ob.s_cons (Ob.s_drop (Ob.x_meth (j := 4) (Ob.mets_cons (Ob.met_of T.l_Plan T.m_Plan_move T.y_Plan_move (k_Plan_move T)) Ob.mets_nil) hr tk (Ob.x_var 5) (Ob.a_p (a_cons (x_ix (x_var 1) (x_var 3) (fun _ _ => rfl)) (a_cons (x_bin od_add (x_var 3) x_int) a_nil)))))
    (Ob.s_cons (Ob.s_for Ob.fin_passes rfl (Ob.i_p (i_range1 rfl T.n_range (a_cons x_int a_nil))) (Ob.g_name 6 sc__law_exchanged_alike.nd) (Ob.s_cons (Ob.s_set 7 sc__law_exchanged_alike.nd (Ob.x_p (x_ix (x_var 1) (x_bin od_mod (x_ix (x_var 0) (x_bin od_add x_int (x_var 6)) (fun _ _ => rfl)) (x_callB cd_len rfl T.n_len PySem.boot_len (a_cons (x_var 1) a_nil))) (fun _ _ => rfl))))
    (Ob.s_cons (Ob.s_set 8 sc__law_exchanged_alike.nd (Ob.x_p (x_bin od_mod (x_ix (x_var 0) (x_bin od_add x_int (x_var 6)) (fun _ _ => rfl)) x_int)))
    (Ob.s_cons (Ob.s_if (Ob.t_p (t_cmp (od_eq hr.units) (x_bin od_mod (x_bin od_div (x_ix (x_var 0) (x_bin od_add x_int (x_var 6)) (fun _ _ => rfl)) x_int) x_int) x_int (nomark _))) (Ob.s_one (Ob.s_if (Ob.t_cmp (od_ne hr.units) (Ob.x_meth (j := 4) (Ob.mets_cons (Ob.met_of T.l_Plan T.m_Plan_pour T.y_Plan_pour (k_Plan_pour T 1)) Ob.mets_nil) hr tk (Ob.x_var 4) (Ob.a_p (a_cons (x_var 8) a_nil))) (Ob.x_meth (j := 4) (Ob.mets_cons (Ob.met_of T.l_Plan T.m_Plan_pour T.y_Plan_pour (k_Plan_pour T 1)) Ob.mets_nil) hr tk (Ob.x_var 5) (Ob.a_p (a_cons (x_var 8) a_nil))) (nomark _)) (Ob.s_one (Ob.s_ret (Ob.x_p x_bl))) Ob.s_nil)) (Ob.s_cons (Ob.s_set 8 sc__law_exchanged_alike.nd (Ob.x_bin od_mod (Ob.x_p (x_var 8)) (Ob.x_bin od_add (Ob.x_p x_int) (Ob.x_callB (cd_min rfl) rfl T.n_min (by decide +kernel) (Ob.a_cons (Ob.x_prop (j := 1) (Ob.prps_cons (Ob.prp_of T.l_Envelope T.p_Envelope_level T.y_Envelope_level (k_Envelope_level T)) Ob.prps_nil) hr (Ob.x_meth (j := 3) (Ob.mets_cons (Ob.met_of T.l_Plan T.m_Plan_envelope T.y_Plan_envelope (k_Plan_envelope T)) Ob.mets_nil) hr tk (Ob.x_var 4) (Ob.a_p (a_cons (x_var 7) a_nil)))) (Ob.a_cons (Ob.x_prop (j := 1) (Ob.prps_cons (Ob.prp_of T.l_Envelope T.p_Envelope_level T.y_Envelope_level (k_Envelope_level T)) Ob.prps_nil) hr (Ob.x_meth (j := 3) (Ob.mets_cons (Ob.met_of T.l_Plan T.m_Plan_envelope T.y_Plan_envelope (k_Plan_envelope T)) Ob.mets_nil) hr tk (Ob.x_var 5) (Ob.a_p (a_cons (x_var 7) a_nil)))) Ob.a_nil))))))
    (Ob.s_cons (Ob.s_drop (Ob.x_meth (j := 3) (Ob.mets_cons (Ob.met_of T.l_Envelope T.m_Envelope_take T.y_Envelope_take (k_Envelope_take T)) Ob.mets_nil) hr tk (Ob.x_meth (j := 3) (Ob.mets_cons (Ob.met_of T.l_Plan T.m_Plan_envelope T.y_Plan_envelope (k_Plan_envelope T)) Ob.mets_nil) hr tk (Ob.x_var 4) (Ob.a_p (a_cons (x_var 7) a_nil))) (Ob.a_p (a_cons (x_var 8) a_nil))))
    (Ob.s_one (Ob.s_drop (Ob.x_meth (j := 3) (Ob.mets_cons (Ob.met_of T.l_Envelope T.m_Envelope_take T.y_Envelope_take (k_Envelope_take T)) Ob.mets_nil) hr tk (Ob.x_meth (j := 3) (Ob.mets_cons (Ob.met_of T.l_Plan T.m_Plan_envelope T.y_Plan_envelope (k_Plan_envelope T)) Ob.mets_nil) hr tk (Ob.x_var 5) (Ob.a_p (a_cons (x_var 7) a_nil))) (Ob.a_p (a_cons (x_var 8) a_nil))))))))
    (Ob.s_cons (Ob.s_for Ob.fin_passes rfl (Ob.i_p (i_list (x_L (l_cat (x_L (l_sl (x_var 1) o_none (o_some (x_var 3)))) (x_L (l_sl (x_var 1) (o_some (x_bin od_add (x_var 3) x_int)) o_none)))))) (Ob.g_name 7 sc__law_exchanged_alike.nd) (Ob.s_one (Ob.s_if (Ob.t_cmp (od_ne hr.units) (Ob.x_prop (j := 1) (Ob.prps_cons (Ob.prp_of T.l_Envelope T.p_Envelope_level T.y_Envelope_level (k_Envelope_level T)) Ob.prps_nil) hr (Ob.x_meth (j := 3) (Ob.mets_cons (Ob.met_of T.l_Plan T.m_Plan_envelope T.y_Plan_envelope (k_Plan_envelope T)) Ob.mets_nil) hr tk (Ob.x_var 4) (Ob.a_p (a_cons (x_var 7) a_nil)))) (Ob.x_prop (j := 1) (Ob.prps_cons (Ob.prp_of T.l_Envelope T.p_Envelope_level T.y_Envelope_level (k_Envelope_level T)) Ob.prps_nil) hr (Ob.x_meth (j := 3) (Ob.mets_cons (Ob.met_of T.l_Plan T.m_Plan_envelope T.y_Plan_envelope (k_Plan_envelope T)) Ob.mets_nil) hr tk (Ob.x_var 5) (Ob.a_p (a_cons (x_var 7) a_nil)))) (nomark _)) (Ob.s_one (Ob.s_ret (Ob.x_p x_bl))) Ob.s_nil)))
    (Ob.s_one (Ob.s_if (PW.pt (Ob.w_or (Ob.t_cmp (od_ne hr.units) (Ob.x_prop (j := 3) (Ob.prps_cons (Ob.prp_of T.l_Plan T.p_Plan_total T.y_Plan_total (k_Plan_total T)) Ob.prps_nil) hr (Ob.x_var 4)) (Ob.x_prop (j := 3) (Ob.prps_cons (Ob.prp_of T.l_Plan T.p_Plan_total T.y_Plan_total (k_Plan_total T)) Ob.prps_nil) hr (Ob.x_var 5)) (nomark _)) (pw_or1 (Ob.t_cmp (od_ne hr.units) (Ob.x_prop (j := 1) (Ob.prps_cons (Ob.prp_of T.l_Plan T.p_Plan_lost T.y_Plan_lost (k_Plan_lost T)) Ob.prps_nil) hr (Ob.x_var 4)) (Ob.x_prop (j := 1) (Ob.prps_cons (Ob.prp_of T.l_Plan T.p_Plan_lost T.y_Plan_lost (k_Plan_lost T)) Ob.prps_nil) hr (Ob.x_var 5)) (nomark _))))) (Ob.s_one (Ob.s_ret (Ob.x_p x_bl))) Ob.s_nil)))))))
    (Ob.s_one (Ob.s_ret (Ob.x_p x_bl))))))))
theorem k__law_exchanged_alike_c (T : Tx K mg base) : Ob.Cal PW w K mg base 6 (Ob.Lo.ad K (.g "_law_exchanged_alike")) (Ob.spO K 3 F__law_exchanged_alike) := by
  obtain ⟨fd, F⟩ := T.d__law_exchanged_alike
  exact Ob.cal_of (fn__law_exchanged_alike T F) (FunD.bindsN (ps := ["digits", "names", "rows"]) F (fun _ _ _ _ _ _ us hl => match us, hl with | [_, _, _], _ => rfl))
theorem k__law_exchanged_alike (T : Tx K mg base) : Ob.Kn PW w K mg base 6 "_law_exchanged_alike" 3 F__law_exchanged_alike := by
  obtain ⟨fd, F⟩ := T.d__law_exchanged_alike
  exact ⟨_, k__law_exchanged_alike_c T, T.g__law_exchanged_alike, F.kp⟩
end
/-! ### the head -/
theorem tx {K : PySem.W.Frag} {h : Heap} {mg : Str → Option Value} (X : K.In h) (G : h.Ns mainGlobals mg) (c : Ob.SaysO file ck df K) {base : Heap} (TB : ∀ x ∈ (["law"] : List Str), LamX.TabB base mg (Ob.codeA K x) (Ob.tabA K x)) : Tx K mg base where
  n_ValueError := He.free_ok X G ((c.fact 0 rfl))
  n_all := He.free_ok X G ((c.fact 1 rfl))
  n_bool := He.free_ok X G ((c.fact 2 rfl))
  n_dict := He.free_ok X G ((c.fact 3 rfl))
  n_enumerate := He.free_ok X G ((c.fact 4 rfl))
  n_int := He.free_ok X G ((c.fact 5 rfl))
  n_isinstance := He.free_ok X G ((c.fact 6 rfl))
  n_len := He.free_ok X G ((c.fact 7 rfl))
  n_list := He.free_ok X G ((c.fact 8 rfl))
  n_min := He.free_ok X G ((c.fact 9 rfl))
  n_range := He.free_ok X G ((c.fact 10 rfl))
  n_set := He.free_ok X G ((c.fact 11 rfl))
  n_str := He.free_ok X G ((c.fact 12 rfl))
  n_sum := He.free_ok X G ((c.fact 13 rfl))
  n_tuple := He.free_ok X G ((c.fact 14 rfl))
  n_zip := He.free_ok X G ((c.fact 15 rfl))
  g__law_told := He.glo_ok X G (c.fact 16 rfl)
  g__law_error := He.glo_ok X G (c.fact 17 rfl)
  g__law_cell := He.glo_ok X G (c.fact 18 rfl)
  g__law_names := He.glo_ok X G (c.fact 19 rfl)
  g_is_integer := He.glo_ok X G (c.fact 20 rfl)
  g_is_number_text := He.glo_ok X G (c.fact 21 rfl)
  g__law_digits := He.glo_ok X G (c.fact 22 rfl)
  g_check_amount := He.glo_ok X G (c.fact 23 rfl)
  g__law_plan := He.glo_ok X G (c.fact 24 rfl)
  g__law_exchanged_alike := He.glo_ok X G (c.fact 25 rfl)
  g_law := He.glo_ok X G (c.fact 26 rfl)
  g_Envelope := He.glo_ok X G (c.fact 27 rfl)
  g_FillError := He.glo_ok X G (c.fact 28 rfl)
  g_InvalidAmount := He.glo_ok X G (c.fact 29 rfl)
  g_InvalidCap := He.glo_ok X G (c.fact 30 rfl)
  g_InvalidDeed := He.glo_ok X G (c.fact 31 rfl)
  g_InvalidEnvelopes := He.glo_ok X G (c.fact 32 rfl)
  g_InvalidFloor := He.glo_ok X G (c.fact 33 rfl)
  g_InvalidLevel := He.glo_ok X G (c.fact 34 rfl)
  g_InvalidName := He.glo_ok X G (c.fact 35 rfl)
  g_InvalidPlace := He.glo_ok X G (c.fact 36 rfl)
  g_InvalidText := He.glo_ok X G (c.fact 37 rfl)
  g_NotEnough := He.glo_ok X G (c.fact 38 rfl)
  g_Plan := He.glo_ok X G (c.fact 39 rfl)
  g_UnknownEnvelope := He.glo_ok X G (c.fact 40 rfl)
  c_FIGURES := He.str_ok X G (c.fact 41 rfl)
  c_LETTERS := He.str_ok X G (c.fact 42 rfl)
  l_Envelope := (c.fact 43 rfl)
  l_Plan := (c.fact 44 rfl)
  m_Envelope_free := (c.fact 45 rfl)
  m_Envelope_put := (c.fact 46 rfl)
  m_Envelope_take := (c.fact 47 rfl)
  m_Plan_envelope := (c.fact 48 rfl)
  m_Plan_move := (c.fact 49 rfl)
  m_Plan_pour := (c.fact 50 rfl)
  p_Envelope_level := (c.fact 51 rfl)
  p_Envelope_name := (c.fact 52 rfl)
  p_Plan_levels := (c.fact 53 rfl)
  p_Plan_lost := (c.fact 54 rfl)
  p_Plan_names := (c.fact 55 rfl)
  p_Plan_total := (c.fact 56 rfl)
  y_Envelope___init__ := (c.fact 57 rfl)
  y_Envelope_free := (c.fact 58 rfl)
  y_Envelope_level := (c.fact 59 rfl)
  y_Envelope_name := (c.fact 60 rfl)
  y_Envelope_put := (c.fact 61 rfl)
  y_Envelope_take := (c.fact 62 rfl)
  y_Plan___init__ := (c.fact 63 rfl)
  y_Plan_envelope := (c.fact 64 rfl)
  y_Plan_levels := (c.fact 65 rfl)
  y_Plan_lost := (c.fact 66 rfl)
  y_Plan_move := (c.fact 67 rfl)
  y_Plan_names := (c.fact 68 rfl)
  y_Plan_pour := (c.fact 69 rfl)
  y_Plan_total := (c.fact 70 rfl)
  x_InvalidPlace := (c.fact 71 rfl)
  r_InvalidPlace := (c.fact 72 rfl)
  rt_InvalidPlace := (c.fact 73 rfl)
  x_UnknownEnvelope := (c.fact 74 rfl)
  r_UnknownEnvelope := (c.fact 75 rfl)
  rt_UnknownEnvelope := (c.fact 76 rfl)
  z_InvalidPlace_FillError := (c.fact 77 rfl)
  z_UnknownEnvelope_FillError := (c.fact 78 rfl)
  k_Envelope := (c.fact 79 rfl)
  k_Plan := (c.fact 80 rfl)
  e_InvalidAmount := Ob.err_of (X := h) (He.glo_ok X G (c.fact 29 rfl)) (c.fact 81 rfl)
  e_InvalidCap := Ob.err_of (X := h) (He.glo_ok X G (c.fact 30 rfl)) (c.fact 82 rfl)
  e_InvalidEnvelopes := Ob.err_of (X := h) (He.glo_ok X G (c.fact 32 rfl)) (c.fact 83 rfl)
  e_InvalidLevel := Ob.err_of (X := h) (He.glo_ok X G (c.fact 34 rfl)) (c.fact 84 rfl)
  e_InvalidName := Ob.err_of (X := h) (He.glo_ok X G (c.fact 35 rfl)) (c.fact 85 rfl)
  e_InvalidPlace := Ob.err_of (X := h) (He.glo_ok X G (c.fact 36 rfl)) (c.fact 86 rfl)
  e_InvalidText := Ob.err_of (X := h) (He.glo_ok X G (c.fact 37 rfl)) (c.fact 87 rfl)
  e_NotEnough := Ob.err_of (X := h) (He.glo_ok X G (c.fact 38 rfl)) (c.fact 88 rfl)
  e_UnknownEnvelope := Ob.err_of (X := h) (He.glo_ok X G (c.fact 40 rfl)) (c.fact 89 rfl)
  v_Envelope_LARGEST := Ob.cval_of (c.fact 90 rfl) (He.glo_ok X G (c.fact 27 rfl))
  v_Plan_MOST := Ob.cval_of (c.fact 91 rfl) (He.glo_ok X G (c.fact 39 rfl))
  t_Envelope_is_name := (c.fact 92 rfl)
  cm_Envelope_read := (c.fact 93 rfl)
  cm_Plan_read := (c.fact 94 rfl)
  a_Env_held := Ob.noa_of (Ob.all_cons ⟨c.fact 43 rfl, c.fact 95 rfl⟩ Ob.all_nil)
  a_Env_label := Ob.noa_of (Ob.all_cons ⟨c.fact 43 rfl, c.fact 96 rfl⟩ Ob.all_nil)
  a_Env_limit := Ob.noa_of (Ob.all_cons ⟨c.fact 43 rfl, c.fact 97 rfl⟩ Ob.all_nil)
  a_Plan_gone := Ob.noa_of (Ob.all_cons ⟨c.fact 44 rfl, c.fact 98 rfl⟩ Ob.all_nil)
  a_Plan_row := Ob.noa_of (Ob.all_cons ⟨c.fact 44 rfl, c.fact 99 rfl⟩ Ob.all_nil)
  i_Envelope := Ob.isC_of (He.glo_ok X G (c.fact 27 rfl)) (c.fact 101 rfl) (c.fact 100 rfl) (Ob.all_cons ⟨c.fact 43 rfl, c.fact 102 rfl⟩ (Ob.all_cons ⟨c.fact 44 rfl, c.fact 103 rfl⟩ Ob.all_nil))
  d__law_told := c.def_ 0 (d := dd__law_told) rfl rfl
  d__law_error := c.def_ 1 (d := dd__law_error) rfl rfl
  d__law_cell := c.def_ 2 (d := dd__law_cell) rfl rfl
  d__law_names := c.def_ 3 (d := dd__law_names) rfl rfl
  d_Envelope_name := c.def_ 4 (d := dd_Envelope_name) rfl rfl
  d_Envelope_is_name := c.def_ 5 (d := dd_Envelope_is_name) rfl rfl
  d_is_integer := c.def_ 6 (d := dd_is_integer) rfl rfl
  d_Envelope_level := c.def_ 7 (d := dd_Envelope_level) rfl rfl
  d_Envelope_free := c.def_ 8 (d := dd_Envelope_free) rfl rfl
  d_Plan_lost := c.def_ 9 (d := dd_Plan_lost) rfl rfl
  d_is_number_text := c.def_ 10 (d := dd_is_number_text) rfl rfl
  d__law_digits := c.def_ 11 (d := dd__law_digits) rfl rfl
  d_Envelope___init__ := c.def_ 12 (d := dd_Envelope___init__) rfl rfl
  d_check_amount := c.def_ 13 (d := dd_check_amount) rfl rfl
  d_Plan___init__ := c.def_ 14 (d := dd_Plan___init__) rfl rfl
  d_Plan_names := c.def_ 15 (d := dd_Plan_names) rfl rfl
  d_Plan_envelope := c.def_ 16 (d := dd_Plan_envelope) rfl rfl
  d_Plan_levels := c.def_ 17 (d := dd_Plan_levels) rfl rfl
  d_Envelope_put := c.def_ 18 (d := dd_Envelope_put) rfl rfl
  d_Envelope_take := c.def_ 19 (d := dd_Envelope_take) rfl rfl
  d_Plan_total := c.def_ 20 (d := dd_Plan_total) rfl rfl
  d_Plan_move := c.def_ 21 (d := dd_Plan_move) rfl rfl
  d_Plan_pour := c.def_ 22 (d := dd_Plan_pour) rfl rfl
  d_Envelope_read := c.def_ 23 (d := dd_Envelope_read) rfl rfl
  d__law_plan := c.def_ 24 (d := dd__law_plan) rfl rfl
  d_Plan_read := c.def_ 25 (d := dd_Plan_read) rfl rfl
  d__law_exchanged_alike := c.def_ 26 (d := dd__law_exchanged_alike) rfl rfl
  d_law := c.def_ 27 (d := dd_law) rfl rfl
  TB := TB
theorem facts {w : World} {K : PySem.W.Frag} {h : Heap} {mg : Str → Option Value} {f : Addr} (X : K.In h) (G : h.Ns mainGlobals mg) (hfa : mg ("law" : Str) = some (.ref f)) (c : Ob.SaysO file ck df K) :
    ∃ fd : FuncData, (∀ (s : Shared) (v : Value), BindsTo s fd ⟨[v], []⟩ [("script", v)]) ∧ ∀ base : Heap, K.In base → base.Ns mainGlobals mg → (∀ x ∈ (["law"] : List Str), LamX.TabB base mg (Ob.codeA K x) (Ob.tabA K x)) → FnOk PW w K mg base (L2N.CX PW w) 7 f fd ["script"] (Ob.spO K 1 F_law) := by
  obtain ⟨fd, F0⟩ := c.def_ 27 (d := dd_law) rfl rfl
  have F : FunD K "law" "law" (defArgs s_law) (defBody s_law) (defScope s_law) [] [] (He.ga K "law") fd := F0
  have e := hfa.symm.trans (He.glo_ok X G (c.fact 26 rfl))
  cases e
  have b := FunD.bindsA (ps := ["script"]) F fun _ _ _ _ _ _ us hl => match us, hl with | [_], _ => rfl
  refine ⟨fd, fun s v => b s [v] rfl, fun base _ _ TB => ?_⟩
  have T := tx X G c TB
  exact Ht.def_okT F sc_law rfl rfl fun cdv A outer s H E hc hr tk =>
    (Ob.s_cons (Ob.s_for Ob.fin_passes rfl (Ob.i_p (i_range1 rfl T.n_range (a_cons x_int a_nil))) (Ob.g_name 1 sc_law.nd) (Ob.s_cons (Ob.s_set 3 sc_law.nd (Ob.x_p (x_L (l_fn (k__law_digits T) hr (a_cons (x_var 0) (a_cons (x_var 1) (a_cons x_int (a_cons x_int a_nil)))) (ln_cons (ln_cons (ln_cons (ln_cons ln_nil))))))))
    (Ob.s_cons (Ob.s_set 4 sc_law.nd (Ob.x_p (x_L (l_sl (x_L (l_fn0 (k__law_names T) hr)) o_none (o_some (x_bin od_add x_int (x_bin od_mod (x_ix (x_var 3) x_int (fun _ _ => rfl)) x_int)))))))
    (Ob.s_cons (Ob.s_own 5 sc_law.nd (Ob.l_p (l_lst a_nil)))
    (Ob.s_cons (Ob.s_for Ob.fin_passes rfl (Ob.i_p (i_enum .l rfl T.n_enumerate (a_cons (x_var 4) a_nil))) (Ob.g_tup rfl (Ob.gs_cons (Ob.g_name 6 sc_law.nd) (Ob.gs_cons (Ob.g_name 7 sc_law.nd) Ob.gs_nil))) (Ob.s_cons (Ob.s_set 8 sc_law.nd (Ob.x_p (x_bin od_add x_int (x_bin od_mod (x_ix (x_var 3) (x_bin od_add x_int (x_var 6)) (fun _ _ => rfl)) x_int))))
    (Ob.s_one (Ob.s_app 5 (Ob.x_p (x_tup (a_cons (x_var 7) (a_cons (x_var 8) (a_cons (x_bin od_mod (x_ix (x_var 3) (x_bin od_add x_int (x_var 6)) (fun _ _ => rfl)) (x_bin od_add (x_var 8) x_int)) a_nil)))))))))
    (Ob.s_frz 5 (Ob.s_cons (Ob.s_set 2 sc_law.nd (Ob.x_fn (k__law_plan T) hr tk (Ob.a_cons (Ob.x_L (Ob.l_lc rfl sc_law.nd (Wp := Ob.W0) (We := Ob.W0) (Ob.i_p (i_list (x_var 5))) (blkOk_by (own := [("name", 7), ("cap", 8), ("level", 14)]) (N := N_law) (sc := defScope s_law) (by decide +kernel)) (fun _ _ _ _ _ => (Ob.g_tup rfl (Ob.gs_cons (Ob.g_name 7 sc_law.nd) (Ob.gs_cons (Ob.g_name 8 sc_law.nd) (Ob.gs_cons (Ob.g_name 14 sc_law.nd) Ob.gs_nil))))) (fun _ _ _ _ _ => Ob.q_nil) (fun _ _ _ _ _ => (Ob.x_make (j := 2) (Ob.mkr_of T.g_Envelope T.k_Envelope T.y_Envelope___init__ (k_Envelope___init__ T)) hr Ob.takesN (Ob.a_p (a_cons (x_var 7) (a_cons (x_var 8) (a_cons (x_var 14) a_nil)))))))) Ob.a_nil)))
    (Ob.s_cons (Ob.s_for Ob.fin_passes rfl (Ob.i_p (i_range1 rfl T.n_range (a_cons x_int a_nil))) (Ob.g_name 6 sc_law.nd) (Ob.s_cons (Ob.s_set 7 sc_law.nd (Ob.x_p (x_ix (x_var 4) (x_bin od_mod (x_ix (x_var 3) (x_bin od_add x_int (x_var 6)) (fun _ _ => rfl)) (x_callB cd_len rfl T.n_len PySem.boot_len (a_cons (x_var 4) a_nil))) (fun _ _ => rfl))))
    (Ob.s_cons (Ob.s_set 9 sc_law.nd (Ob.x_p (x_bin od_mod (x_ix (x_var 3) (x_bin od_add x_int (x_var 6)) (fun _ _ => rfl)) (x_callB cd_len rfl T.n_len PySem.boot_len (a_cons (x_var 4) a_nil)))))
    (Ob.s_cons (Ob.s_setLc 10 rfl sc_law.nd (sw_true rfl rfl rfl (by decide +kernel)) (Wp := Ob.W0) (We := Ob.W0) (Ob.i_tup (Ob.x_prop (j := 3) (Ob.prps_cons (Ob.prp_of T.l_Plan T.p_Plan_names T.y_Plan_names (k_Plan_names T)) Ob.prps_nil) hr (Ob.x_var 2))) (blkOk_by (own := [("one", 13)]) (N := N_law) (sc := defScope s_law) (by decide +kernel)) (fun _ _ _ _ _ => (Ob.g_name 13 sc_law.nd)) (fun _ _ _ _ _ => (Ob.q_one (Ob.t_p (t_cmp (od_ne hr.units) (x_var 13) (x_var 7) (nomark _))))) (fun _ _ _ _ _ => (Ob.x_p (x_var 13)))) (Ob.s_frz 10 (Ob.s_cons (Ob.s_set 11 sc_law.nd (Ob.x_dict rfl rfl T.n_dict (Ob.x_L (Ob.l_lc rfl sc_law.nd (Wp := Ob.W0) (We := Ob.W0) (Ob.i_p (i_list (x_var 4))) (blkOk_by (own := [("one", 13)]) (N := N_law) (sc := defScope s_law) (by decide +kernel)) (fun _ _ _ _ _ => (Ob.g_name 13 sc_law.nd)) (fun _ _ _ _ _ => Ob.q_nil) (fun _ _ _ _ _ => (Ob.x_tup (Ob.a_cons (Ob.x_p (x_var 13)) (Ob.a_cons (Ob.x_prop (j := 1) (Ob.prps_cons (Ob.prp_of T.l_Envelope T.p_Envelope_level T.y_Envelope_level (k_Envelope_level T)) Ob.prps_nil) hr (Ob.x_meth (j := 3) (Ob.mets_cons (Ob.met_of T.l_Plan T.m_Plan_envelope T.y_Plan_envelope (k_Plan_envelope T)) Ob.mets_nil) hr Ob.takesN (Ob.x_var 2) (Ob.a_p (a_cons (x_var 13) a_nil)))) Ob.a_nil))))))))
    (Ob.s_cons (Ob.s_if (PW.pt (Ob.w_or (Ob.t_cmp od_isNot (Ob.x_meth (j := 4) (Ob.mets_cons (Ob.met_of T.l_Plan T.m_Plan_move T.y_Plan_move (k_Plan_move T)) Ob.mets_nil) hr tk (Ob.x_var 2) (Ob.a_p (a_cons (x_var 7) (a_cons (x_var 9) a_nil)))) (Ob.x_p x_non) (nomark _)) (pw_or1 (Ob.t_cmp (od_ne hr.units) (Ob.x_L (Ob.l_listD rfl T.n_list (Ob.x_prop (j := 3) (Ob.prps_cons (Ob.prp_of T.l_Plan T.p_Plan_names T.y_Plan_names (k_Plan_names T)) Ob.prps_nil) hr (Ob.x_var 2)))) (Ob.x_p (x_L (l_cat (x_L (l_cat (x_L (l_sl (x_var 10) o_none (o_some (x_var 9)))) (x_L (l_lst (a_cons (x_var 7) a_nil))))) (x_L (l_sl (x_var 10) (o_some (x_var 9)) o_none))))) (nomark _))))) (Ob.s_one (Ob.s_ret (Ob.x_p x_bl))) Ob.s_nil)
    (Ob.s_cons (Ob.s_if (Ob.t_cmp (od_ne hr.units) (Ob.x_prop (j := 3) (Ob.prps_cons (Ob.prp_of T.l_Plan T.p_Plan_levels T.y_Plan_levels (k_Plan_levels T)) Ob.prps_nil) hr (Ob.x_var 2)) (Ob.x_callTy cd_tuple rfl T.n_tuple (by decide +kernel) (Ob.a_cons (Ob.x_L (Ob.l_lc rfl sc_law.nd (Wp := Ob.W0) (We := Ob.W0) (Ob.i_tup (Ob.x_prop (j := 3) (Ob.prps_cons (Ob.prp_of T.l_Plan T.p_Plan_names T.y_Plan_names (k_Plan_names T)) Ob.prps_nil) hr (Ob.x_var 2))) (blkOk_by (own := [("one", 13)]) (N := N_law) (sc := defScope s_law) (by decide +kernel)) (fun _ _ _ _ _ => (Ob.g_name 13 sc_law.nd)) (fun _ _ _ _ _ => Ob.q_nil) (fun _ _ _ _ _ => (Ob.x_dget (Nat.lt_of_le_of_lt (Nat.add_le_add_left (by decide : 1 ≤ 64) _) hr.units) (Ob.x_var 11) (Ob.x_p (x_var 13)) (fun _ _ => rfl))))) Ob.a_nil)) (nomark _)) (Ob.s_one (Ob.s_ret (Ob.x_p x_bl))) Ob.s_nil)
    (Ob.s_cons (Ob.s_for Ob.fin_passes rfl (Ob.i_p (i_tup (x_tup (a_cons (x_bin od_sub x_int x_int) (a_cons (x_callB cd_len rfl T.n_len PySem.boot_len (a_cons (x_var 4) a_nil)) (a_cons x_non (a_cons x_bl (a_cons x_str a_nil)))))))) (Ob.g_name 12 sc_law.nd) (Ob.s_one (Ob.s_if (Ob.t_cmp (od_ne hr.units) (T.d__law_told.elim fun _ F => Ht.x_told (i := 0) (xl := "law") (k := 4) F rfl T.g__law_told sc__law_told rfl (.inl rfl) (fun _ _ _ _ _ _ us hl => match us, hl with | [_], _ => rfl) (fun _ => Ht.told_N (T := [("InvalidPlace", "place value"), ("UnknownEnvelope", "unknown value")]) (j := 1) rfl (by decide) rfl rfl rfl T.g_FillError (Ob.all_cons (of_decide_eq_true T.z_InvalidPlace_FillError) (Ob.all_cons (of_decide_eq_true T.z_UnknownEnvelope_FillError) Ob.all_nil)) T.g__law_error (T.d__law_error.elim fun _ F => F.kp) (Ht.fnes_cons (k_err_InvalidPlace T) (Ht.fnes_cons (k_err_UnknownEnvelope T) Ht.fnes_nil))) (T.TB _ (List.mem_of_getElem? (i := 0) rfl)) hc rfl hr (LamX.lamS_by (sc := defScope s_law) (by decide +kernel)) rfl (fun _ _ _ _ _ => rfl) (fun A outer s H E f c2 hr tk => (Ob.x_meth (j := 4) (Ob.mets_cons (Ob.met_of T.l_Plan T.m_Plan_move T.y_Plan_move (k_Plan_move T)) Ob.mets_nil) hr tk (Ob.x_var 2) (Ob.a_p (a_cons (x_var 7) (a_cons (x_var 12) a_nil)))))) (Ob.x_p (x_tup (a_cons x_non (a_cons x_str a_nil)))) (nomark _)) (Ob.s_one (Ob.s_ret (Ob.x_p x_bl))) Ob.s_nil)))
    (Ob.s_one (Ob.s_if (Ob.t_cmp (od_ne hr.units) (T.d__law_told.elim fun _ F => Ht.x_told (i := 0) (xl := "law") (k := 4) F rfl T.g__law_told sc__law_told rfl (.inl rfl) (fun _ _ _ _ _ _ us hl => match us, hl with | [_], _ => rfl) (fun _ => Ht.told_N (T := [("InvalidPlace", "place value"), ("UnknownEnvelope", "unknown value")]) (j := 1) rfl (by decide) rfl rfl rfl T.g_FillError (Ob.all_cons (of_decide_eq_true T.z_InvalidPlace_FillError) (Ob.all_cons (of_decide_eq_true T.z_UnknownEnvelope_FillError) Ob.all_nil)) T.g__law_error (T.d__law_error.elim fun _ F => F.kp) (Ht.fnes_cons (k_err_InvalidPlace T) (Ht.fnes_cons (k_err_UnknownEnvelope T) Ht.fnes_nil))) (T.TB _ (List.mem_of_getElem? (i := 0) rfl)) hc rfl hr (LamX.lamS_by (sc := defScope s_law) (by decide +kernel)) rfl (fun _ _ _ _ _ => rfl) (fun A outer s H E f c2 hr tk => (Ob.x_meth (j := 4) (Ob.mets_cons (Ob.met_of T.l_Plan T.m_Plan_move T.y_Plan_move (k_Plan_move T)) Ob.mets_nil) hr tk (Ob.x_var 2) (Ob.a_p (a_cons x_str (a_cons x_non a_nil)))))) (Ob.x_p (x_tup (a_cons x_non (a_cons x_str a_nil)))) (nomark _)) (Ob.s_one (Ob.s_ret (Ob.x_p x_bl))) Ob.s_nil)))))))))))
    (Ob.s_one (Ob.s_if (Ob.t_not (Ob.t_val (Ob.x_fn (k__law_exchanged_alike T) hr tk (Ob.a_p (a_cons (x_var 3) (a_cons (x_var 4) (a_cons (x_var 5) a_nil))))))) (Ob.s_one (Ob.s_ret (Ob.x_p x_bl))) Ob.s_nil))))))))))
    (Ob.s_cons (Ob.s_set 2 sc_law.nd (Ob.x_cm (j := 5) (Ob.cmt_of T.cm_Plan_read T.g_Plan (k_Plan_read T)) hr tk (Ob.a_p (a_cons x_str a_nil))))
    (Ob.s_cons (Ob.s_drop (Ob.x_meth (j := 4) (Ob.mets_cons (Ob.met_of T.l_Plan T.m_Plan_move T.y_Plan_move (k_Plan_move T)) Ob.mets_nil) hr tk (Ob.x_var 2) (Ob.a_p (a_cons x_str (a_cons x_int a_nil)))))
    (Ob.s_one (Ob.s_ret (Ob.x_cmp (od_eq hr.units) (Ob.x_prop (j := 3) (Ob.prps_cons (Ob.prp_of T.l_Plan T.p_Plan_names T.y_Plan_names (k_Plan_names T)) Ob.prps_nil) hr (Ob.x_var 2)) (Ob.x_p (x_tup (a_cons x_str (a_cons x_str (a_cons x_str a_nil))))) (nomark _)))))))
end Lw
open PySem PySem.W PySem.Calls PyProof.Rows
set_option maxRecDepth 100000 in
set_option maxHeartbeats 0 in
theorem PySem.Challenge.cw_fillorder_k11_whole_moved_envelopes_holds : PySem.Challenge.rw_fillorder_k11_whole_moved_envelopes.Holds := by
  w_on; o_law
  refine HandSHeadRun.head_any (r := OpenLaw.row PySem.Challenge.rw_fillorder_k11_whole_moved_envelopes) (q := view (OpenLaw.row PySem.Challenge.rw_fillorder_k11_whole_moved_envelopes).prog [31]) (H := Lw.hk) (ob := Lw.ob) (M := 20000) (loose := Lw.loose) (d := HandSHeadRun.topDef (OpenLaw.row PySem.Challenge.rw_fillorder_k11_whole_moved_envelopes).prog 31) (kwd := []) Lw.ob_eq
    (by kernel_rfl) (fun s => by kernel_rfl) Lw.run (by kernel_rfl) (by kernel_rfl) (by kernel_rfl) (by rfl) (by first | assumption | decide +kernel) (by decide +kernel) ⟨rfl, rfl, rfl, rfl, rfl, by decide +kernel⟩ ?hw ?hc
  case hw => w_witness2
  case hc =>
    refine LamX.walk_ofTsE (l := PySem.Challenge.rw_fillorder_k11_whole_moved_envelopes) (n := 63) (k := 7) (x := "script") (CX := fun w => L2N.CX Lw.PW w) rfl (by decide) (by kernel_rfl) ⟨rfl, by decide, by decide⟩ ?F (fun w => Ob.noCX)
    intro w mg fa h Y G hmg0
    obtain ⟨K, KX, c⟩ := Y
    have hmg : mg ("law" : PySem.Str) = some (.ref fa) := by
      have e : (HandSHeadRun.topDef (OpenLaw.row PySem.Challenge.rw_fillorder_k11_whole_moved_envelopes).prog 31).name = ("law" : PySem.Str) := by kernel_rfl
      rw [← e]
      exact hmg0
    obtain ⟨fd, hb, hF⟩ := Lw.facts (w := w) KX G hmg c.t
    exact ⟨K, KX, fd, [(Ob.codeA K "law", Ob.tabA K "law")], Ob.spO K 1 Lw.F_law, (Ob.all_cons (c.empty "law" (List.mem_of_getElem? (i := 0) rfl)) Ob.all_nil), (Ob.all_cons (c.out "law" (List.mem_of_getElem? (i := 0) rfl)) Ob.all_nil), (Ob.all_cons (PySem.W.codeHd_of_K KX (c.hd "law" (List.mem_of_getElem? (i := 0) rfl))) Ob.all_nil), hb, fun H a ns hl _ hH hS => let ⟨st, e⟩ := Lw.law_true ns hl; Ht.law_spTs (xs := ["law"]) (of_decide_eq_true (c.t.fact 104 rfl)) (Ob.all_cons (hH _ (List.mem_of_getElem? (i := 0) rfl)) Ob.all_nil) hS e, fun base hK hG hTB => hF base hK hG (Ob.all_cons (hTB _ (List.mem_of_getElem? (i := 0) rfl)) Ob.all_nil)⟩
