import PyProof.Rows.All
import Wide.All
import OpenK.AllK
import Wide.FinOn
import HandS.ForMost
import HandS.Walk
import HandS.Zip
import HandS.TupAny
import HandS.TupLe
import KE.GoesMore
import KE.GoesZip
import KE.GoesEnum
import HandS.More
import HandS.WordsExc
import HandS.Defaults
import HandS.Head0
import HandS.Head1
import HandS.Head2
import HandS.HeadEnd
import HandS.HeadHook1
import HandS.HeadHook2
import HandS.Deep
import HandS.IsInst
import HandS.SortInts
import HandS.Style
import HandS.TupMul
import HandS.Conv
import HandS.ForExc
import HandS.Property
import HandS.MakeKw
import HandS.Star
import HandS.HotCalls
import HandS.Lambda
import HandS.ClsMeth
import KE.KSuper
import HandS.TryOnly
import HandS.ExcIs
import HandS.HeadHook4
import HandS.HeadWalk
import PyProof.Rows.SetFrom
import HandS.OwnEq
import KE.KBoundM
import HandS.Dict
import KE.KIndexOf
import HandS.DictComp
import PyProof.Rows.TupDisplay
import KE.KDictZip
import HandS.GenList
import PySem.Challenge.RW_fillorder_k24_worked_examples
set_option Elab.async false
set_option linter.all false
set_option maxRecDepth 100000
set_option maxHeartbeats 4000000
namespace Fi
open PySem L2

theorem sqT_up {K : PySem.W.Frag} {H H' : Hp} {a : Addr} {xs : List V} (e : Same H H') (h : SqT K H a xs) : SqT K H' a xs := by
  rcases h with h | h
  · rcases h with h | ⟨o, h⟩
    · exact .inl (.inl (e a _ h))
    · exact .inl (.inr ⟨o, e a _ h⟩)
  · exact .inr h
mutual
theorem Dp_up {K : PySem.W.Frag} {H H' : Hp} (e : Same H H') : ∀ {v : V} {d : PyData}, Dp K H v d → Dp K H' v d
  | _, _, .non => .non
  | _, _, .bl b => .bl b
  | _, _, .int i => .int i
  | _, _, .str x => .str x
  | _, _, .lst hs ha => .lst (e.seq hs) (DpAll_up e ha)
  | _, _, .tup hs ha => .tup (sqT_up e hs) (DpAll_up e ha)
theorem DpAll_up {K : PySem.W.Frag} {H H' : Hp} (e : Same H H') : ∀ {vs : List V} {ds : List PyData}, DpAll K H vs ds → DpAll K H' vs ds
  | _, _, .nil => .nil
  | _, _, .cons h t => .cons (Dp_up e h) (DpAll_up e t)
end
end Fi
namespace L2
open PySem
section
variable {K : PySem.W.Frag} {H : Hp}
theorem DpAll.len : ∀ {vs : List V} {ds : List PyData}, DpAll K H vs ds → vs.length = ds.length
  | _, _, .nil => rfl
  | _, _, .cons _ t => by rw [List.length_cons, List.length_cons, DpAll.len t]
theorem DpAll.get : ∀ {vs : List V} {ds : List PyData} {i : Nat} {v : V}, DpAll K H vs ds → vs[i]? = some v → ∃ d, ds[i]? = some d ∧ Dp K H v d
  | _, _, _, _, .nil, e => by simp at e
  | _, _, 0, _, .cons h _, e => by
    simp at e
    subst e
    exact ⟨_, rfl, h⟩
  | _, _, i + 1, v, .cons _ t, e => by
    obtain ⟨d, h1, h2⟩ := DpAll.get (i := i) (v := v) t (by simpa using e)
    exact ⟨d, by simpa using h1, h2⟩
theorem DpAll.at : ∀ {vs : List V} {ds : List PyData} {i : Nat} {d : PyData}, DpAll K H vs ds → ds[i]? = some d → ∃ v, vs[i]? = some v ∧ Dp K H v d
  | _, _, _, _, .nil, e => by simp at e
  | _, _, 0, _, .cons h _, e => by
    simp at e
    subst e
    exact ⟨_, rfl, h⟩
  | _, _, i + 1, v, .cons _ t, e => by
    obtain ⟨d, h1, h2⟩ := DpAll.at (i := i) t (by simpa using e)
    exact ⟨d, by simpa using h1, h2⟩
theorem DpAll.set {v : V} {d : PyData} (h : Dp K H v d) : ∀ {vs : List V} {ds : List PyData} (i : Nat), DpAll K H vs ds → DpAll K H (vs.set i v) (ds.set i d)
  | _, _, _, .nil => .nil
  | _, _, 0, .cons _ t => .cons h t
  | _, _, i + 1, .cons q t => .cons q (DpAll.set h i t)
theorem DpAll.one {vs : List V} {d : PyData} (h : DpAll K H vs [d]) : ∃ v, vs = [v] ∧ Dp K H v d := by
  cases h with
  | cons h t => cases t; exact ⟨_, rfl, h⟩
theorem DpAll.two {vs : List V} {d e : PyData} (h : DpAll K H vs [d, e]) : ∃ v w, vs = [v, w] ∧ Dp K H v d ∧ Dp K H w e := by
  cases h with
  | cons h t =>
    obtain ⟨w, rfl, q⟩ := t.one
    exact ⟨_, w, rfl, h, q⟩
end

end L2
namespace Fi
open PySem L2
inductive Sl where
  | val (d : PyData)
  | own (ds : List PyData)
  | dct (kvs : List (List Int × PyData))
/-- what this def alone points to -/
def Sl.hid : Sl → Bool
  | .val _ => false
  | _ => true
abbrev En := List (Option Sl)
inductive Out where
  | next (e : En) | brk (e : En) | cont (e : En) | ret (d : PyData) | retL (ds : List PyData) | retD (kvs : List (List Int × PyData))
abbrev FE := En → Option PyData
/-- the heap steps on: Hf what may be pointed to, H all that is tracked -/
structure Stp (Hf H Hf' H' : Hp) : Prop where
  f : Same Hf Hf'
  i : Same Hf' H'
  h : Same H H'
  n : ∀ a o, H a = some o → Hf a = none → Hf' a = none
theorem Stp.refl {Hf H : Hp} (i : Same Hf H) : Stp Hf H Hf H := ⟨Same.refl _, i, Same.refl _, fun _ _ _ h => h⟩
theorem Stp.trans {A B C E F G : Hp} (a : Stp A B C E) (b : Stp C E F G) : Stp A B F G :=
  ⟨a.f.trans b.f, b.i, a.h.trans b.h, fun x o h1 h2 => b.n x o (a.h x o h1) (a.n x o h1 h2)⟩
theorem same_new {H : Hp} {p : Addr} {o : HO} (h : H p = none) : Same H (upd H p o) := fun b x e => by
  rw [upd_ne (ne_of_none e h)]
  exact e
theorem Stp.hid {Hf H : Hp} {p : Addr} {o : HO} (i : Same Hf H) (h : H p = none) : Stp Hf H Hf (upd H p o) :=
  ⟨Same.refl _, i.trans (same_new h), same_new h, fun a x e q => q⟩
def hI (ks : List Int) : Int := reduceHash (Builtin.Tuple.tupleHashOf (ks.map hashInt))
def eI (x : List Int × Addr × Value) : DictEntry := ⟨hI x.1, .ref x.2.1, x.2.2⟩
def DI (p : Addr) (xs : List (List Int × Addr × Value)) : Heap → Prop := fun h => ∃ o es ep, h.get? p = some o ∧ o.ExactDict ∧ o.data = .dict es ep ∧ es.toList = xs.map eI
def KeyOk (K : PySem.W.Frag) (Hf : Hp) (x : List Int × Addr × Value) (kv : List Int × PyData) : Prop := x.1 = kv.1 ∧ SqT K Hf x.2.1 (x.1.map V.int) ∧ ∃ w, RelV w x.2.2 ∧ Dp K Hf w kv.2
def DctOk (K : PySem.W.Frag) (Hf : Hp) (xs : List (List Int × Addr × Value)) (kvs : List (List Int × PyData)) : Prop := (xs.map (·.1)).Nodup ∧ xs.length ≤ 100000 ∧ Paired (KeyOk K Hf) xs kvs
theorem DctOk.up {K : PySem.W.Frag} {Hf Hf' : Hp} {xs : List (List Int × Addr × Value)} {kvs : List (List Int × PyData)} (h : DctOk K Hf xs kvs) (e : Same Hf Hf') : DctOk K Hf' xs kvs :=
  ⟨h.1, h.2.1, Paired.mapP h.2.2 fun _ _ z => ⟨z.1, sqT_up e z.2.1, z.2.2.imp fun _ q => ⟨q.1, Dp_up e q.2⟩⟩⟩
def SlOk (K : PySem.W.Frag) (H0 Hf H : Hp) (v : V) : Sl → Prop
  | .val d => Dp K Hf v d
  | .own ds => ∃ p vs, v = .ref p ∧ H0 p = none ∧ Hf p = none ∧ H p = some (.lst vs) ∧ DpAll K Hf vs ds
  | .dct kvs => ∃ p xs, v = .ref p ∧ H0 p = none ∧ Hf p = none ∧ H p = some (.ext (DI p xs)) ∧ (p == sysModules) = false ∧ DctOk K Hf xs kvs
/-- Z: the two heaps at the def's entry -/
structure Rel (K : PySem.W.Frag) (Z : Hp × Hp) (Hf H : Hp) (env : En) (σ : L2.St) : Prop where
  st : Stp Z.1 Z.2 Hf H
  len : env.length = σ.length
  sl : ∀ (i : Nat) (s : Sl), env[i]? = some (some s) → ∃ v, σ[i]? = some (some v) ∧ SlOk K Z.2 Hf H v s
  ds : ∀ (i j : Nat) (x y : List PyData) (p : Addr), env[i]? = some (some (.own x)) → env[j]? = some (some (.own y)) → σ[i]? = some (some (.ref p)) → σ[j]? = some (some (.ref p)) → i = j
section
variable {K : PySem.W.Frag} {Z : Hp × Hp} {Hf H Hf' H' : Hp} {env : En} {σ : L2.St}
theorem set_cases {α : Type} {l : List (Option α)} {i j : Nat} {x : Option α} {y : α} (h : (l.set i x)[j]? = some (some y)) : (i = j ∧ x = some y) ∨ (i ≠ j ∧ l[j]? = some (some y)) := by
  by_cases e : i = j
  · subst e
    by_cases hl : i < l.length
    · rw [List.getElem?_set_self hl] at h
      exact .inl ⟨rfl, Option.some.inj h⟩
    · rw [List.getElem?_eq_none (by rw [List.length_set]; omega)] at h
      cases h
  · rw [List.getElem?_set_ne e] at h
    exact .inr ⟨e, h⟩
theorem set_some_lt {α : Type} {l : List (Option α)} {i : Nat} {x y : Option α} (h : (l.set i x)[i]? = some y) : i < l.length := by
  by_cases hl : i < l.length
  · exact hl
  · rw [List.getElem?_eq_none (by rw [List.length_set]; omega)] at h
    cases h
/-- a value is stored -/
theorem Rel.set {v : V} {d : PyData} (R : Rel K Z Hf H env σ) (i : Nat) (h : Dp K Hf v d) : Rel K Z Hf H (env.set i (some (.val d))) (σ.set i (some v)) := by
  refine ⟨R.st, by rw [List.length_set, List.length_set, R.len], fun j s e => ?_, fun j k x y p ej ek hj hk => ?_⟩
  · rcases set_cases e with ⟨rfl, q⟩ | ⟨hn, q⟩
    · cases q
      have hl := set_some_lt e
      refine ⟨v, List.getElem?_set_self (by rw [← R.len]; exact hl), h⟩
    · obtain ⟨w, h1, h2⟩ := R.sl j s q
      exact ⟨w, by rw [List.getElem?_set_ne hn]; exact h1, h2⟩
  · rcases set_cases ej with ⟨rfl, q⟩ | ⟨hn, q⟩
    · cases q
    · rcases set_cases ek with ⟨rfl, q2⟩ | ⟨hn2, q2⟩
      · cases q2
      · rw [List.getElem?_set_ne hn] at hj
        rw [List.getElem?_set_ne hn2] at hk
        exact R.ds j k x y p q q2 hj hk
end

def Fin (K : PySem.W.Frag) (Z : Hp × Hp) (Hf : Hp) (D : Ends) : Out → Prop
  | .next e => ∀ σ' H' Hf', Same Hf Hf' → Rel K Z Hf' H' e σ' → D.nx σ' H'
  | .brk e => ∀ σ' H' Hf', Same Hf Hf' → Rel K Z Hf' H' e σ' → D.bk σ' H'
  | .cont e => ∀ σ' H' Hf', Same Hf Hf' → Rel K Z Hf' H' e σ' → D.ct σ' H'
  | .ret d => ∀ v H' Hf', Stp Z.1 Z.2 Hf' H' → Dp K Hf' v d → D.rt v H'
  | .retL ds => ∀ p vs H' Hf', Stp Z.1 Z.2 Hf' H' → Z.2 p = none → Hf' p = none → H' p = some (.lst vs) → DpAll K Hf' vs ds → D.rt (.ref p) H'
  | .retD kvs => ∀ p xs H' Hf', Stp Z.1 Z.2 Hf' H' → Z.2 p = none → Hf' p = none → H' p = some (.ext (DI p xs)) → (p == sysModules) = false → DctOk K Hf' xs kvs → D.rt (.ref p) H'
theorem Fin.up {K : PySem.W.Frag} {Z : Hp × Hp} {Hf Hf' : Hp} {D : Ends} (e : Same Hf Hf') : ∀ {o : Out}, Fin K Z Hf D o → Fin K Z Hf' D o
  | .next _, h => fun σ' H' Hg s R => h σ' H' Hg (e.trans s) R
  | .brk _, h => fun σ' H' Hg s R => h σ' H' Hg (e.trans s) R
  | .cont _, h => fun σ' H' Hg s R => h σ' H' Hg (e.trans s) R
  | .ret _, h => h
  | .retL _, h => h
  | .retD _, h => h
section
variable {X : Cx}
end
end Fi

namespace Fi
open PySem L2

section
variable {X : Cx}
def e2 (F : PyData → PyData → Option PyData) (f g : FE) : FE := fun env => (f env).bind fun x => (g env).bind fun y => F x y
def e1 (F : PyData → Option PyData) (f : FE) : FE := fun env => (f env).bind F
variable {a b c e : Expr} {f g h : FE} {pos : Pos} {F : PyData → PyData → Option PyData}
variable {p q : FT} {rest : List Expr}
variable {es : List Expr} {r : FL}
end
end Fi

namespace Fi
open PySem L2

section
variable {X : Cx} {pos : Pos}
end

section
variable {X : Cx} {st : Stmt} {rest : List Stmt} {e : Expr} {pos : Pos} {f g : FS} {h : FE} {l : FL} {p : FT}
end

section
variable {X : Cx} {tg e : Expr} {pos : Pos} {f : FE} {r : FL}
end

section
variable {X : Cx} {tg iter : Expr} {pos : Pos} {fi : FL} {g : PyData → En → Option En} {fb : FS} {m : Bool} {sl : List Nat} {body : List Stmt}
end
end Fi

namespace Fi
open PySem L2

section
variable {X : Cx}
variable {elt tg iter : Expr} {ifs : List Expr} {scope : Scope} {own : List (Str × Nat)} {pos : Pos} {fi : FL} {g : PyData → En → Option En} {p : FT} {f : FE} {sl vs : List Nat}
end

def entry (n : Nat) (ds : List PyData) : En := ds.map (fun d => some (Sl.val d)) ++ List.replicate (n - ds.length) none
section
variable {X : Cx} {k : Nat} {f : Addr} {fd : FuncData} {ps : List Str} {F : List PyData → Option Sl} {n : Nat} {x : Str} {p pos : Pos} {e : Expr} {es : List Expr} {r : FL}
end
section
variable {X : Cx} {e : Expr} {f g : FE} {lo hi : Option Expr} {fl fh : En → Option (Option Int)} {pos p2 : Pos} {r : FL}
end
end Fi

namespace Fi
open PySem PySem.Spec PyProof.Rows L2

end Fi

namespace Fi
open PySem PySem.Spec PyProof.Rows L2

section
variable {X : Cx}
end

section
variable {X : Cx} {j k : Nat} {F : List PyData → Option Sl} {n : Nat} {x : Str} {p pos : Pos} {e : Expr} {es : List Expr} {r : FL}
end
end Fi

namespace Fi
open PySem PySem.Spec PyProof.Rows L2

section
variable {X : Cx} {a b e : Expr} {f g : FE} {pos : Pos}
end
end Fi

namespace Fi
open PySem PySem.Spec PyProof.Rows L2
section
variable {K : PySem.W.Frag} {Z : Hp × Hp} {Hf H : Hp} {env : En} {σ : L2.St} {D : Addr} {o : HO}
end
section
variable {X : Cx} {elt tg iter tg1 iter1 : Expr} {scope : Scope} {own : List (Str × Nat)} {pos : Pos} {fi fj : FL} {g u : PyData → En → Option En} {f : FE} {sl sm vs vs1 : List Nat}
end

section
variable {X : Cx} {a b e : Expr} {f g : FE} {pos : Pos}
end
end Fi
namespace Fi
open PySem L2
end Fi

namespace Fi
open PySem PySem.Spec PyProof.Rows L2

section
variable {X : Cx} {e : Expr} {f g : FE} {pos : Pos}
end
end Fi

namespace Ob
open PySem PySem.Spec PyProof.Rows L2 Fi
inductive D where
  | py (p : PyData) | obj (n : Nat) | tup (ds : List D) | lst (ds : List D) | cls (c : Str)
mutual
inductive Dq (K : PySem.W.Frag) (Hf : Hp) (ρ : List Addr) : V → D → Prop
  | py {v : V} {p : PyData} : Dp K Hf v p → Dq K Hf ρ v (.py p)
  | obj {a : Addr} {n : Nat} : ρ[n]? = some a → Dq K Hf ρ (.ref a) (.obj n)
  | tup {a : Addr} {xs : List V} {ds : List D} : SqT K Hf a xs → DqAll K Hf ρ xs ds → Dq K Hf ρ (.ref a) (.tup ds)
  | lst {a : Addr} {xs : List V} {ds : List D} : SqL K Hf a xs → DqAll K Hf ρ xs ds → Dq K Hf ρ (.ref a) (.lst ds)
  | cls {c : Str} : Dq K Hf ρ (.ref (He.ga K c)) (.cls c)
inductive DqAll (K : PySem.W.Frag) (Hf : Hp) (ρ : List Addr) : List V → List D → Prop
  | nil : DqAll K Hf ρ [] []
  | cons {v : V} {vs : List V} {d : D} {ds : List D} : Dq K Hf ρ v d → DqAll K Hf ρ vs ds → DqAll K Hf ρ (v :: vs) (d :: ds)
end
/-- the frozen part and the labels grow -/
structure Up (Hf : Hp) (ρ : List Addr) (Hf' : Hp) (ρ' : List Addr) : Prop where
  f : Same Hf Hf'
  p : ρ <+: ρ'
theorem Up.refl {Hf : Hp} {ρ : List Addr} : Up Hf ρ Hf ρ := ⟨Same.refl _, List.prefix_rfl⟩
theorem Up.trans {A B C : Hp} {a b c : List Addr} (x : Up A a B b) (y : Up B b C c) : Up A a C c := ⟨x.f.trans y.f, x.p.trans y.p⟩
theorem pre_get {α : Type} {l m : List α} {n : Nat} {a : α} (h : l <+: m) (e : l[n]? = some a) : m[n]? = some a := by
  obtain ⟨t, rfl⟩ := h
  rw [List.getElem?_append_left (List.getElem?_eq_some_iff.mp e).1]
  exact e
mutual
theorem Dq.up {K : PySem.W.Frag} {Hf Hf' : Hp} {ρ ρ' : List Addr} (u : Up Hf ρ Hf' ρ') : ∀ {v : V} {d : D}, Dq K Hf ρ v d → Dq K Hf' ρ' v d
  | _, _, .py h => .py (Dp_up u.f h)
  | _, _, .obj e => .obj (pre_get u.p e)
  | _, _, .tup h t => .tup (sqT_up u.f h) (DqAll.up u t)
  | _, _, .lst h t => .lst (u.f.seq h) (DqAll.up u t)
  | _, _, .cls => .cls
theorem DqAll.up {K : PySem.W.Frag} {Hf Hf' : Hp} {ρ ρ' : List Addr} (u : Up Hf ρ Hf' ρ') : ∀ {vs : List V} {ds : List D}, DqAll K Hf ρ vs ds → DqAll K Hf' ρ' vs ds
  | _, _, .nil => .nil
  | _, _, .cons h t => .cons (Dq.up u h) (DqAll.up u t)
end
section
variable {K : PySem.W.Frag} {Hf : Hp} {ρ : List Addr}
theorem DqAll.len : ∀ {vs : List V} {ds : List D}, DqAll K Hf ρ vs ds → vs.length = ds.length
  | _, _, .nil => rfl
  | _, _, .cons _ t => by rw [List.length_cons, List.length_cons, DqAll.len t]
theorem DqAll.get : ∀ {vs : List V} {ds : List D} {i : Nat} {v : V}, DqAll K Hf ρ vs ds → vs[i]? = some v → ∃ d, ds[i]? = some d ∧ Dq K Hf ρ v d
  | _, _, _, _, .nil, e => by simp at e
  | _, _, 0, _, .cons h _, e => by
    simp at e
    subst e
    exact ⟨_, rfl, h⟩
  | _, _, i + 1, v, .cons _ t, e => by
    obtain ⟨d, h1, h2⟩ := DqAll.get (i := i) (v := v) t (by simpa using e)
    exact ⟨d, by simpa using h1, h2⟩
theorem DqAll.at : ∀ {vs : List V} {ds : List D} {i : Nat} {d : D}, DqAll K Hf ρ vs ds → ds[i]? = some d → ∃ v, vs[i]? = some v ∧ Dq K Hf ρ v d
  | _, _, _, _, .nil, e => by simp at e
  | _, _, 0, _, .cons h _, e => by
    simp at e
    subst e
    exact ⟨_, rfl, h⟩
  | _, _, i + 1, v, .cons _ t, e => by
    obtain ⟨d, h1, h2⟩ := DqAll.at (i := i) t (by simpa using e)
    exact ⟨d, by simpa using h1, h2⟩
theorem DqAll.set {v : V} {d : D} (h : Dq K Hf ρ v d) : ∀ {vs : List V} {ds : List D} (i : Nat), DqAll K Hf ρ vs ds → DqAll K Hf ρ (vs.set i v) (ds.set i d)
  | _, _, _, .nil => .nil
  | _, _, 0, .cons _ t => .cons h t
  | _, _, i + 1, .cons q t => .cons q (DqAll.set h i t)
end
section
variable {K : PySem.W.Frag} {Hf : Hp} {ρ : List Addr}
end
theorem nodup_inj {α : Type} {l : List α} (h : l.Nodup) {i j : Nat} (hi : i < l.length) (hj : j < l.length) (e : l[i] = l[j]) : i = j := by
  rcases Nat.lt_trichotomy i j with q | q | q
  · exact absurd e (List.pairwise_iff_getElem.mp h i j hi hj q)
  · exact q
  · exact absurd e.symm (List.pairwise_iff_getElem.mp h j i hj hi q)
inductive Oj where
  | ins (c : Str) (fs : List (Str × D))
  | lst (ds : List D)
  | tab (x : Str)
  | dct (ks : List (Str × D))
abbrev Stor := List Oj
def FsOk (K : PySem.W.Frag) (Hf : Hp) (ρ : List Addr) : List (Str × V) → List (Str × D) → Prop := Paired fun p q => p.1 = q.1 ∧ Dq K Hf ρ p.2 q.2
def KsOk (K : PySem.W.Frag) (Hf : Hp) (ρ : List Addr) : List (Key × V) → List (Str × D) → Prop := Paired fun p q => p.1 = Sum.inr q.1 ∧ Dq K Hf ρ p.2 q.2
/-- the code object of the def x, and its table -/
def codeA (K : PySem.W.Frag) (x : Str) : Addr := match K.lookup (He.ga K x) with
  | some ⟨_, _, .func fd, _⟩ => (match fd.code with
    | .ref c => c
    | _ => 0)
  | _ => 0
def tabA (K : PySem.W.Frag) (x : Str) : Addr := match K.lookup (codeA K x) with
  | some ⟨_, _, .fields vs, _⟩ => (match (vs[11]? : Option Value) with
    | some (.ref P) => P
    | _ => 0)
  | _ => 0
def OjOk (K : PySem.W.Frag) (ρ : List Addr) (Hf H : Hp) (a : Addr) : Oj → Prop
  | .ins c fs => ∃ dx vs, H a = some (.ins (He.ga K c) dx vs) ∧ FsOk K Hf ρ vs fs
  | .lst ds => ∃ vs, H a = some (.lst vs) ∧ DqAll K Hf ρ vs ds
  | .tab x => a = tabA K x ∧ LamX.TabS H a (x ++ ".<locals>." ++ "<lambda>")
  | .dct ks => ∃ vs, H a = some (.dK vs) ∧ KsOk K Hf ρ vs ks
structure StOk (K : PySem.W.Frag) (ρ : List Addr) (Hf H : Hp) (st : Stor) : Prop where
  i : Same Hf H
  len : ρ.length = st.length
  nd : ρ.Nodup
  hid : ∀ a ∈ ρ, Hf a = none
  ob : ∀ (n : Nat) (a : Addr) (o : Oj), ρ[n]? = some a → st[n]? = some o → OjOk K ρ Hf H a o
/-- the heap steps on: the objects of ρ may change, what else is tracked stays -/
structure OStp (ρ : List Addr) (Hf H : Hp) (ρ' : List Addr) (Hf' H' : Hp) : Prop where
  up : Up Hf ρ Hf' ρ'
  h : ∀ a o, H a = some o → a ∉ ρ → H' a = some o
  n : ∀ a o, H a = some o → Hf a = none → Hf' a = none
  w : ∀ a ∈ ρ', a ∉ ρ → H a = none
  s : ∀ a o, H a = some o → ∃ o', H' a = some o'
theorem OStp.refl {ρ : List Addr} {Hf H : Hp} : OStp ρ Hf H ρ Hf H := ⟨.refl, fun _ _ e _ => e, fun _ _ _ e => e, fun _ h n => absurd h n, fun _ o e => ⟨o, e⟩⟩
theorem OStp.trans {r1 r2 r3 : List Addr} {A B C E F G : Hp} (x : OStp r1 A B r2 C E) (y : OStp r2 C E r3 F G) : OStp r1 A B r3 F G where
  up := x.up.trans y.up
  h := fun a o e n => by
    have e1 := x.h a o e n
    refine y.h a o e1 fun m => ?_
    rw [x.w a m n] at e
    cases e
  n := fun a o e q => by
    obtain ⟨o', e1⟩ := x.s a o e
    exact y.n a o' e1 (x.n a o e q)
  w := fun a m n => by
    by_cases q : a ∈ r2
    · exact x.w a q n
    · have e1 := y.w a m q
      cases e : B a with
      | none => rfl
      | some o =>
        rw [x.h a o e n] at e1
        cases e1
  s := fun a o e => by
    obtain ⟨o', e1⟩ := x.s a o e
    exact y.s a o' e1
theorem OStp.of {ρ : List Addr} {Hf H Hf' H' : Hp} (s : Stp Hf H Hf' H') : OStp ρ Hf H ρ Hf' H' :=
  ⟨⟨s.f, List.prefix_rfl⟩, fun a o e _ => s.h a o e, s.n, fun _ h n => absurd h n, fun a o e => ⟨o, s.h a o e⟩⟩
theorem FsOk.up {K : PySem.W.Frag} {Hf Hf' : Hp} {ρ ρ' : List Addr} {vs : List (Str × V)} {fs : List (Str × D)} (h : FsOk K Hf ρ vs fs) (u : Up Hf ρ Hf' ρ') : FsOk K Hf' ρ' vs fs := Paired.mapP h fun _ _ z => ⟨z.1, z.2.up u⟩
theorem KsOk.up {K : PySem.W.Frag} {Hf Hf' : Hp} {ρ ρ' : List Addr} {vs : List (Key × V)} {fs : List (Str × D)} (h : KsOk K Hf ρ vs fs) (u : Up Hf ρ Hf' ρ') : KsOk K Hf' ρ' vs fs := Paired.mapP h fun _ _ z => ⟨z.1, z.2.up u⟩
theorem OjOk.up {K : PySem.W.Frag} {Hf Hf' H H' : Hp} {ρ ρ' : List Addr} {a : Addr} {o : Oj} (h : OjOk K ρ Hf H a o) (u : Up Hf ρ Hf' ρ') (e : H' a = H a) (k : ∀ c q, H c = some (LamX.CodeO c q) → H' c = some (LamX.CodeO c q)) : OjOk K ρ' Hf' H' a o := by
  cases o with
  | ins c fs =>
    obtain ⟨dx, vs, h1, h2⟩ := h
    exact ⟨dx, vs, by rw [e, h1], h2.up u⟩
  | lst ds =>
    obtain ⟨vs, h1, h2⟩ := h
    exact ⟨vs, by rw [e, h1], h2.up u⟩
  | tab q =>
    obtain ⟨h0, ps, h1, h2, h3⟩ := h
    refine ⟨h0, ps, by rw [e, h1], h2, fun pos cv hc => ?_⟩
    obtain ⟨c, h4, h5⟩ := h3 pos cv hc
    exact ⟨c, h4, k c _ h5⟩
  | dct ks =>
    obtain ⟨vs, h1, h2⟩ := h
    exact ⟨vs, by rw [e, h1], h2.up u⟩
theorem OjOk.nocode {K : PySem.W.Frag} {Hf H : Hp} {ρ : List Addr} {a : Addr} {o : Oj} (h : OjOk K ρ Hf H a o) (q : Str) : H a ≠ some (LamX.CodeO a q) := by
  cases o with
  | ins c fs =>
    obtain ⟨dx, vs, h1, _⟩ := h
    rw [h1]
    exact fun z => by unfold LamX.CodeO at z; cases z
  | lst ds =>
    obtain ⟨vs, h1, _⟩ := h
    rw [h1]
    exact fun z => by unfold LamX.CodeO at z; cases z
  | tab q =>
    obtain ⟨_, ps, h1, _⟩ := h
    rw [h1]
    exact fun z => by unfold LamX.CodeO at z; cases z
  | dct ks =>
    obtain ⟨vs, h1, _⟩ := h
    rw [h1]
    exact fun z => by unfold LamX.CodeO at z; cases z
section
variable {K : PySem.W.Frag} {ρ ρ' : List Addr} {Hf H Hf' H' : Hp} {st : Stor}
/-- an object of the store is changed -/
theorem StOk.set {n : Nat} {a : Addr} {o' : Oj} {u : HO} (S : StOk K ρ Hf H st) (e : ρ[n]? = some a) (h : OjOk K ρ Hf (upd H a u) a o') : StOk K ρ Hf (upd H a u) (st.set n o') where
  i := fun b o q => by
    have hb : b ≠ a := fun z => by
      rw [z, S.hid a (List.mem_of_getElem? e)] at q
      cases q
    rw [upd_ne hb]
    exact S.i b o q
  len := by rw [List.length_set]; exact S.len
  nd := S.nd
  hid := S.hid
  ob := fun m b o e1 e2 => by
    by_cases hm : n = m
    · subst hm
      rw [e] at e1
      cases e1
      have hl : n < st.length := by rw [← S.len]; exact (List.getElem?_eq_some_iff.mp e).1
      rw [List.getElem?_set_self hl] at e2
      cases e2
      exact h
    · rw [List.getElem?_set_ne hm] at e2
      have hb : b ≠ a := fun z => by
        subst z
        obtain ⟨i1, j1⟩ := List.getElem?_eq_some_iff.mp e
        obtain ⟨i2, j2⟩ := List.getElem?_eq_some_iff.mp e1
        exact hm (nodup_inj S.nd i1 i2 (j1.trans j2.symm))
      exact (S.ob m b o e1 e2).up .refl (by rw [upd_ne hb]) fun c q z => by
        have hc : c ≠ a := fun w => by
          subst w
          have hl : n < st.length := by rw [← S.len]; exact (List.getElem?_eq_some_iff.mp e).1
          exact (S.ob n c st[n] e (List.getElem?_eq_getElem hl)).nocode q z
        rw [upd_ne hc]
        exact z
end
end Ob

namespace Ob
open PySem PySem.Spec PyProof.Rows L2 Fi
section
variable {K : PySem.W.Frag} {ρ ρ' : List Addr} {Hf H Hf' H' : Hp} {st : Stor}
end
inductive Sl where
  | val (d : D)
  | own (ds : List D)
abbrev En := List (Option Sl)
/-- a def's entry -/
structure Zt where
  ρ : List Addr
  Hf : Hp
  H : Hp
def SlOk (K : PySem.W.Frag) (H0 : Hp) (ρ : List Addr) (Hf H : Hp) (v : V) : Sl → Prop
  | .val d => Dq K Hf ρ v d
  | .own ds => ∃ p vs, v = .ref p ∧ H0 p = none ∧ p ∉ ρ ∧ Hf p = none ∧ H p = some (.lst vs) ∧ DqAll K Hf ρ vs ds
structure Rel (K : PySem.W.Frag) (Z : Zt) (ρ : List Addr) (Hf H : Hp) (env : En) (st : Stor) (σ : L2.St) : Prop where
  z : OStp Z.ρ Z.Hf Z.H ρ Hf H
  ok : StOk K ρ Hf H st
  len : env.length = σ.length
  sl : ∀ (i : Nat) (s : Sl), env[i]? = some (some s) → ∃ v, σ[i]? = some (some v) ∧ SlOk K Z.H ρ Hf H v s
  ds : ∀ (i j : Nat) (x y : List D) (p : Addr), env[i]? = some (some (.own x)) → env[j]? = some (some (.own y)) → σ[i]? = some (some (.ref p)) → σ[j]? = some (some (.ref p)) → i = j
section
variable {K : PySem.W.Frag} {Z : Zt} {ρ ρ' : List Addr} {Hf H Hf' H' : Hp} {env : En} {st st' : Stor} {σ : L2.St}
/-- a value is stored -/
theorem Rel.set {v : V} {d : D} (R : Rel K Z ρ Hf H env st σ) (i : Nat) (h : Dq K Hf ρ v d) : Rel K Z ρ Hf H (env.set i (some (.val d))) st (σ.set i (some v)) := by
  refine ⟨R.z, R.ok, by rw [List.length_set, List.length_set, R.len], fun j s e => ?_, fun j k x y p ej ek hj hk => ?_⟩
  · rcases set_cases e with ⟨rfl, q⟩ | ⟨hn, q⟩
    · cases q
      have hl := set_some_lt e
      refine ⟨v, List.getElem?_set_self (by rw [← R.len]; exact hl), h⟩
    · obtain ⟨w, h1, h2⟩ := R.sl j s q
      exact ⟨w, by rw [List.getElem?_set_ne hn]; exact h1, h2⟩
  · rcases set_cases ej with ⟨rfl, q⟩ | ⟨hn, q⟩
    · cases q
    · rcases set_cases ek with ⟨rfl, q2⟩ | ⟨hn2, q2⟩
      · cases q2
      · rw [List.getElem?_set_ne hn] at hj
        rw [List.getElem?_set_ne hn2] at hk
        exact R.ds j k x y p q q2 hj hk
end
end Ob

namespace Ob
open PySem PySem.Spec PyProof.Rows L2 Fi
inductive Rs (α : Type) where
  | ok (a : α) (st : Stor)
  | err (c : Str) (st : Stor)
abbrev F (α : Type) := En → Stor → Option (Rs α)
def bnd {α β : Type} (f : F α) (k : α → F β) : F β := fun env st => match f env st with
  | some (.ok a s) => k a env s
  | some (.err c s) => some (.err c s)
  | none => none
def lft {α : Type} (o : Option α) : F α := fun _ st => o.map (.ok · st)
/-- what a result is, over the heaps ahead and behind -/
abbrev Rlt (α β : Type) := PySem.W.Frag → List Addr → Hp → Hp → List Addr → Hp → Hp → β → α → Prop
def rL : Rlt (List D) V := fun K _ _ H ρ' Hf' H' v ds => ∃ p vs, v = .ref p ∧ H p = none ∧ p ∉ ρ' ∧ Hf' p = none ∧ H' p = some (.lst vs) ∧ DqAll K Hf' ρ' vs ds
def Fin {α β : Type} (r : Rlt α β) (K : PySem.W.Frag) (W : WX) (σ : L2.St) (ρ : List Addr) (Hf H : Hp) (Q : β → Hp → Prop) : Rs α → Prop
  | .ok a st => ∀ v H' ρ' Hf', OStp ρ Hf H ρ' Hf' H' → StOk K ρ' Hf' H' st → r K ρ Hf H ρ' Hf' H' v a → Q v H'
  | .err c st => ∀ H' ρ' Hf', OStp ρ Hf H ρ' Hf' H' → StOk K ρ' Hf' H' st → W (.ref (He.ga K c)) none σ H'
section
variable {α β α' β' : Type} {r : Rlt α β} {r' : Rlt α' β'} {K : PySem.W.Frag} {W : WX} {σ : L2.St} {Z : Zt} {ρ ρ1 : List Addr} {Hf H Hf1 H1 : Hp} {env : En} {st : Stor}
end
section
variable {X : Cx} {W W' : WX} {e : Expr}
def op2 (G : PyData → PyData → Option PyData) : D → D → Option D
  | .py a, .py b => (G a b).map .py
  | _, _ => none
def e2 (G : PyData → PyData → Option PyData) (f g : F D) : F D := bnd f fun x => bnd g fun y => lft (op2 G x y)
variable {a b c : Expr} {f g h : F D} {G G' : PyData → PyData → Option PyData} {pos : Pos}
variable {p q : F Bool} {rest : List Expr}
end
end Ob

namespace Ob
open PySem PySem.Spec PyProof.Rows L2 Fi
section
variable {X : Cx} {W : WX} {e : Expr} {es : List Expr} {pos : Pos} {f g : F D} {r : F (List D)}
variable {a b : Expr}
end
section
variable {X : Cx} {pos : Pos}
end
inductive Out where
  | next (e : En) (s : Stor) | brk (e : En) (s : Stor) | cont (e : En) (s : Stor) | ret (d : D) (s : Stor) | retL (ds : List D) (s : Stor) | exc (c : Str) (e : En) (s : Stor)
def FinS (K : PySem.W.Frag) (W : WX) (Z : Zt) (ρ : List Addr) (Hf : Hp) (N : Ends) : Out → Prop
  | .next e s => ∀ σ' H' ρ' Hf', Up Hf ρ Hf' ρ' → Rel K Z ρ' Hf' H' e s σ' → N.nx σ' H'
  | .brk e s => ∀ σ' H' ρ' Hf', Up Hf ρ Hf' ρ' → Rel K Z ρ' Hf' H' e s σ' → N.bk σ' H'
  | .cont e s => ∀ σ' H' ρ' Hf', Up Hf ρ Hf' ρ' → Rel K Z ρ' Hf' H' e s σ' → N.ct σ' H'
  | .ret d s => ∀ v H' ρ' Hf', OStp Z.ρ Z.Hf Z.H ρ' Hf' H' → StOk K ρ' Hf' H' s → Dq K Hf' ρ' v d → N.rt v H'
  | .retL ds s => ∀ v H' ρ' Hf', OStp Z.ρ Z.Hf Z.H ρ' Hf' H' → StOk K ρ' Hf' H' s → rL K Z.ρ Z.Hf Z.H ρ' Hf' H' v ds → N.rt v H'
  | .exc c e s => ∀ σ' H' ρ' Hf', Up Hf ρ Hf' ρ' → Rel K Z ρ' Hf' H' e s σ' → W (.ref (He.ga K c)) none σ' H'
theorem FinS.up {K : PySem.W.Frag} {W : WX} {Z : Zt} {ρ ρ1 : List Addr} {Hf Hf1 : Hp} {N : Ends} (u : Up Hf ρ Hf1 ρ1) : ∀ {o : Out}, FinS K W Z ρ Hf N o → FinS K W Z ρ1 Hf1 N o
  | .next _ _, h => fun σ' H' ρ' Hg s R => h σ' H' ρ' Hg (u.trans s) R
  | .brk _ _, h => fun σ' H' ρ' Hg s R => h σ' H' ρ' Hg (u.trans s) R
  | .cont _ _, h => fun σ' H' ρ' Hg s R => h σ' H' ρ' Hg (u.trans s) R
  | .ret _ _, h => h
  | .retL _ _, h => h
  | .exc _ _ _, h => fun σ' H' ρ' Hg s R => h σ' H' ρ' Hg (u.trans s) R
section
variable {X : Cx} {W : WX} {s1 : Stmt} {rest : List Stmt} {e : Expr} {pos : Pos} {f g : FS} {h : F D} {l : F (List D)} {p : F Bool}
end
end Ob

namespace Ob
open PySem PySem.Spec PyProof.Rows L2 Fi
section
variable {X : Cx} {W : WX} {tg e : Expr} {pos : Pos} {f : F D}
end
section
variable {X : Cx} {W : WX} {tg iter : Expr} {pos : Pos} {fi : F (List D)} {g : D → En → Option En} {fb : FS} {sl : List Nat} {body : List Stmt}
end
theorem OStp.keeps {ρ ρ' : List Addr} {Hf H Hf' H' : Hp} {p : Addr} {o : HO} (t : OStp ρ Hf H ρ' Hf' H') (hr : p ∉ ρ) (hf : Hf p = none) (h : H p = some o) : p ∉ ρ' ∧ Hf' p = none ∧ H' p = some o :=
  ⟨(fun m => by rw [t.w p m hr] at h; cases h), t.n p o h hf, t.h p o h hr⟩
section
variable {X : Cx} {W W' : WX}
variable {elt tg iter : Expr} {ifs : List Expr} {scope : Scope} {own : List (Str × Nat)} {pos : Pos} {fi : F (List D)} {g : D → En → Option En} {p : F Bool} {f : F D} {sl vs : List Nat} {Wp We : WX}
end
end Ob

namespace Ob
open PySem PySem.Spec PyProof.Rows L2 Fi
def entry (n : Nat) (ds : List D) : En := ds.map (fun d => some (Sl.val d)) ++ List.replicate (n - ds.length) none
def Cal (P : Program) (w : World) (K : PySem.W.Frag) (mg : Str → Option Value) (base : Heap) (k : Nat) (f : Addr) (sp : Sp) : Prop :=
  ∀ (A : Around) (outer : List Env) (s : Shared) (H : Hp) (us : List Value) (vs : List V) (Q : VK) (E : XK), Room k A → Env0 P w K mg base A outer s H → Vals vs us → sp vs H Q E → codeAny (model P w) A (.call (.ref f) ⟨us, []⟩) (CR (L2N.CX P w) outer P w H s Q E) s
section
variable {P : Program} {w : World} {K : PySem.W.Frag} {mg : Str → Option Value} {base : Heap} {j k : Nat} {f : Addr} {fd : FuncData} {ps : List Str} {sp : Sp}
theorem Cal.imp {sp' : Sp} (c : Cal P w K mg base k f sp) (h : ∀ vs H Q E, sp' vs H Q E → sp vs H Q E) : Cal P w K mg base k f sp' := fun A o s H us vs Q E hr e0 r q => c A o s H us vs Q E hr e0 r (h _ _ _ _ q)
end
section
variable {X : Cx} {W : WX} {k : Nat} {f : Addr} {sp : Sp} {pins : List (Addr × Obj)} {σ : L2.St} {H : Hp} {s : Shared} {Q : VK} {us ws : List Value} {vs zs : List V} {E : XK}
end
section
variable {X : Cx} {W : WX} {j k n : Nat} {G : Fn} {x m : Str} {p pos apos : Pos} {e o : Expr} {es : List Expr} {r : F (List D)} {f g : F D}
end
end Ob

namespace Ob
open PySem PySem.Spec PyProof.Rows L2 Fi
section
variable {X : Cx} {W : WX} {j k n : Nat} {G : Fn} {x m : Str} {p pos apos pos' tpos : Pos} {e o value : Expr} {es : List Expr} {r : F (List D)} {f g : F D}
end
end Ob

namespace Ob
open PySem PySem.Spec PyProof.Rows L2 Fi
def tys : List String := ["NoneType", "bool", "int", "str", "list", "tuple"]
section
variable {X : Cx} {W : WX} {j k n : Nat} {x m : Str} {p p2 pos apos : Pos} {e o : Expr} {es : List Expr} {f : F D}
end
end Ob

namespace Ob
open PySem PySem.Spec PyProof.Rows L2 Fi
section
variable {X : Cx} {c : Code} {W : WX} {e a b : Expr} {es : List Expr} {pos apos : Pos} {st : Stmt} {rest : List Stmt} {t u : TS} {te ta tb : TE} {tq : TA}
end
end Ob

namespace Ob
open PySem PySem.Spec PyProof.Rows L2 Fi
section
variable {X : Cx} {c : Code} {W : WX} {e a b : Expr} {es : List Expr} {pos apos : Pos} {te : TE} {tq : TA}
end
section
variable {X : Cx} {body : List Stmt} {pins : List (Addr × Obj)} {σ : L2.St} {H : Hp} {s : Shared} {Dc C dx x : Addr} {vs : List (Str × V)} {m : Str} {p0 p1 : Pos} {whole : Sem Value}
end
section
variable {X : Cx} {W : WX} {body : List Stmt} {Dc : Addr} {T : Tab} {m : Str} {n j k : Nat} {p0 p1 apos pos : Pos} {e : Expr} {es : List Expr} {r : F (List D)}
end
end Ob

namespace Ob
open PySem PySem.Spec PyProof.Rows L2 Fi
section
variable {X : Cx} {c : Code} {W : WX} {e a b : Expr} {es : List Expr} {pos : Pos} {f g h : F D} {r : F (List D)} {p : F Bool} {s1 : Stmt} {rest : List Stmt} {u v : FS}
end
end Ob

namespace Ob
open PySem PySem.Spec PyProof.Rows L2 Fi
def fileIn (K : PySem.W.Frag) (cdv : Value) (file : Str) : Bool := match cdv with
  | .ref c => match K.lookup c with
    | some ⟨_, _, .fields vs, _⟩ => (match (vs[2]? : Option Value) with
      | some (Value.str f _) => decide (f = file)
      | _ => false)
    | _ => false
  | _ => false
section
variable {P : Program} {w : World} {K : PySem.W.Frag} {mg : Str → Option Value} {base : Heap} {file x qual : Str} {params : Arguments} {body : List Stmt} {scope : Scope} {dvs : List V} {kws : List (Str × V)} {Dc f : Addr} {fd : FuncData} {N ps : List Str} {b : FS} {n np k : Nat} {ar : Arg}
end
end Ob

namespace Ob
open PySem PySem.Spec PyProof.Rows L2 Fi
section
variable {M : Model} {A : Around} {E : Value → Shared → Prop} {h : Heap} {g : Array GenState} {d : Drawn} {t : Nat} {os : OsState}
section
variable {x : Sem Value} {m : Addr}
end
end
end Ob

namespace Ob
open PySem PySem.Spec PyProof.Rows L2 Fi
def atomV : PyData → Option V
  | .none => some .non
  | .bool b => some (.bl b)
  | .int i => some (.int i)
  | .str x => some (.str x)
  | _ => none
/-- what more holds: nothing, or the floor -/
inductive Mr where
  | no
  | fl (p : PyData)
def Mr.list : Mr → List D
  | .no => []
  | .fl p => [.py p]
def Mr.vs (m : Mr) (vs : List V) : Prop := match m with
  | .no => vs = []
  | .fl p => ∃ z, atomV p = some z ∧ vs = [z]
def Mr.ks : Mr → List Str
  | .no => []
  | .fl _ => ["floor"]
section
variable {X : Cx} {W : WX} {body : List Stmt} {Dc md : Addr} {mo : Obj} {T : Tab} {m : Str} {n j k i : Nat} {p0 p1 apos pos mp kp : Pos} {e : Expr} {es : List Expr} {r : F (List D)} {mr : Mr} {ws : List Value} {zs : List V}
end
end Ob

namespace Ob
open PySem PySem.Spec PyProof.Rows L2 Fi
section
variable {M : Model} {A : Around} {E : Value → Shared → Prop} {h : Heap} {g : Array GenState} {d : Drawn} {t : Nat} {os : OsState}
end
section
variable {X : Cx} {c : Code} {W : WX} {e : Expr} {pos : Pos} {h : F D} {s1 : Stmt} {rest : List Stmt} {u v : FS} {C : L2.St → Prop}
end
section
variable {P : Program} {w : World} {K : PySem.W.Frag} {mg : Str → Option Value} {base : Heap} {file x qual : Str} {params : Arguments} {body : List Stmt} {scope : Scope} {kws : List (Str × V)} {Dc f : Addr} {fd : FuncData} {b : FS} {k : Nat} {mr : Mr}
end
end Ob

namespace Ob
open PySem PySem.Spec PyProof.Rows L2 Fi
inductive Lo where
  | g (x : Str) | m (c x : Str) | p (c x : Str) | ps (c x : Str) | s (c x : Str) | k (c x : Str)
def refOf : Option Value → Addr
  | some (.ref a) => a
  | _ => 0
def recAt (K : PySem.W.Frag) (p : Addr) (T : String) (i : Nat) : Addr := match PySem.W.recIn K p T with
  | some l => refOf (l[i]?)
  | none => 0
def Lo.ad (K : PySem.W.Frag) : Lo → Addr
  | .g x => He.ga K x
  | .m c x => He.ma K (He.ga K c) x
  | .p c x => recAt K (He.ma K (He.ga K c) x) "property" 0
  | .ps c x => recAt K (He.ma K (He.ga K c) x) "property" 1
  | .s c x => recAt K (He.ma K (He.ga K c) x) "staticmethod" 0
  | .k c x => recAt K (He.ma K (He.ga K c) x) "classmethod" 0
inductive Ck where
  | fa (f : He.Fa)
  | prop (c m : Str)
  | isc (c C : Str) (b : Bool)
  | ist (C : Str)
  | obc
  | cst
  | cval (C m : Str) (i : Int)
  | stat (C m : Str)
  | sup (c D m : Str)
  | exm (x y : Str) (b : Bool)
  | bo (f : PySem.W.Frag → Bool)
def mcOf (K : PySem.W.Frag) (C : Addr) : Value := (PySem.W.typeIn K (.ref C)).getD .none
def isRef : Option (Option Value) → Bool
  | some (some (.ref _)) => true
  | _ => false
def isRefs : Option (List Value) → Bool
  | some (.ref _ :: _) => true
  | _ => false
def cvB (K : PySem.W.Frag) (C : Addr) (mc : Value) (m : Str) (i : Int) : Bool := match PySem.W.findCls K (.ref C) mc m with
  | some (.val (.int j _)) => decide (j = i)
  | _ => false
def smB (K : PySem.W.Frag) (C : Addr) (mc : Value) (m : Str) : Bool := match PySem.W.findCls K (.ref C) mc m with
  | some (.get (.builtin g) (.ref p) .none (.ref C')) => decide (g = "staticmethod.__get__") && (decide (p = He.ma K C m) && decide (C' = C))
  | _ => false
def readB (K : PySem.W.Frag) (C : Addr) (mc : Value) : Bool := PySem.W.readsIn K C mc && decide (PySem.W.specialIn K (.ref C) "__getattribute__" = some (some (.builtin "type.__getattribute__")))
def Ck.ok (K : PySem.W.Frag) : Ck → Bool
  | .fa f => f.ok K
  | .prop c m => isRef (PySem.W.findIn K (.ref (He.ga K c)) m) && (decide (PySem.W.specialIn K (.ref (He.ma K (He.ga K c) m)) "__get__" = some (some (.builtin "property.__get__"))) && (decide (PySem.W.takesIn K (.ref (He.ma K (He.ga K c) m)) = some true) && isRefs (PySem.W.recIn K (He.ma K (He.ga K c) m) "property")))
  | .isc c C b => decide (PySem.W.findIn K (.ref (He.ga K c)) "__class__" = some (some (.builtin "object.__class__"))) && (decide (PySem.W.mroIn K (He.ga K c) (.type "object") = some true) && decide (PySem.W.kitOne K (.ref (He.ga K c)) (.ref (He.ga K C)) = some b))
  | .ist C => tys.all fun t => decide (PySem.W.kitOne K (.type t) (.ref (He.ga K C)) = some false)
  | .obc => decide (PySem.W.specialIn K (.builtin "object.__class__") "__get__" = some (some (.builtin "getset_descriptor.__get__"))) && decide (PySem.W.takesIn K (.builtin "object.__class__") = some true)
  | .cst => decide (PySem.W.nsIn K cStatics "thirdparty.any" = some none)
  | .cval C m i => readB K (He.ga K C) (mcOf K (He.ga K C)) && cvB K (He.ga K C) (mcOf K (He.ga K C)) m i
  | .stat C m => readB K (He.ga K C) (mcOf K (He.ga K C)) && (smB K (He.ga K C) (mcOf K (He.ga K C)) m && isRefs (PySem.W.recIn K (He.ma K (He.ga K C) m) "staticmethod"))
  | .sup c D m => decide (PySem.W.mroIn K (He.ga K c) (.ref (He.ga K D)) = some true) && (isRef (PySem.W.ks_superIn K (He.ga K c) (He.ga K D) m) && (decide (PySem.W.typeIn K (.ref (refOf ((PySem.W.ks_superIn K (He.ga K c) (He.ga K D) m).getD none))) = some (.type "function")) && (PySem.W.fnIn K (refOf ((PySem.W.ks_superIn K (He.ga K c) (He.ga K D) m).getD none)) && (PySem.W.clsIn K (He.ga K D)).isSome)))
  | .exm x y b => decide (PySem.W.exmOne K (.ref (He.ga K x)) (.ref (He.ga K y)) = some b)
  | .bo f => f K
section
variable {K : PySem.W.Frag}
def supAd (K : PySem.W.Frag) (c D m : Str) : Addr := refOf ((PySem.W.ks_superIn K (He.ga K c) (He.ga K D) m).getD none)
end
abbrev FnC : Type := Option (Str × Str × Arguments × FuncBody × Scope × Addr × List Str × Addr)
def fnC (K : PySem.W.Frag) (p : Lo) : FnC := match K.lookup (p.ad K) with
  | some ⟨_, _, .func fd, _⟩ => some (fd.name, fd.qualname, fd.params, fd.body, fd.scope, fd.globals, fd.closure.map (·.1), fd.builtins)
  | _ => none
/-- one def: where it stands, its names, parameters, body, scope, defaults, the class that it closes over -/
structure Df where
  at_ : Lo
  name : Str
  qual : Str
  st : Stmt
  dfl : List He.Dv := []
  kwd : List (Str × He.Dv) := []
  clo : Option Str := none
def Df.val (d : Df) : FnC := some (d.name, d.qual, defArgs d.st, .stmts (defBody d.st), defScope d.st, mainGlobals, (match d.clo with | some _ => ["__class__"] | none => []), builtinsNs)
def Df.dvs (K : PySem.W.Frag) (d : Df) : List V := d.dfl.map (He.Dv.v K)
def Df.kws (K : PySem.W.Frag) (d : Df) : List (Str × V) := d.kwd.map fun q => (q.1, q.2.v K)
def cloB (K : PySem.W.Frag) (file : Str) (cl : Option Str) (fd : FuncData) : Bool := match cl with
  | none => true
  | some D => fileIn K fd.code file && (match fd.closure with
    | [(_, cc)] => (match K.lookup cc with
      | some ⟨_, _, .cell (some (.ref D')), _⟩ => decide (D' = He.ga K D)
      | _ => false)
    | _ => false)
def Df.ok (K : PySem.W.Frag) (file : Str) (d : Df) : Bool := PySem.W.keepIn K (.ref (d.at_.ad K)) && (match K.lookup (d.at_.ad K) with
  | some ⟨_, _, .func fd, _⟩ => PySem.W.codeIn K fd.code d.qual && (He.dflB K fd.defaults (d.dvs K) && (He.kwdB K fd.kwdefaults (d.kws K) && cloB K file d.clo fd))
  | _ => false)
def asO (g : Addr → Option Obj) : Nat → List Addr
  | 0 => [mainGlobals, cStatics]
  | n + 1 => He.growD g (asO g n)
abbrev AlO : Type := Bool × List FnC
def obsO (file : Str) (ck : List Ck) (df : List Df) (K : PySem.W.Frag) : AlO := ((ck.all fun f => f.ok K) && df.all fun d => d.ok K file, df.map fun d => fnC K d.at_)
def valO (df : List Df) : AlO := (true, df.map Df.val)
def SaysO (file : Str) (ck : List Ck) (df : List Df) (K : PySem.W.Frag) : Prop := obsO file ck df K = valO df
def obsOG (n : Nat) (file : Str) (ck : List Ck) (df : List Df) (g : Addr → Option Obj) : AlO := obsO file ck df (He.frG g (asO g n))
def hookO (n : Nat) (file : Str) (ck : List Ck) (df : List Df) : PySem.W.Hook where
  α := AlO
  obs := fun s => obsOG n file ck df s.heap.get?
  val := fun _ => valO df
  says := fun _ h => ∃ K : PySem.W.Frag, K.In h ∧ SaysO file ck df K
  of := fun _ _ e => ⟨_, He.frG_in, e⟩
  keeps := fun _ _ _ ⟨K, hK, c⟩ k => ⟨K, PySem.W.Frag.In.keeps hK k, c⟩
section
variable {file : Str} {ck : List Ck} {df : List Df} {K : PySem.W.Frag}
end
end Ob

namespace Ob
open PySem PySem.Spec PyProof.Rows L2 Fi
section
variable {X : Cx} {W : WX} {a b c : Expr} {f g h : F D} {G G' : PyData → PyData → Option PyData} {pos : Pos}
end
end Ob

namespace Fi
open PySem PySem.Spec PyProof.Rows L2
section
variable {X : Cx} {tg e : Expr} {pos : Pos} {f : FE}
end
end Fi

namespace Ob
open PySem PySem.Spec PyProof.Rows L2 Fi
/-- the i-th statement of a class's body -/
def member (c : Stmt) (j : Nat) : Stmt := match c with
  | .ClassDef _ _ _ body _ _ _ _ _ _ _ => body.getD j (.Pass ⟨0, 0, 0, 0⟩)
  | _ => .Pass ⟨0, 0, 0, 0⟩
/-- the same attribute, found at two classes -/
def samB (K : PySem.W.Frag) (c m C : Str) : Bool := decide (He.ma K (He.ga K c) m = He.ma K (He.ga K C) m)
def spsB (K : PySem.W.Frag) (c D m C : Str) : Bool := decide (supAd K c D m = He.ma K (He.ga K C) m)
section
variable {P : Program} {w : World} {K : PySem.W.Frag} {mg : Str → Option Value} {base : Heap} {j k n : Nat} {c C Dn m : Str} {G : Fn} {T : Tab}
variable {file x qual : Str} {params : Arguments} {body : List Stmt} {scope : Scope} {dvs : List V} {kws : List (Str × V)} {Dc f : Addr} {fd : FuncData} {ps : List Str}
end
end Ob

namespace Ob
open PySem PySem.Spec PyProof.Rows L2 Fi
section
variable {X : Cx} {W : WX} {a b : Expr} {f g : F D} {pos : Pos}
end
end Ob

namespace Ob
open PySem PySem.Spec PyProof.Rows L2 Fi
section
variable {X : Cx} {W : WX} {a b e o value : Expr} {es : List Expr} {f g h : F D} {r : F (List D)} {pos pos' : Pos}
end
end Ob

namespace Ht
open PySem PySem.Spec PyProof.Rows L2 HotX
/-- no exception is handled, or one whose context is None -/
def Lv (A : Around) (h : Heap) : Prop := A.handled = none ∨ ∃ x1, HotAt A x1 h
section
variable {prog : Program} {w : World} {A : Around} {E : Value → Shared → Prop} {s : Shared}
theorem Lv.up {h h' : Heap} (l : Lv A h) (k : ∀ x1, A.handled = some (.ref x1) → ∀ o, h.get? x1 = some o → h'.get? x1 = some o) : Lv A h' := by
  rcases l with q | ⟨x1, hh, o, vs, h1, h2, h3⟩
  · exact .inl q
  · exact .inr ⟨x1, hh, o, vs, k x1 hh o h1, h2, h3⟩
end
end Ht

namespace Ht
open PySem PySem.Spec PyProof.Rows L2 HotX
section
variable {X : Cx}
end
end Ht

namespace Ht
open PySem PySem.Spec PyProof.Rows L2 Fi
section
variable {prog : Program} {w : World} {A : Around} {E : Value → Shared → Prop} {s : Shared}
end
section
variable {X : Cx} {pos : Pos}
end
section
variable {X : Cx} {o e e2 : Expr} {f g : FE} {apos pos : Pos}
end
section
variable {X : Cx} {tg iter elt : Expr} {ifs : List Expr} {scope : Scope} {own : List (Str × Nat)} {pos : Pos} {fi : FL} {g : PyData → Fi.En → Option Fi.En} {p : FT} {f : FE} {vs sl : List Nat}
end
end Ht

namespace Ht
open PySem PySem.Spec PyProof.Rows L2 Fi
section
variable {X : Cx} {a : Addr} {e e2 : Expr} {es : List Expr} {f g : FE} {r l : FL} {pos : Pos}
end
end Ht

namespace Ht
open PySem PySem.Spec PyProof.Rows L2 Fi
section
variable {X : Cx}
end
section
variable {X : Cx} {W : WX}
end
end Ht

namespace Ob
open PySem PySem.Spec PyProof.Rows L2 Fi
section
variable {P : Program} {w : World} {K : PySem.W.Frag} {mg : Str → Option Value} {base : Heap} {j k n : Nat} {c C m : Str} {G : Fn} {T : Tab}
end
end Ob
namespace Ht
open PySem PySem.Spec PyProof.Rows L2 Fi
section
variable {P : Program} {w : World} {K : PySem.W.Frag} {mg : Str → Option Value} {base : Heap}
end
end Ht
namespace Ht
open PySem PySem.Spec PyProof.Rows L2 Fi
end Ht

namespace Ht
open PySem PySem.Spec PyProof.Rows L2 LamX
section
variable {X : Cx} {pins : List (Addr × Obj)} {σ : L2.St} {H HZ : Hp} {s s1 : Shared}
end
end Ht

namespace Ht
open PySem PySem.Spec PyProof.Rows L2 Fi LamX
section
variable {X : Cx}
end
end Ht

namespace Ht
open PySem PySem.Spec PyProof.Rows L2 Fi LamX
section
variable {X : Cx} {W : WX}
end
end Ht

namespace Ht
open PySem PySem.Spec PyProof.Rows L2 Fi LamX
end Ht

namespace Ob
open PySem PySem.Spec PyProof.Rows L2 Fi
section
variable {X : Cx} {W : WX} {e oe ie : Expr} {f g h : F D} {pos tpos ppos npos : Pos}
end
end Ob

namespace Fi
open PySem PySem.Spec PyProof.Rows L2
end Fi

namespace Ob
open PySem PySem.Spec PyProof.Rows L2 Fi
section
variable {X : Cx} {W : WX} {e a b : Expr} {f g : F D} {p pos p2 : Pos}
end
end Ob

namespace Ob
open PySem PySem.Spec PyProof.Rows L2 Fi
section
variable {C : Type} [DecidableEq C] [BEq C] [LawfulBEq C]
variable {prog : Program} {w : World} {knd : KeyKind prog w C} {A : Around}
end
end Ob

namespace Ob
open PySem PySem.Spec PyProof.Rows L2 Fi
open AutoSeq1 (wpAny_loadPart')
open MeetsSeq MeetsSeq2 MeetsSeq3 SeqRoads2
section
variable {prog : Program} {w : World} {A : Around} {E : Value → Shared → Prop} {s : Shared} {K : PySem.W.Frag}
variable {R : Result → Shared → Prop}
end
end Ob

namespace Ob
open PySem PySem.Spec PyProof.Rows L2 Fi
section
variable {X : Cx} {k : Nat} {T : TabE} {A : Around} {pins : List (Addr × Obj)} {s : Shared} {σ : L2.St} {H Hf : Hp} {ρ : List Addr} {st st' : Stor} {x y : V} {u v : Value} {dx dy : D} {b : Bool}
variable {W : WX} {ea eb : Expr} {f g : F D} {pos : Pos}
end
end Ob

namespace Ob
open PySem PySem.Spec PyProof.Rows L2 Fi
section
variable {X : Cx} {W : WX} {e : Expr} {f : F D} {p pos : Pos} {c : Str} {G : Fn} {j k : Nat}
end
section
variable {P : Program} {w : World} {K : PySem.W.Frag} {mg : Str → Option Value} {base : Heap} {j k : Nat} {c C : Str} {G : Fn} {T : TabE} {bl ot : List Str}
end
end Ob

namespace Ob
open PySem PySem.Spec PyProof.Rows L2 Fi
section
variable {X : Cx} {W : WX} {j k : Nat} {m c : Str} {apos pos : Pos} {e o : Expr} {es : List Expr} {f : F D}
end
end Ob
namespace Fi
open PySem PySem.Spec PyProof.Rows L2
end Fi

namespace Ob
open PySem PySem.Spec PyProof.Rows L2 Fi
section
variable {X : Cx} {W : WX} {e : Expr} {f : F D} {p pos tpos : Pos} {elts : List Expr} {kk : Nat}
end
end Ob
namespace Fi
open PySem PySem.Spec PyProof.Rows L2
end Fi

namespace Ob
open PySem PySem.Spec PyProof.Rows L2 Fi
section
variable {M : Model} {A : Around} {E : Value → Shared → Prop} {h : Heap} {g : Array GenState} {d : Drawn} {t : Nat} {os : OsState}
end
section
variable {P : Program} {w : World} {K : PySem.W.Frag} {mg : Str → Option Value} {base : Heap} {file x qual : Str} {params : Arguments} {body : List Stmt} {scope : Scope} {kws : List (Str × V)} {Dc f : Addr} {fd : FuncData} {b : FS} {k : Nat}
end
end Ob

namespace Ob
open PySem PySem.Spec PyProof.Rows L2 Fi
section
variable {X : Cx} {W : WX} {j k n : Nat} {G : Fn} {C x m : Str} {p pos apos : Pos} {e o : Expr} {es : List Expr} {r : F (List D)} {f g : F D}
end
def cmB (K : PySem.W.Frag) (C m : Str) : Bool := readB K (He.ga K C) (mcOf K (He.ga K C)) && ((match PySem.W.findCls K (.ref (He.ga K C)) (mcOf K (He.ga K C)) m with
  | some (.get (.builtin g) (.ref p) .none (.ref C')) => decide (g = "classmethod.__get__") && (decide (p = He.ma K (He.ga K C) m) && decide (C' = He.ga K C))
  | _ => false) && (isRefs (PySem.W.recIn K (He.ma K (He.ga K C) m) "classmethod") && PySem.W.fnIn K (Lo.ad K (.k C m))))
end Ob
namespace Fi
open PySem PySem.Spec PyProof.Rows L2
section
variable {X : Cx} {o e : Expr} {f g : FE} {apos pos : Pos}
end
end Fi

namespace Ob
open PySem PySem.Spec PyProof.Rows L2 Fi
section
variable {X : Cx} {W : WX} {e o : Expr} {f g : F D} {p pos : Pos}
end
end Ob
namespace Fi
open PySem PySem.Spec PyProof.Rows L2
end Fi

namespace Ob
open PySem PySem.Spec PyProof.Rows L2 Fi
section
variable {P : Program} {w : World} {K : PySem.W.Frag} {mg : Str → Option Value} {base : Heap} {j k : Nat} {f : Addr} {fd : FuncData} {ps : List Str} {sp : Sp}
end
section
variable {X : Cx} {W : WX} {j k n : Nat} {G : Fn} {x m : Str} {p pos apos : Pos} {e o : Expr} {es : List Expr} {r : F (List D)} {f g : F D}
end
section
variable {X : Cx} {W : WX} {body : List Stmt} {Dc : Addr} {T : Tab} {m : Str} {n j k : Nat} {p0 p1 apos pos : Pos} {e : Expr} {es : List Expr} {r : F (List D)}
end
section
variable {P : Program} {w : World} {K : PySem.W.Frag} {mg : Str → Option Value} {base : Heap} {j k n : Nat} {c C Dn m : Str} {G : Fn} {T : Tab}
end
section
variable {P : Program} {w : World} {K : PySem.W.Frag} {mg : Str → Option Value} {base : Heap} {file x qual : Str} {params : Arguments} {body : List Stmt} {scope : Scope} {dvs : List V} {kws : List (Str × V)} {Dc f : Addr} {fd : FuncData} {N ps : List Str} {b : FS} {n np k : Nat} {ar : Arg}
end
end Ob

namespace Ob
open PySem PySem.Spec PyProof.Rows L2 Fi
section
variable {X : Cx} {W : WX} {e e2 : Expr} {r : F (List D)} {p pos tpos : Pos} {elts : List Expr} {kk : Nat}
end
section
variable {X : Cx} {tg : Expr}
end
section
variable {X : Cx} {W : WX} {tg iter : Expr} {pos : Pos} {fi : F (List D)} {g : D → En → Option En} {fb : FS} {sl : List Nat} {body : List Stmt}
end
section
variable {X : Cx} {pos : Pos}
end


end Ob

namespace Ob
open PySem PySem.Spec PyProof.Rows L2 Fi
section
variable {X : Cx} {W : WX} {e : Expr} {pos : Pos} {f : F D} {r : F (List D)}
end
section
variable {X : Cx} {W : WX} {e : Expr} {p pos : Pos} {f : F D}
end
end Ob
namespace Fi
open PySem PySem.Spec PyProof.Rows L2
section
variable {X : Cx} {o e : Expr} {to te : TE} {f g : FE} {apos cpos : Pos}
end
end Fi

namespace Fi
open PySem PySem.Spec PyProof.Rows L2
/-- statements that change no slot outside W -/
def FinF (K : PySem.W.Frag) (Z : Hp × Hp) (Hf : Hp) (σ : L2.St) (W : List Nat) (D : Ends) : Out → Prop
  | .next e => ∀ σ' H' Hf', Same Hf Hf' → Rel K Z Hf' H' e σ' → (∀ i : Nat, i ∉ W → σ'[i]? = σ[i]?) → D.nx σ' H'
  | .ret d => ∀ v H' Hf', Stp Z.1 Z.2 Hf' H' → Dp K Hf' v d → D.rt v H'
  | _ => False
theorem FinF.up {K : PySem.W.Frag} {Z : Hp × Hp} {Hf Hf' : Hp} {σ τ : L2.St} {W : List Nat} {D : Ends} (e : Same Hf Hf') (hs : ∀ i : Nat, i ∉ W → τ[i]? = σ[i]?) : ∀ {o : Out}, FinF K Z Hf σ W D o → FinF K Z Hf' τ W D o
  | .next _, h => fun σ' H' Hg s R q => h σ' H' Hg (e.trans s) R fun i hi => (q i hi).trans (hs i hi)
  | .ret _, h => h
  | .brk _, h => h
  | .cont _, h => h
  | .retL _, h => h
  | .retD _, h => h
section
variable {X : Cx} {W : List Nat} {st : Stmt} {rest : List Stmt} {e : Expr} {pos : Pos} {f g : FS} {h : FE} {p : FT}
end
section
variable {X : Cx} {e : Expr} {pos : Pos} {g : FE} {l : FL}
end
end Fi

namespace Fi
open PySem PySem.Spec PyProof.Rows L2
section
variable {X : Cx} {pins : List (Addr × Obj)} {σ : L2.St} {H : Hp} {s : Shared} {p c : Addr} {xs : List (List Int × Addr × Value)} {k : List Int} {E : Value → Shared → Prop}
end
section
variable {K : PySem.W.Frag} {H Hf : Hp}
end
section
variable {X : Cx} {e : Expr} {pos : Pos}
variable {kx vx tg iter : Expr} {scope : Scope} {own : List (Str × Nat)} {fi : FL} {g : PyData → En → Option En} {fk fv : FE} {sl vs : List Nat}
end
end Fi

namespace Fi
open PySem PySem.Spec PyProof.Rows L2
section
variable {X : Cx} {pins : List (Addr × Obj)} {σ : L2.St} {H : Hp} {s : Shared} {p c : Addr} {xs : List (List Int × Addr × Value)} {k : List Int} {E : Value → Shared → Prop}
end
section
variable {X : Cx} {kx vx e : Expr} {pos : Pos} {fk fv f h g : FE}
end
end Fi

namespace Fi
open PySem PySem.Spec PyProof.Rows L2
section
variable {X : Cx}
end
end Fi

namespace Fi
open PySem PySem.Spec PyProof.Rows L2
section
variable {prog : Program} {w : World} {A : Around} {E : Value → Shared → Prop} {s : Shared} {z TI TO i1 i2 : Addr} {fp1 fp2 : List Addr} {n1 n2 i : Nat} {P1 P2 : Nat → Value → Prop} {St1 St2 : Nat → Heap → Prop}
end
section
variable {X : Cx} {pins : List (Addr × Obj)} {σ : L2.St} {a b z TI TO i1 i2 L : Addr} {k1 k2 : Kd}
end
end Fi

namespace Fi
open PySem PySem.Spec PyProof.Rows L2
section
variable {prog : Program} {w : World} {A : Around} {E : Value → Shared → Prop} {s : Shared} {z TI TO i1 i2 i3 : Addr} {fp1 fp2 fp3 : List Addr} {n1 n2 n3 i : Nat} {P1 P2 P3 : Nat → Value → Prop} {St1 St2 St3 : Nat → Heap → Prop}
end
section
variable {X : Cx} {pins : List (Addr × Obj)} {σ : L2.St} {a b d3 z TI TO i1 i2 i3 L : Addr} {k1 k2 k3 : Kd}
end
end Fi

namespace Ob
open PySem PySem.Spec PyProof.Rows L2 GenW
section
variable {M : Model} {A : Around} {R : GenEnd} {Y : Protocol} {n : Nat} {s₀ : Shared} {c : Code} {fs : List Frame} {s : Shared} {env : Env}
  {K : Flow → Sem PySem.Fin} {J : Value → Sem PySem.Fin} {gd : Bool → Bool} {lv : List Value → List Value}
end
section
variable {prog : Program} {w : World} {A : Around} {R : GenEnd} {Y : Protocol} {n : Nat} {s₀ : Shared} {fs : List Frame} {s : Shared} {env : Env}
end
section
variable {X : Cx} {tg : Expr}
end
end Ob

namespace Ob
open PySem PySem.Spec PyProof.Rows L2 Fi
section
variable {X : Cx} {s1 : Stmt} {rest body : List Stmt} {f : FS} {u v fb : GFS} {e : Expr} {h : F D} {pos yp : Pos}
end
section
variable {X : Cx} {W : WX} {j k n : Nat} {G : Gn'} {c m : Str} {p pos apos pos' : Pos} {e o : Expr} {es : List Expr} {r : F (List D)} {f : F D}
end
end Ob

namespace Ob
open PySem PySem.Spec PyProof.Rows L2 Fi
section
variable {X : Cx} {W : WX} {e : Expr} {f : F D} {lo hi : Option Expr} {fl fh : F (Option Int)} {pos p2 : Pos}
end
end Ob
namespace Fi
open PySem PySem.Spec PyProof.Rows L2
section
variable {X : Cx}
end
end Fi

namespace Ob
open PySem PySem.Spec PyProof.Rows L2 Fi
section
variable {P : Program} {w : World} {A : Around} {E : Value → Shared → Prop} {h : Heap} {g : Array GenState} {d : Drawn} {t : Nat} {os : OsState}
end
section
variable {P : Program} {w : World} {K : PySem.W.Frag} {mg : Str → Option Value} {base : Heap} {A : Around} {outer : List Env} {s s2 : Shared} {H : Hp}
end
end Ob

namespace Ob
open PySem PySem.Spec PyProof.Rows L2 Fi
section
variable {X : Cx} {pins : List (Addr × Obj)} {σ : L2.St} {H : Hp} {s : Shared} {f : Addr} {k n : Nat} {sp : Sp} {E : XK} {Q : VK} {us ws : List Value} {vs zs : List V} {ks : List Str}
end
section
variable {X : Cx} {W : WX} {j k : Nat} {m : Str} {ks : List Str} {apos pos : Pos} {o : Expr} {f : F D} {q : F (List D)} {kws : List Keyword}
end
section
variable {X : Cx} {W : WX} {e : Expr} {f : F D} {p pos : Pos}
end
end Ob

namespace Ht
open PySem PySem.Spec PyProof.Rows L2 HotX
section
variable {prog : Program} {w : World} {A : Around} {E : Value → Shared → Prop} {s : Shared}
end
end Ht
namespace Ob
open PySem PySem.Spec PyProof.Rows L2 Fi
section
variable {X : Cx} {W : WX} {e tg : Expr} {f : F D}
variable {elt iter : Expr} {ifs : List Expr} {scope : Scope} {own : List (Str × Nat)} {pos : Pos} {fi : F (List D)} {g : D → En → Option En} {p : F Bool} {fe : F D} {sl vs : List Nat} {Wp We : WX}
end
end Ob
namespace Fi
open PySem PySem.Spec PyProof.Rows L2
end Fi

namespace Ob
open PySem PySem.Spec PyProof.Rows L2 Fi
section
variable {X : Cx} {W : WX} {j k n : Nat} {G : Fn} {x m : Str} {p pos apos pos' tpos : Pos} {e o value : Expr} {es : List Expr} {r : F (List D)} {f g : F D}
end
section
variable {P : Program} {w : World} {K : PySem.W.Frag} {mg : Str → Option Value} {base : Heap} {j k n : Nat} {c C Dn m : Str} {G : Fn} {T : Tab}
end
end Ob

namespace Ob
open PySem PySem.Spec PyProof.Rows L2 Fi
section
variable {P : Program} {w : World} {K : PySem.W.Frag} {mg : Str → Option Value} {base : Heap} {j k : Nat} {c C m : Str} {ks : List Str} {G : Fn} {T : Tab}
end
section
variable {X : Cx} {W : WX} {elt tg iter : Expr} {ifs : List Expr} {scope : Scope} {own : List (Str × Nat)} {pos : Pos} {fi : F (List D)} {g : D → En → Option En} {p : F Bool} {fe : F D} {sl vs : List Nat} {Wp We : WX}
end
end Ob

noncomputable section
namespace HandSHeadRun
open PySem PySem.W PySem.Calls PyProof.Rows
def RunV {α : Type} (r : OpenRow) (M : Nat) (w : World) (f : SharedT → α) (v : α) : Prop := ∀ os : OsState, (endF (stepQ (denQ tabQ) r.prog w) M r.prog w os).map f = some v
variable {r : OpenRow} {q : Program} {H : Hook} {ob : SharedT → H.α} {M : Nat} {loose : List PySem.Str} {w : World}
def lookL (r : OpenRow) (w : World) (s : SharedT) : Bool := looksF r.prog (boot_heap w.params) s.abs
def lookS (r : OpenRow) (q : Program) (loose : List PySem.Str) (s : SharedT) := seenQ q loose (importedModules r.prog.main.body) (fun s => xlAt q [] s && recOk r.toRowW.records s) s.abs
theorem RunV.both {α β : Type} {f : SharedT → α} {g : SharedT → β} {a : α} {b : β} (x : RunV r M w f a) (y : RunV r M w g b) : RunV r M w (fun s => (f s, g s)) (a, b) := fun os => by
  obtain ⟨s, h1, rfl⟩ := Option.map_eq_some_iff.mp (x os)
  obtain ⟨s', h2, rfl⟩ := Option.map_eq_some_iff.mp (y os)
  rw [h1] at h2
  cases h2
  exact Option.map_eq_some_iff.mpr ⟨s, h1, rfl⟩
theorem RunV.by {α β : Type} {f : SharedT → α} {a : α} (x : RunV r M w f a) (h : α → β) : RunV r M w (fun s => h (f s)) (h a) := fun os => by
  obtain ⟨s, h1, rfl⟩ := Option.map_eq_some_iff.mp (x os)
  exact Option.map_eq_some_iff.mpr ⟨s, h1, rfl⟩
theorem run_of (a : RunV r M w (fun s => (lookL r w s, lookS r q loose s)) (true, openGood q loose)) (c : RunV r M w ob (H.val w)) : RunEq r q H ob M loose w := (a.both c).by fun x => (x.1.1, x.1.2, x.2)
end HandSHeadRun
namespace Ob
open HandSHeadRun PySem
/-- the facts, the defs, what the defs are: three looks -/
def lookC (n : Nat) (ck : List Ck) (g : Addr → Option Obj) : Bool := ck.all fun f => f.ok (He.frG g (asO g n))
def lookD (n : Nat) (file : Str) (df : List Df) (g : Addr → Option Obj) : Bool := df.all fun d => d.ok (He.frG g (asO g n)) file
def lookE (n : Nat) (df : List Df) (g : Addr → Option Obj) : List FnC := df.map fun d => fnC (He.frG g (asO g n)) d.at_
theorem look_of {r : PySem.W.OpenRow} {M : Nat} {w : World} {n : Nat} {file : Str} {ck : List Ck} {df : List Df} (a : RunV r M w (fun s => lookC n ck (getT s)) true) (d : RunV r M w (fun s => (lookD n file df (getT s), lookE n df (getT s))) (true, df.map Df.val)) :
    RunV r M w (fun s => obsOG n file ck df (getT s)) (valO df) := (a.both d).by fun (x : Bool × Bool × List FnC) => ((x.1 && x.2.1, x.2.2) : AlO)
end Ob

namespace Lw
open PySem PySem.Spec PyProof.Rows L2 Fi
abbrev PW : Program := PySem.Challenge.pw_fillorder_k24_worked_examples
def top (i : Nat) : Stmt := PW.main.body.getD i (.Pass ⟨0, 0, 0, 0⟩)
def file : Str := "/claim/cut.py"
abbrev s__law_cell : Stmt := top 44
abbrev s_all_levels : Stmt := top 7
abbrev s_poured : Stmt := top 3
abbrev s_first_sums : Stmt := top 2
abbrev s_commute : Stmt := top 6
abbrev s_largest_amount : Stmt := top 37
abbrev s_with_amount : Stmt := top 34
abbrev s_shortest_script : Stmt := top 40
abbrev s_is_number_text : Stmt := top 25
abbrev s_Envelope_is_name : Stmt := Ob.member (top 27) 2
abbrev s_is_integer : Stmt := top 24
abbrev s_Envelope_text : Stmt := Ob.member (top 27) 10
abbrev s_Goal_reached : Stmt := Ob.member (top 28) 1
abbrev s_Envelope_free : Stmt := Ob.member (top 27) 11
abbrev s_Envelope_name : Stmt := Ob.member (top 27) 4
abbrev s_Plan_lost : Stmt := Ob.member (top 42) 7
abbrev s_Envelope_level : Stmt := Ob.member (top 27) 5
abbrev s__law_digits : Stmt := top 45
abbrev s_run : Stmt := top 4
abbrev s_prefix_effects : Stmt := top 5
abbrev s_fewest_steps : Stmt := top 39
abbrev s_Envelope___init__ : Stmt := Ob.member (top 27) 1
abbrev s_check_amount : Stmt := top 26
abbrev s_Reserve_free : Stmt := Ob.member (top 29) 4
abbrev s_same_results : Stmt := top 8
abbrev s_least_starts : Stmt := top 9
abbrev s_least_pour : Stmt := top 32
abbrev s_largest_spending : Stmt := top 33
abbrev s_judged : Stmt := top 35
abbrev s_Reserve___init__ : Stmt := Ob.member (top 29) 0
abbrev s_Envelope_put : Stmt := Ob.member (top 27) 12
abbrev s_Goal_free : Stmt := Ob.member (top 28) 2
abbrev s_Plan___init__ : Stmt := Ob.member (top 42) 1
abbrev s_Plan_levels : Stmt := Ob.member (top 42) 4
abbrev s_Plan_envelope : Stmt := Ob.member (top 42) 8
abbrev s_first_amount : Stmt := top 36
abbrev s_Goal___init__ : Stmt := Ob.member (top 28) 0
abbrev s_Goal_put : Stmt := Ob.member (top 28) 3
abbrev s_Envelope_take : Stmt := Ob.member (top 27) 13
abbrev s_Plan_spend : Stmt := Ob.member (top 42) 10
abbrev s_fitting_amounts : Stmt := top 38
abbrev s_Plan_pour : Stmt := Ob.member (top 42) 9
abbrev s__law_rows_right : Stmt := top 47
abbrev s_Envelope_read : Stmt := Ob.member (top 27) 3
abbrev s_Plan_read : Stmt := Ob.member (top 42) 2
abbrev s__law_envelopes_right : Stmt := top 46
abbrev s_law : Stmt := top 48
def dd__law_cell : Ob.Df := ⟨.g "_law_cell", "_law_cell", "_law_cell", s__law_cell, [], [], none⟩
def dd_all_levels : Ob.Df := ⟨.g "all_levels", "all_levels", "all_levels", s_all_levels, [], [], none⟩
def dd_poured : Ob.Df := ⟨.g "poured", "poured", "poured", s_poured, [], [], none⟩
def dd_first_sums : Ob.Df := ⟨.g "first_sums", "first_sums", "first_sums", s_first_sums, [], [], none⟩
def dd_commute : Ob.Df := ⟨.g "commute", "commute", "commute", s_commute, [], [], none⟩
def dd_largest_amount : Ob.Df := ⟨.g "largest_amount", "largest_amount", "largest_amount", s_largest_amount, [], [], none⟩
def dd_with_amount : Ob.Df := ⟨.g "with_amount", "with_amount", "with_amount", s_with_amount, [], [], none⟩
def dd_shortest_script : Ob.Df := ⟨.g "shortest_script", "shortest_script", "shortest_script", s_shortest_script, [], [], none⟩
def dd_is_number_text : Ob.Df := ⟨.g "is_number_text", "is_number_text", "is_number_text", s_is_number_text, [], [], none⟩
def dd_Envelope_is_name : Ob.Df := ⟨.s "Envelope" "is_name", "is_name", "Envelope.is_name", s_Envelope_is_name, [], [], none⟩
def dd_is_integer : Ob.Df := ⟨.g "is_integer", "is_integer", "is_integer", s_is_integer, [], [], none⟩
def dd_Envelope_text : Ob.Df := ⟨.m "Envelope" "text", "text", "Envelope.text", s_Envelope_text, [], [], none⟩
def dd_Goal_reached : Ob.Df := ⟨.p "Goal" "reached", "reached", "Goal.reached", s_Goal_reached, [], [], none⟩
def dd_Envelope_free : Ob.Df := ⟨.m "Envelope" "free", "free", "Envelope.free", s_Envelope_free, [], [], none⟩
def dd_Envelope_name : Ob.Df := ⟨.p "Envelope" "name", "name", "Envelope.name", s_Envelope_name, [], [], none⟩
def dd_Plan_lost : Ob.Df := ⟨.p "Plan" "lost", "lost", "Plan.lost", s_Plan_lost, [], [], none⟩
def dd_Envelope_level : Ob.Df := ⟨.p "Envelope" "level", "level", "Envelope.level", s_Envelope_level, [], [], none⟩
def dd__law_digits : Ob.Df := ⟨.g "_law_digits", "_law_digits", "_law_digits", s__law_digits, [], [], none⟩
def dd_run : Ob.Df := ⟨.g "run", "run", "run", s_run, [], [], none⟩
def dd_prefix_effects : Ob.Df := ⟨.g "prefix_effects", "prefix_effects", "prefix_effects", s_prefix_effects, [], [], none⟩
def dd_fewest_steps : Ob.Df := ⟨.g "fewest_steps", "fewest_steps", "fewest_steps", s_fewest_steps, [], [], none⟩
def dd_Envelope___init__ : Ob.Df := ⟨.m "Envelope" "__init__", "__init__", "Envelope.__init__", s_Envelope___init__, [.int 0], [], none⟩
def dd_check_amount : Ob.Df := ⟨.g "check_amount", "check_amount", "check_amount", s_check_amount, [], [], none⟩
def dd_Reserve_free : Ob.Df := ⟨.m "Reserve" "free", "free", "Reserve.free", s_Reserve_free, [], [], (some "Reserve")⟩
def dd_same_results : Ob.Df := ⟨.g "same_results", "same_results", "same_results", s_same_results, [], [], none⟩
def dd_least_starts : Ob.Df := ⟨.g "least_starts", "least_starts", "least_starts", s_least_starts, [], [], none⟩
def dd_least_pour : Ob.Df := ⟨.g "least_pour", "least_pour", "least_pour", s_least_pour, [], [], none⟩
def dd_largest_spending : Ob.Df := ⟨.g "largest_spending", "largest_spending", "largest_spending", s_largest_spending, [], [], none⟩
def dd_judged : Ob.Df := ⟨.g "judged", "judged", "judged", s_judged, [], [], none⟩
def dd_Reserve___init__ : Ob.Df := ⟨.m "Reserve" "__init__", "__init__", "Reserve.__init__", s_Reserve___init__, [.int 0], [("floor", .int 0)], (some "Reserve")⟩
def dd_Envelope_put : Ob.Df := ⟨.m "Envelope" "put", "put", "Envelope.put", s_Envelope_put, [], [], none⟩
def dd_Goal_free : Ob.Df := ⟨.m "Goal" "free", "free", "Goal.free", s_Goal_free, [], [], (some "Goal")⟩
def dd_Plan___init__ : Ob.Df := ⟨.m "Plan" "__init__", "__init__", "Plan.__init__", s_Plan___init__, [], [], none⟩
def dd_Plan_levels : Ob.Df := ⟨.p "Plan" "levels", "levels", "Plan.levels", s_Plan_levels, [], [], none⟩
def dd_Plan_envelope : Ob.Df := ⟨.m "Plan" "envelope", "envelope", "Plan.envelope", s_Plan_envelope, [], [], none⟩
def dd_first_amount : Ob.Df := ⟨.g "first_amount", "first_amount", "first_amount", s_first_amount, [], [], none⟩
def dd_Goal___init__ : Ob.Df := ⟨.m "Goal" "__init__", "__init__", "Goal.__init__", s_Goal___init__, [.int 0], [], (some "Goal")⟩
def dd_Goal_put : Ob.Df := ⟨.m "Goal" "put", "put", "Goal.put", s_Goal_put, [], [], (some "Goal")⟩
def dd_Envelope_take : Ob.Df := ⟨.m "Envelope" "take", "take", "Envelope.take", s_Envelope_take, [], [], none⟩
def dd_Plan_spend : Ob.Df := ⟨.m "Plan" "spend", "spend", "Plan.spend", s_Plan_spend, [], [], none⟩
def dd_fitting_amounts : Ob.Df := ⟨.g "fitting_amounts", "fitting_amounts", "fitting_amounts", s_fitting_amounts, [], [], none⟩
def dd_Plan_pour : Ob.Df := ⟨.m "Plan" "pour", "pour", "Plan.pour", s_Plan_pour, [], [], none⟩
def dd__law_rows_right : Ob.Df := ⟨.g "_law_rows_right", "_law_rows_right", "_law_rows_right", s__law_rows_right, [], [], none⟩
def dd_Envelope_read : Ob.Df := ⟨.k "Envelope" "read", "read", "Envelope.read", s_Envelope_read, [], [], none⟩
def dd_Plan_read : Ob.Df := ⟨.k "Plan" "read", "read", "Plan.read", s_Plan_read, [], [], none⟩
def dd__law_envelopes_right : Ob.Df := ⟨.g "_law_envelopes_right", "_law_envelopes_right", "_law_envelopes_right", s__law_envelopes_right, [], [], none⟩
def dd_law : Ob.Df := ⟨.g "law", "law", "law", s_law, [], [], none⟩
def df : List Ob.Df := [dd__law_cell, dd_all_levels, dd_poured, dd_first_sums, dd_commute, dd_largest_amount, dd_with_amount, dd_shortest_script, dd_is_number_text, dd_Envelope_is_name, dd_is_integer, dd_Envelope_text, dd_Goal_reached, dd_Envelope_free, dd_Envelope_name, dd_Plan_lost, dd_Envelope_level, dd__law_digits, dd_run, dd_prefix_effects, dd_fewest_steps, dd_Envelope___init__, dd_check_amount, dd_Reserve_free, dd_same_results, dd_least_starts, dd_least_pour, dd_largest_spending, dd_judged, dd_Reserve___init__, dd_Envelope_put, dd_Goal_free, dd_Plan___init__, dd_Plan_levels, dd_Plan_envelope, dd_first_amount, dd_Goal___init__, dd_Goal_put, dd_Envelope_take, dd_Plan_spend, dd_fitting_amounts, dd_Plan_pour, dd__law_rows_right, dd_Envelope_read, dd_Plan_read, dd__law_envelopes_right, dd_law]
def ck : List Ob.Ck := [.fa (.free "all"),
  .fa (.free "any"),
  .fa (.free "bool"),
  .fa (.free "enumerate"),
  .fa (.free "int"),
  .fa (.free "isinstance"),
  .fa (.free "len"),
  .fa (.free "list"),
  .fa (.free "max"),
  .fa (.free "min"),
  .fa (.free "range"),
  .fa (.free "set"),
  .fa (.free "sorted"),
  .fa (.free "str"),
  .fa (.free "sum"),
  .fa (.free "tuple"),
  .fa (.free "zip"),
  .fa (.glo "_law_cell"),
  .fa (.glo "all_levels"),
  .fa (.glo "poured"),
  .fa (.glo "first_sums"),
  .fa (.glo "commute"),
  .fa (.glo "largest_amount"),
  .fa (.glo "with_amount"),
  .fa (.glo "shortest_script"),
  .fa (.glo "is_number_text"),
  .fa (.glo "is_integer"),
  .fa (.glo "_law_digits"),
  .fa (.glo "run"),
  .fa (.glo "prefix_effects"),
  .fa (.glo "fewest_steps"),
  .fa (.glo "check_amount"),
  .fa (.glo "same_results"),
  .fa (.glo "least_starts"),
  .fa (.glo "least_pour"),
  .fa (.glo "largest_spending"),
  .fa (.glo "judged"),
  .fa (.glo "first_amount"),
  .fa (.glo "fitting_amounts"),
  .fa (.glo "_law_rows_right"),
  .fa (.glo "_law_envelopes_right"),
  .fa (.glo "law"),
  .fa (.glo "Envelope"),
  .fa (.glo "Goal"),
  .fa (.glo "GoalReserve"),
  .fa (.glo "InvalidAmount"),
  .fa (.glo "InvalidCap"),
  .fa (.glo "InvalidEnvelopes"),
  .fa (.glo "InvalidFloor"),
  .fa (.glo "InvalidLevel"),
  .fa (.glo "InvalidName"),
  .fa (.glo "InvalidText"),
  .fa (.glo "NotEnough"),
  .fa (.glo "Plan"),
  .fa (.glo "Reserve"),
  .fa (.glo "UnknownEnvelope"),
  .fa (.str "FIGURES" "0123456789"),
  .fa (.str "LETTERS" "abcdefghijklmnopqrstuvwxyz"),
  .fa (.cls "Envelope"),
  .fa (.cls "Goal"),
  .fa (.cls "GoalReserve"),
  .fa (.cls "Plan"),
  .fa (.cls "Reserve"),
  .fa (.meth "Envelope" "free"),
  .fa (.meth "Envelope" "put"),
  .fa (.meth "Envelope" "take"),
  .fa (.meth "Envelope" "text"),
  .fa (.meth "Goal" "free"),
  .fa (.meth "Goal" "put"),
  .fa (.meth "Goal" "take"),
  .fa (.meth "Goal" "text"),
  .fa (.meth "GoalReserve" "free"),
  .fa (.meth "GoalReserve" "put"),
  .fa (.meth "GoalReserve" "take"),
  .fa (.meth "GoalReserve" "text"),
  .fa (.meth "Plan" "envelope"),
  .fa (.meth "Plan" "pour"),
  .fa (.meth "Plan" "spend"),
  .fa (.meth "Reserve" "free"),
  .fa (.meth "Reserve" "put"),
  .fa (.meth "Reserve" "take"),
  .fa (.meth "Reserve" "text"),
  .prop "Envelope" "level",
  .prop "Envelope" "name",
  .prop "Goal" "level",
  .prop "Goal" "name",
  .prop "Goal" "reached",
  .prop "GoalReserve" "level",
  .prop "GoalReserve" "name",
  .prop "GoalReserve" "reached",
  .prop "Plan" "levels",
  .prop "Plan" "lost",
  .prop "Reserve" "level",
  .prop "Reserve" "name",
  .bo (fun K => Ob.samB K "Envelope" "__init__" "Envelope"),
  .bo (fun K => Ob.samB K "Envelope" "free" "Envelope"),
  .bo (fun K => Ob.samB K "Envelope" "level" "Envelope"),
  .bo (fun K => Ob.samB K "Envelope" "name" "Envelope"),
  .bo (fun K => Ob.samB K "Envelope" "put" "Envelope"),
  .bo (fun K => Ob.samB K "Envelope" "take" "Envelope"),
  .bo (fun K => Ob.samB K "Envelope" "text" "Envelope"),
  .bo (fun K => Ob.samB K "Goal" "__init__" "Goal"),
  .bo (fun K => Ob.samB K "Goal" "free" "Goal"),
  .bo (fun K => Ob.samB K "Goal" "level" "Envelope"),
  .bo (fun K => Ob.samB K "Goal" "name" "Envelope"),
  .bo (fun K => Ob.samB K "Goal" "put" "Goal"),
  .bo (fun K => Ob.samB K "Goal" "reached" "Goal"),
  .bo (fun K => Ob.samB K "Goal" "take" "Envelope"),
  .bo (fun K => Ob.samB K "Goal" "text" "Envelope"),
  .bo (fun K => Ob.samB K "GoalReserve" "__init__" "Goal"),
  .bo (fun K => Ob.samB K "GoalReserve" "free" "Goal"),
  .bo (fun K => Ob.samB K "GoalReserve" "level" "Envelope"),
  .bo (fun K => Ob.samB K "GoalReserve" "name" "Envelope"),
  .bo (fun K => Ob.samB K "GoalReserve" "put" "Goal"),
  .bo (fun K => Ob.samB K "GoalReserve" "reached" "Goal"),
  .bo (fun K => Ob.samB K "GoalReserve" "take" "Envelope"),
  .bo (fun K => Ob.samB K "GoalReserve" "text" "Envelope"),
  .bo (fun K => Ob.samB K "Plan" "__init__" "Plan"),
  .bo (fun K => Ob.samB K "Plan" "envelope" "Plan"),
  .bo (fun K => Ob.samB K "Plan" "levels" "Plan"),
  .bo (fun K => Ob.samB K "Plan" "lost" "Plan"),
  .bo (fun K => Ob.samB K "Plan" "pour" "Plan"),
  .bo (fun K => Ob.samB K "Plan" "spend" "Plan"),
  .bo (fun K => Ob.samB K "Reserve" "__init__" "Reserve"),
  .bo (fun K => Ob.samB K "Reserve" "free" "Reserve"),
  .bo (fun K => Ob.samB K "Reserve" "level" "Envelope"),
  .bo (fun K => Ob.samB K "Reserve" "name" "Envelope"),
  .bo (fun K => Ob.samB K "Reserve" "put" "Envelope"),
  .bo (fun K => Ob.samB K "Reserve" "take" "Envelope"),
  .bo (fun K => Ob.samB K "Reserve" "text" "Envelope"),
  .exm "NotEnough" "NotEnough" true,
  .fa (.mkr "Envelope"),
  .fa (.mkr "Goal"),
  .fa (.mkr "GoalReserve"),
  .fa (.mkr "Plan"),
  .fa (.mkr "Reserve"),
  .sup "Goal" "Goal" "__init__",
  .bo (fun K => Ob.spsB K "Goal" "Goal" "__init__" "Envelope"),
  .sup "Goal" "Goal" "free",
  .bo (fun K => Ob.spsB K "Goal" "Goal" "free" "Envelope"),
  .sup "Goal" "Goal" "put",
  .bo (fun K => Ob.spsB K "Goal" "Goal" "put" "Envelope"),
  .sup "GoalReserve" "Goal" "__init__",
  .bo (fun K => Ob.spsB K "GoalReserve" "Goal" "__init__" "Reserve"),
  .sup "GoalReserve" "Goal" "free",
  .bo (fun K => Ob.spsB K "GoalReserve" "Goal" "free" "Reserve"),
  .sup "GoalReserve" "Goal" "put",
  .bo (fun K => Ob.spsB K "GoalReserve" "Goal" "put" "Envelope"),
  .sup "GoalReserve" "Reserve" "__init__",
  .bo (fun K => Ob.spsB K "GoalReserve" "Reserve" "__init__" "Envelope"),
  .sup "GoalReserve" "Reserve" "free",
  .bo (fun K => Ob.spsB K "GoalReserve" "Reserve" "free" "Envelope"),
  .sup "Reserve" "Reserve" "__init__",
  .bo (fun K => Ob.spsB K "Reserve" "Reserve" "__init__" "Envelope"),
  .sup "Reserve" "Reserve" "free",
  .bo (fun K => Ob.spsB K "Reserve" "Reserve" "free" "Envelope"),
  .fa (.exc "InvalidAmount"),
  .fa (.exc "InvalidCap"),
  .fa (.exc "InvalidEnvelopes"),
  .fa (.exc "InvalidFloor"),
  .fa (.exc "InvalidLevel"),
  .fa (.exc "InvalidName"),
  .fa (.exc "InvalidText"),
  .fa (.exc "NotEnough"),
  .fa (.exc "UnknownEnvelope"),
  .cval "Envelope" "LARGEST" 1000000,
  .cval "Plan" "MOST" 6,
  .stat "Envelope" "is_name",
  .bo (fun K => Ob.cmB K "Envelope" "read"),
  .bo (fun K => Ob.samB K "Goal" "read" "Envelope"),
  .bo (fun K => Ob.cmB K "Goal" "read"),
  .bo (fun K => Ob.cmB K "Plan" "read"),
  .fa (.noat "Envelope" "done"),
  .fa (.noat "Goal" "done"),
  .fa (.noat "Reserve" "done"),
  .fa (.noat "GoalReserve" "done"),
  .fa (.noat "Envelope" "ground"),
  .fa (.noat "Goal" "ground"),
  .fa (.noat "Reserve" "ground"),
  .fa (.noat "GoalReserve" "ground"),
  .fa (.noat "Envelope" "held"),
  .fa (.noat "Goal" "held"),
  .fa (.noat "Reserve" "held"),
  .fa (.noat "GoalReserve" "held"),
  .fa (.noat "Envelope" "label"),
  .fa (.noat "Goal" "label"),
  .fa (.noat "Reserve" "label"),
  .fa (.noat "GoalReserve" "label"),
  .fa (.noat "Envelope" "limit"),
  .fa (.noat "Goal" "limit"),
  .fa (.noat "Reserve" "limit"),
  .fa (.noat "GoalReserve" "limit"),
  .fa (.noat "Plan" "gone"),
  .fa (.noat "Plan" "row"),
  .obc,
  .ist "Envelope",
  .isc "Envelope" "Envelope" true,
  .isc "Goal" "Envelope" true,
  .isc "Reserve" "Envelope" true,
  .isc "GoalReserve" "Envelope" true,
  .isc "Plan" "Envelope" false,
  .fa (.free "super"),
  .cst]
abbrev R : PySem.W.OpenRow := PySem.W.OpenLaw.row PySem.Challenge.rw_fillorder_k24_worked_examples
abbrev hk : PySem.W.Hook := Ob.hookO 6 file ck df
def ob (s : PySem.W.SharedT) : Ob.AlO := Ob.obsOG 6 file ck df (HandSHeadRun.getT s)
abbrev loose : List Str := "_wall" :: "first_sums" :: "poured" :: "run" :: "prefix_effects" :: "commute" :: "all_levels" :: "same_results" :: "least_starts" :: "FillError" :: "InvalidName" :: "InvalidCap" :: "InvalidLevel" :: "InvalidFloor" :: "InvalidAmount" :: "InvalidText" :: "InvalidEnvelopes" :: "UnknownEnvelope" :: "NotEnough" :: "LETTERS" :: "FIGURES" :: "is_integer" :: "is_number_text" :: "check_amount" :: "Envelope" :: "Goal" :: "Reserve" :: "GoalReserve" :: "least_pour" :: "largest_spending" :: "with_amount" :: "judged" :: "first_amount" :: "largest_amount" :: "fitting_amounts" :: "fewest_steps" :: "shortest_script" :: "Plan" :: "_law_cell" :: "_law_digits" :: "_law_envelopes_right" :: "_law_rows_right" :: []
theorem run_a (w : World) : HandSHeadRun.RunV R 20000 w (fun s => (HandSHeadRun.lookL R w s, HandSHeadRun.lookS R (PySem.W.view R.prog [48]) loose s)) (true, PySem.W.openGood (PySem.W.view R.prog [48]) loose) := by
  intro os
  kernel_rfl
theorem run_c (w : World) : HandSHeadRun.RunV R 20000 w (fun s => Ob.lookC 6 ck (HandSHeadRun.getT s)) true := by
  intro os
  kernel_rfl
theorem run_d (w : World) : HandSHeadRun.RunV R 20000 w (fun s => (Ob.lookD 6 file df (HandSHeadRun.getT s), Ob.lookE 6 df (HandSHeadRun.getT s))) (true, df.map Ob.Df.val) := by
  intro os
  kernel_rfl
theorem run (w : World) : HandSHeadRun.RunEq R (PySem.W.view R.prog [48]) hk ob 20000 loose w :=
  HandSHeadRun.run_of (run_a w) (Ob.look_of (run_c w) (run_d w))
end Lw
end
namespace Fi
open PySem L2

end Fi
namespace L2
open PySem
section
variable {K : PySem.W.Frag} {H : Hp}
theorem DpAll.app : ∀ {vs us : List V} {ds es : List PyData}, DpAll K H vs ds → DpAll K H us es → DpAll K H (vs ++ us) (ds ++ es)
  | _, _, _, _, .nil, h => h
  | _, _, _, _, .cons h t, q => .cons h (DpAll.app t q)
theorem DpAll.tk : ∀ {vs : List V} {ds : List PyData} (n : Nat), DpAll K H vs ds → DpAll K H (vs.take n) (ds.take n)
  | _, _, 0, _ => .nil
  | _, _, _ + 1, .nil => .nil
  | _, _, n + 1, .cons h t => .cons h (DpAll.tk n t)
theorem DpAll.dr : ∀ {vs : List V} {ds : List PyData} (n : Nat), DpAll K H vs ds → DpAll K H (vs.drop n) (ds.drop n)
  | _, _, 0, h => h
  | _, _, _ + 1, .nil => .nil
  | _, _, n + 1, .cons _ t => DpAll.dr n t
theorem Dp.int_eq {v : V} {i : Int} (h : Dp K H v (.int i)) : v = .int i := by cases h; rfl
theorem Dp.bl_eq {v : V} {b : Bool} (h : Dp K H v (.bool b)) : v = .bl b := by cases h; rfl
theorem Dp.str_eq {v : V} {x : Str} (h : Dp K H v (.str x)) : v = .str x := by cases h; rfl
theorem Dp.non_eq {v : V} (h : Dp K H v .none) : v = .non := by cases h; rfl
theorem Dp.tup_of {v : V} {ds : List PyData} (h : Dp K H v (.tuple ds)) : ∃ a xs, v = .ref a ∧ SqT K H a xs ∧ DpAll K H xs ds := by
  cases h with
  | tup hs ha => exact ⟨_, _, rfl, hs, ha⟩
theorem Dp.lst_of {v : V} {ds : List PyData} (h : Dp K H v (.list ds)) : ∃ a xs, v = .ref a ∧ SqL K H a xs ∧ DpAll K H xs ds := by
  cases h with
  | lst hs ha => exact ⟨_, _, rfl, hs, ha⟩
theorem DpAll.ints : ∀ {ns : List Int} {vs : List V}, DpAll K H vs (ns.map PyData.int) → vs = ns.map V.int
  | [], vs, h => by cases h; rfl
  | n :: ns, vs, h => by
    cases h with
    | cons h t => rw [h.int_eq, DpAll.ints t]; rfl
theorem DpAll.bools : ∀ {ns : List Bool} {vs : List V}, DpAll K H vs (ns.map PyData.bool) → vs = ns.map V.bl
  | [], vs, h => by cases h; rfl
  | n :: ns, vs, h => by
    cases h with
    | cons h t => rw [h.bl_eq, DpAll.bools t]; rfl
end

end L2
namespace Fi
open PySem L2
abbrev FL := En → Option (List PyData)
abbrev FT := En → Option Bool
abbrev FS := En → Option Out

theorem same_both {Hf H : Hp} {p : Addr} {o : HO} (i : Same Hf H) : Same (upd Hf p o) (upd H p o) := fun b x e => by
  by_cases hb : b = p
  · subst hb
    rw [upd_same] at e ⊢
    exact e
  · rw [upd_ne hb] at e ⊢
    exact i b x e
theorem Stp.new {Hf H : Hp} {p : Addr} {o : HO} (i : Same Hf H) (h : H p = none) : Stp Hf H (upd Hf p o) (upd H p o) :=
  ⟨same_new (i.free h), same_both i, same_new h, fun a x e q => by
    rw [upd_ne (ne_of_none e h)]
    exact q⟩
/-- what was hidden and new may be pointed to -/
theorem Stp.show {Hf H Hf' H' : Hp} {p : Addr} {o : HO} (s : Stp Hf H Hf' H') (h : H p = none) (h1 : Hf' p = none) (h2 : H' p = some o) : Stp Hf H (upd Hf' p o) H' :=
  ⟨s.f.trans (same_new h1), fun b x e => by
    by_cases hb : b = p
    · subst hb
      rw [upd_same] at e
      rw [h2, e]
    · rw [upd_ne hb] at e
      exact s.i b x e, s.h, fun a x e q => by
    rw [upd_ne (ne_of_none e h)]
    exact s.n a x e q⟩

section
variable {K : PySem.W.Frag} {Z : Hp × Hp} {Hf H Hf' H' : Hp} {env : En} {σ : L2.St}
theorem Rel.step (R : Rel K Z Hf H env σ) (s : Stp Hf H Hf' H') : Rel K Z Hf' H' env σ := by
  refine ⟨R.st.trans s, R.len, fun i x e => ?_, R.ds⟩
  obtain ⟨v, h1, h2⟩ := R.sl i x e
  refine ⟨v, h1, ?_⟩
  cases x with
  | val d => exact Dp_up s.f h2
  | own l =>
    obtain ⟨p, vs, a, b, c, d, e⟩ := h2
    exact ⟨p, vs, a, b, s.n p _ d c, s.h p _ d, DpAll_up s.f e⟩
  | dct l =>
    obtain ⟨p, xs, a, b, c, d, e, f⟩ := h2
    exact ⟨p, xs, a, b, s.n p _ d c, s.h p _ d, e, f.up s.f⟩
/-- a slot is forgotten, in the functions' view -/
theorem Rel.drop (R : Rel K Z Hf H env σ) (i : Nat) (o : Option V) : Rel K Z Hf H (env.set i none) (σ.set i o) := by
  refine ⟨R.st, by rw [List.length_set, List.length_set, R.len], fun j s e => ?_, fun j k x y p ej ek hj hk => ?_⟩
  · rcases set_cases e with ⟨rfl, q⟩ | ⟨hn, q⟩
    · cases q
    · obtain ⟨w, h1, h2⟩ := R.sl j s q
      exact ⟨w, by rw [List.getElem?_set_ne hn]; exact h1, h2⟩
  · rcases set_cases ej with ⟨rfl, q⟩ | ⟨hn, q⟩
    · cases q
    · rcases set_cases ek with ⟨rfl, q2⟩ | ⟨hn2, q2⟩
      · cases q2
      · rw [List.getElem?_set_ne hn] at hj
        rw [List.getElem?_set_ne hn2] at hk
        exact R.ds j k x y p q q2 hj hk
/-- a new list is stored, to be changed here alone -/
theorem Rel.setOwn {p : Addr} {vs : List V} {ds : List PyData} (R : Rel K Z Hf H env σ) (s : Stp Hf H Hf' H') (i : Nat) (h0 : H p = none) (h1 : Hf' p = none) (h2 : H' p = some (.lst vs)) (h3 : DpAll K Hf' vs ds) :
    Rel K Z Hf' H' (env.set i (some (.own ds))) (σ.set i (some (.ref p))) := by
  have R' := R.step s
  have hz : Z.2 p = none := R.st.h.free h0
  -- an own slot of before stands elsewhere
  have ne : ∀ (j : Nat) (x : List PyData) (q : Addr), env[j]? = some (some (Sl.own x)) → σ[j]? = some (some (V.ref q)) → q ≠ p := fun j x q e1 e2 => by
    obtain ⟨v, g1, g2⟩ := R.sl j _ e1
    obtain ⟨r, ws, rfl, _, _, g3, _⟩ := g2
    rw [e2] at g1
    cases g1
    exact ne_of_none g3 h0
  refine ⟨R'.st, by rw [List.length_set, List.length_set, R.len], fun j t e => ?_, fun j k x y q ej ek hj hk => ?_⟩
  · rcases set_cases e with ⟨rfl, z⟩ | ⟨hn, z⟩
    · cases z
      have hl := set_some_lt e
      exact ⟨.ref p, List.getElem?_set_self (by rw [← R.len]; exact hl), p, vs, rfl, hz, h1, h2, h3⟩
    · obtain ⟨w, g1, g2⟩ := R'.sl j t z
      exact ⟨w, by rw [List.getElem?_set_ne hn]; exact g1, g2⟩
  · rcases set_cases ej with ⟨rfl, z⟩ | ⟨hn, z⟩
    · rcases set_cases ek with ⟨rfl, z2⟩ | ⟨hn2, z2⟩
      · rfl
      · have hl := set_some_lt ej
        rw [List.getElem?_set_self (by rw [← R.len]; exact hl)] at hj
        cases hj
        rw [List.getElem?_set_ne hn2] at hk
        exact absurd rfl (ne k y _ z2 hk)
    · rcases set_cases ek with ⟨rfl, z2⟩ | ⟨hn2, z2⟩
      · have hl := set_some_lt ek
        rw [List.getElem?_set_self (by rw [← R.len]; exact hl)] at hk
        cases hk
        rw [List.getElem?_set_ne hn] at hj
        exact absurd rfl (ne j x _ z hj)
      · rw [List.getElem?_set_ne hn] at hj
        rw [List.getElem?_set_ne hn2] at hk
        exact R.ds j k x y q z z2 hj hk
/-- the list of an own slot is changed -/
theorem Rel.mut {i : Nat} {l l' : List PyData} {p : Addr} {vs' : List V} (R : Rel K Z Hf H env σ) (he : env[i]? = some (some (.own l))) (hs : σ[i]? = some (some (.ref p))) (h3 : DpAll K Hf vs' l') :
    Rel K Z Hf (upd H p (.lst vs')) (env.set i (some (.own l'))) σ := by
  obtain ⟨v, g1, q, vs, rfl, hz, hf, hp, hd⟩ := R.sl i _ he
  rw [hs] at g1
  cases g1
  have hi : i < env.length := (List.getElem?_eq_some_iff.mp he).1
  refine ⟨⟨R.st.f, fun b o e => ?_, fun b o e => ?_, R.st.n⟩, by rw [List.length_set, R.len], fun j t e => ?_, fun j k x y q ej ek hj hk => ?_⟩
  · rw [upd_ne (ne_of_none e hf)]
    exact R.st.i b o e
  · rw [upd_ne (ne_of_none e hz)]
    exact R.st.h b o e
  · rcases set_cases e with ⟨rfl, z⟩ | ⟨hn, z⟩
    · cases z
      exact ⟨.ref p, hs, p, vs', rfl, hz, hf, upd_same, h3⟩
    · obtain ⟨w, g1, g2⟩ := R.sl j t z
      refine ⟨w, g1, ?_⟩
      cases t with
      | val d => exact g2
      | own m =>
        obtain ⟨r, ws, rfl, a, b, c, d⟩ := g2
        refine ⟨r, ws, rfl, a, b, ?_, d⟩
        have hr : r ≠ p := fun q => hn (R.ds i j l m p he z hs (by rw [g1, q]))
        rw [upd_ne hr]
        exact c
      | dct m =>
        obtain ⟨r, xs, rfl, a, b, c, d⟩ := g2
        exact ⟨r, xs, rfl, a, b, by rw [upd_ne (ne_of c hp (fun z => nomatch z))]; exact c, d⟩
  · have e1 : ∃ x', env[j]? = some (some (.own x')) := by
      rcases set_cases ej with ⟨rfl, z⟩ | ⟨hn, z⟩
      · exact ⟨l, he⟩
      · exact ⟨x, z⟩
    have e2 : ∃ y', env[k]? = some (some (.own y')) := by
      rcases set_cases ek with ⟨rfl, z⟩ | ⟨hn, z⟩
      · exact ⟨l, he⟩
      · exact ⟨y, z⟩
    obtain ⟨x', e1⟩ := e1
    obtain ⟨y', e2⟩ := e2
    exact R.ds j k x' y' q e1 e2 hj hk
/-- an own slot becomes a value: from here on it is read alone -/
def frz (i : Nat) (env : En) : En := match env[i]? with
  | some (some (.own l)) => env.set i (some (.val (.list l)))
  | _ => env
theorem Rel.frz (R : Rel K Z Hf H env σ) (i : Nat) : ∃ Hf', Same Hf Hf' ∧ Rel K Z Hf' H (frz i env) σ := by
  unfold Fi.frz
  split
  · rename_i l he
    obtain ⟨v, hs, p, vs, rfl, hz, hf, hp, hd⟩ := R.sl i _ he
    have hsm : Same Hf (upd Hf p (.lst vs)) := same_new hf
    refine ⟨upd Hf p (.lst vs), hsm, ⟨⟨R.st.f.trans hsm, fun b o e => ?_, R.st.h, fun a o e q => ?_⟩, by rw [List.length_set, R.len], fun j t e => ?_, fun j k x y q ej ek hj hk => ?_⟩⟩
    · by_cases hb : b = p
      · subst hb
        rw [upd_same] at e
        rw [hp, e]
      · rw [upd_ne hb] at e
        exact R.st.i b o e
    · rw [upd_ne (ne_of_none e hz)]
      exact R.st.n a o e q
    · rcases set_cases e with ⟨rfl, z⟩ | ⟨hn, z⟩
      · cases z
        exact ⟨.ref p, hs, .lst (SqL.of upd_same) (DpAll_up hsm hd)⟩
      · obtain ⟨w, g1, g2⟩ := R.sl j t z
        refine ⟨w, g1, ?_⟩
        cases t with
        | val d => exact Dp_up hsm g2
        | own m =>
          obtain ⟨r, ws, rfl, a, b, c, d⟩ := g2
          have hr : r ≠ p := fun q => hn (R.ds i j l m p he z hs (by rw [g1, q]))
          exact ⟨r, ws, rfl, a, by rw [upd_ne hr]; exact b, c, DpAll_up hsm d⟩
        | dct m =>
          obtain ⟨r, xs, rfl, a, b, c, d, f⟩ := g2
          exact ⟨r, xs, rfl, a, by rw [upd_ne (ne_of c hp (fun z => nomatch z))]; exact b, c, d, f.up hsm⟩
    · rcases set_cases ej with ⟨rfl, z⟩ | ⟨hn, z⟩
      · cases z
      · rcases set_cases ek with ⟨rfl, z2⟩ | ⟨hn2, z2⟩
        · cases z2
        · exact R.ds j k x y q z z2 hj hk
  · exact ⟨Hf, Same.refl _, R⟩
end

def tE (K : PySem.W.Frag) (f : FE) : TE := fun σ H Q => ∃ (Z : Hp × Hp) (Hf : Hp) (env : En) (d : PyData), Rel K Z Hf H env σ ∧ f env = some d ∧ ∀ v H' Hf', Stp Hf H Hf' H' → Dp K Hf' v d → Q v H'
/-- a new list, hidden as yet -/
def tL (K : PySem.W.Frag) (f : FL) : TE := fun σ H Q => ∃ (Z : Hp × Hp) (Hf : Hp) (env : En) (ds : List PyData), Rel K Z Hf H env σ ∧ f env = some ds ∧
  ∀ p vs H' Hf', Stp Hf H Hf' H' → H p = none → Hf' p = none → H' p = some (.lst vs) → DpAll K Hf' vs ds → Q (.ref p) H'
def tA (K : PySem.W.Frag) (f : FL) : TA := fun σ H Q => ∃ (Z : Hp × Hp) (Hf : Hp) (env : En) (ds : List PyData), Rel K Z Hf H env σ ∧ f env = some ds ∧ ∀ vs H' Hf', Stp Hf H Hf' H' → DpAll K Hf' vs ds → Q vs H'
def tT (K : PySem.W.Frag) (f : FT) : TT := fun σ H Q => ∃ (Z : Hp × Hp) (Hf : Hp) (env : En) (b : Bool), Rel K Z Hf H env σ ∧ f env = some b ∧ ∀ H' Hf', Stp Hf H Hf' H' → Q b H'
def tO (K : PySem.W.Frag) (f : En → Option (Option Int)) : TO := fun σ H Q => ∃ (Z : Hp × Hp) (Hf : Hp) (env : En) (o : Option Int), Rel K Z Hf H env σ ∧ f env = some o ∧ ∀ H' Hf', Stp Hf H Hf' H' → Q o H'
def tS (K : PySem.W.Frag) (f : FS) : TS := fun D σ H => ∃ (Z : Hp × Hp) (Hf : Hp) (env : En) (o : Out), Rel K Z Hf H env σ ∧ f env = some o ∧ Fin K Z Hf D o
section
variable {X : Cx}
theorem pe_le {e : Expr} {t t' : TE} (h : PE X e t) (hm : ∀ σ H Q, t' σ H Q → t σ H Q) : PE X e t' := ⟨fun pins s σ H Q I q => h.run pins s σ H Q I (hm σ H Q q)⟩
theorem pt_le {e : Expr} {t t' : TT} (h : PT X e t) (hm : ∀ σ H Q, t' σ H Q → t σ H Q) : PT X e t' := ⟨fun pins s σ H Q I q => h.run pins s σ H Q I (hm σ H Q q)⟩
theorem pa_le {e : List Expr} {t t' : TA} (h : PA X e t) (hm : ∀ σ H Q, t' σ H Q → t σ H Q) : PA X e t' := ⟨fun pos pins s σ H Q I q => h.run pos pins s σ H Q I (hm σ H Q q)⟩
theorem po_le {e : Option Expr} {t t' : TO} (h : PO X e t) (hm : ∀ σ H Q, t' σ H Q → t σ H Q) : PO X e t' := ⟨fun pins s σ H Q I q => h.run pins s σ H Q I (hm σ H Q q)⟩
theorem ps_le {e : Stmt} {t t' : TS} (h : PS X e t) (hm : ∀ D σ H, t' D σ H → t D σ H) : PS X e t' := ⟨fun pins s σ H D I q => h.run pins s σ H D I (hm D σ H q)⟩
theorem pss_le {e : List Stmt} {t t' : TS} (h : PSs X e t) (hm : ∀ D σ H, t' D σ H → t D σ H) : PSs X e t' := ⟨fun pins s σ H D I q => h.run pins s σ H D I (hm D σ H q)⟩
theorem pi_le {tg e : Expr} {t t' : TI} (h : PI X tg e t) (hm : ∀ σ H R, t' σ H R → t σ H R) : PI X tg e t' := ⟨fun pins s σ H R I q => h.run pins s σ H R I (hm σ H R q)⟩
theorem pg_le {e : Expr} {t t' : TG} (h : PG X e t) (hm : ∀ v σ H Q, t' v σ H Q → t v σ H Q) : PG X e t' := ⟨fun pins s σ H v u Q I r q => h.run pins s σ H v u Q I r (hm v σ H Q q)⟩
end
end Fi

namespace Fi
open PySem L2

def rD2 (K : PySem.W.Frag) (F : PyData → PyData → Option PyData) : R2 := fun x y H Q => ∃ (Hf : Hp) (dx dy dz : PyData), Same Hf H ∧ Dp K Hf x dx ∧ Dp K Hf y dy ∧ F dx dy = some dz ∧ ∀ v H' Hf', Stp Hf H Hf' H' → Dp K Hf' v dz → Q v H'
abbrev OpD (X : Cx) (f : Value → Value → Sem Value) (F : PyData → PyData → Option PyData) : Prop := OpR X f (rD2 X.K F)
def rD1 (K : PySem.W.Frag) (F : PyData → Option PyData) : V → Hp → VK → Prop := fun x H Q => ∃ (Hf : Hp) (dx dz : PyData), Same Hf H ∧ Dp K Hf x dx ∧ F dx = some dz ∧ ∀ v H' Hf', Stp Hf H Hf' H' → Dp K Hf' v dz → Q v H'
def rDc (K : PySem.W.Frag) (F : List PyData → Option PyData) : List V → Hp → VK → Prop := fun vs H Q => ∃ (Hf : Hp) (ds : List PyData) (dz : PyData), Same Hf H ∧ DpAll K Hf vs ds ∧ F ds = some dz ∧ ∀ v H' Hf', Stp Hf H Hf' H' → Dp K Hf' v dz → Q v H'
abbrev CallD (X : Cx) (f : Value) (F : List PyData → Option PyData) : Prop := CallR X f (rDc X.K F)
/-- a new list comes of it -/
def rDcL (K : PySem.W.Frag) (F : List PyData → Option (List PyData)) : List V → Hp → VK → Prop := fun vs H Q => ∃ (Hf : Hp) (ds dz : List PyData), Same Hf H ∧ DpAll K Hf vs ds ∧ F ds = some dz ∧ ∀ p us H' Hf', Stp Hf H Hf' H' → H p = none → Hf' p = none → H' p = some (.lst us) → DpAll K Hf' us dz → Q (.ref p) H'
abbrev CallL (X : Cx) (f : Value) (F : List PyData → Option (List PyData)) : Prop := CallR X f (rDcL X.K F)

def fAdd : PyData → PyData → Option PyData
  | .int a, .int b => some (.int (a + b))
  | .tuple a, .tuple b => if a.length + b.length ≤ 100000 then some (.tuple (a ++ b)) else none
  | .str a, .str b => if a.length + b.length ≤ 100000 then some (.str (a ++ b)) else none
  | _, _ => none
def fSub : PyData → PyData → Option PyData
  | .int a, .int b => some (.int (a - b))
  | _, _ => none
def fMul : PyData → PyData → Option PyData
  | .int a, .int b => if (-(2 ^ 64) < a ∧ a < 2 ^ 64) ∨ (-(2 ^ 64) < b ∧ b < 2 ^ 64) then some (.int (a * b)) else none
  | _, _ => none
def fDiv : PyData → PyData → Option PyData
  | .int a, .int b => if 0 < b ∧ b < 1073741824 then some (.int (a / b)) else none
  | _, _ => none
def fMod : PyData → PyData → Option PyData
  | .int a, .int b => if 0 < b then some (.int (a % b)) else none
  | _, _ => none
def fPow : PyData → PyData → Option PyData
  | .int a, .int b => if 0 ≤ b ∧ b ≤ 1000000 ∧ a.natAbs < 2 ^ 64 then some (.int (a ^ b.toNat)) else none
  | _, _ => none
def fLt : PyData → PyData → Option PyData
  | .int a, .int b => some (.bool (decide (a < b)))
  | _, _ => none
def fLe : PyData → PyData → Option PyData
  | .int a, .int b => some (.bool (decide (a ≤ b)))
  | _, _ => none
def fGt : PyData → PyData → Option PyData
  | .int a, .int b => some (.bool (decide (b < a)))
  | _, _ => none
def fGe : PyData → PyData → Option PyData
  | .int a, .int b => some (.bool (decide (b ≤ a)))
  | _, _ => none
def fEq : PyData → PyData → Option PyData
  | .int a, .int b => some (.bool (decide (a = b)))
  | .str a, .str b => some (.bool (decide (a = b)))
  | .bool a, .bool b => some (.bool (decide (a = b)))
  | a, b => if SeqAt.shaped a = true ∧ SeqAt.shaped b = true then some (.bool (PyData.eqv a b)) else none
def fNe : PyData → PyData → Option PyData
  | .int a, .int b => some (.bool (!decide (a = b)))
  | .str a, .str b => some (.bool (!decide (a = b)))
  | .bool a, .bool b => some (.bool (!decide (a = b)))
  | a, b => if SeqAt.shaped a = true ∧ SeqAt.shaped b = true then some (.bool (!PyData.eqv a b)) else none
def isN : PyData → Bool
  | .none => true
  | _ => false
def fIs : PyData → PyData → Option PyData
  | a, .none => some (.bool (isN a))
  | .bool a, .bool b => some (.bool (decide (a = b)))
  | _, _ => none
def fIsNot : PyData → PyData → Option PyData
  | a, .none => some (.bool (!isN a))
  | .bool a, .bool b => some (.bool (!decide (a = b)))
  | _, _ => none
def fIx : PyData → PyData → Option PyData
  | .list l, .int i => atI l i
  | .tuple l, .int i => atI l i
  | _, _ => none
def fNeg : PyData → Option PyData
  | .int i => some (.int (-i))
  | _ => none
section
variable {X : Cx}
theorem od_sub : OpD X (binaryOp .Sub) fSub := by
  intro pins s σ H x y v u Q I rx ry ⟨Hf, dx, dy, dz, hi, hx, hy, hf, k⟩
  unfold fSub at hf
  split at hf
  · cases hf
    cases hx.int_eq
    cases hy.int_eq
    exact op_sub pins s σ H _ _ v u Q I rx ry ⟨_, _, rfl, rfl, k _ _ _ (.refl hi) (.int _)⟩
  · cases hf
theorem od_mul : OpD X (binaryOp .Mult) fMul := by
  intro pins s σ H x y v u Q I rx ry ⟨Hf, dx, dy, dz, hi, hx, hy, hf, k⟩
  unfold fMul at hf
  split at hf
  · split at hf
    · rename_i hc
      cases hf
      cases hx.int_eq
      cases hy.int_eq
      exact op_mul pins s σ H _ _ v u Q I rx ry ⟨_, _, rfl, rfl, hc, k _ _ _ (.refl hi) (.int _)⟩
    · cases hf
  · cases hf
theorem od_div : OpD X (binaryOp .FloorDiv) fDiv := by
  intro pins s σ H x y v u Q I rx ry ⟨Hf, dx, dy, dz, hi, hx, hy, hf, k⟩
  unfold fDiv at hf
  split at hf
  · split at hf
    · rename_i hc
      cases hf
      cases hx.int_eq
      cases hy.int_eq
      exact op_fdiv pins s σ H _ _ v u Q I rx ry ⟨_, _, rfl, rfl, hc, k _ _ _ (.refl hi) (.int _)⟩
    · cases hf
  · cases hf
theorem od_mod : OpD X (binaryOp .Mod) fMod := by
  intro pins s σ H x y v u Q I rx ry ⟨Hf, dx, dy, dz, hi, hx, hy, hf, k⟩
  unfold fMod at hf
  split at hf
  · split at hf
    · rename_i hc
      cases hf
      cases hx.int_eq
      cases hy.int_eq
      exact op_mod pins s σ H _ _ v u Q I rx ry ⟨_, _, rfl, rfl, hc, k _ _ _ (.refl hi) (.int _)⟩
    · cases hf
  · cases hf
theorem od_pow : OpD X (binaryOp .Pow) fPow := by
  intro pins s σ H x y v u Q I rx ry ⟨Hf, dx, dy, dz, hi, hx, hy, hf, k⟩
  unfold fPow at hf
  split at hf
  · split at hf
    · rename_i hc
      cases hf
      cases hx.int_eq
      cases hy.int_eq
      exact op_pow pins s σ H _ _ v u Q I rx ry ⟨_, _, rfl, rfl, hc, k _ _ _ (.refl hi) (.int _)⟩
    · cases hf
  · cases hf
theorem size_le {n : Nat} (h : n ≤ 100000) : n ≤ sizeLine := Nat.le_trans h (by decide)
theorem od_add : OpD X (binaryOp .Add) fAdd := by
  intro pins s σ H x y v u Q I rx ry ⟨Hf, dx, dy, dz, hi, hx, hy, hf, k⟩
  unfold fAdd at hf
  split at hf
  · cases hf
    cases hx.int_eq
    cases hy.int_eq
    exact op_add pins s σ H _ _ v u Q I rx ry ⟨_, _, rfl, rfl, k _ _ _ (.refl hi) (.int _)⟩
  · split at hf
    · rename_i a b hc
      cases hf
      obtain ⟨p, xs, rfl, hp, ha⟩ := hx.tup_of
      obtain ⟨q, ys, rfl, hq, hb⟩ := hy.tup_of
      refine op_catA pins s σ H _ _ v u Q I rx ry ⟨p, q, xs, ys, rfl, rfl, sqT_up hi hp, sqT_up hi hq, size_le (by rw [ha.len, hb.len]; exact hc), fun e => ?_, fun e e2 => ?_, fun e e2 r hr => ?_⟩
      · subst e
        cases ha
        exact k _ _ _ (.refl hi) hy
      · subst e2
        cases hb
        refine k _ _ _ (.refl hi) ?_
        rw [List.append_nil]
        exact hx
      · have st := Stp.new (o := .tup (xs ++ ys)) hi hr
        exact k _ _ _ st (.tup (SqT.of upd_same) (DpAll_up st.f (ha.app hb)))
    · cases hf
  · split at hf
    · rename_i a b hc
      cases hf
      cases hx.str_eq
      cases hy.str_eq
      exact op_add_str pins s σ H _ _ v u Q I rx ry ⟨_, _, rfl, rfl, size_le hc, k _ _ _ (.refl hi) (.str _)⟩
    · cases hf
  · cases hf
theorem od_lt : OpD X (compareOp .Lt) fLt := by
  intro pins s σ H x y v u Q I rx ry ⟨Hf, dx, dy, dz, hi, hx, hy, hf, k⟩
  unfold fLt at hf
  split at hf
  · cases hf
    cases hx.int_eq
    cases hy.int_eq
    exact op_lt pins s σ H _ _ v u Q I rx ry ⟨_, _, rfl, rfl, k _ _ _ (.refl hi) (.bl _)⟩
  · cases hf
theorem od_le : OpD X (compareOp .LtE) fLe := by
  intro pins s σ H x y v u Q I rx ry ⟨Hf, dx, dy, dz, hi, hx, hy, hf, k⟩
  unfold fLe at hf
  split at hf
  · cases hf
    cases hx.int_eq
    cases hy.int_eq
    exact op_le pins s σ H _ _ v u Q I rx ry ⟨_, _, rfl, rfl, k _ _ _ (.refl hi) (.bl _)⟩
  · cases hf
theorem od_gt : OpD X (compareOp .Gt) fGt := by
  intro pins s σ H x y v u Q I rx ry ⟨Hf, dx, dy, dz, hi, hx, hy, hf, k⟩
  unfold fGt at hf
  split at hf
  · cases hf
    cases hx.int_eq
    cases hy.int_eq
    exact op_gt pins s σ H _ _ v u Q I rx ry ⟨_, _, rfl, rfl, k _ _ _ (.refl hi) (.bl _)⟩
  · cases hf
theorem od_ge : OpD X (compareOp .GtE) fGe := by
  intro pins s σ H x y v u Q I rx ry ⟨Hf, dx, dy, dz, hi, hx, hy, hf, k⟩
  unfold fGe at hf
  split at hf
  · cases hf
    cases hx.int_eq
    cases hy.int_eq
    exact op_ge pins s σ H _ _ v u Q I rx ry ⟨_, _, rfl, rfl, k _ _ _ (.refl hi) (.bl _)⟩
  · cases hf
theorem dec_vi {a b : Int} : decide (V.int a = V.int b) = decide (a = b) := by simp
theorem dec_vs {a b : Str} : decide (V.str a = V.str b) = decide (a = b) := by simp
theorem dec_vb {a b : Bool} : decide (V.bl a = V.bl b) = decide (a = b) := by simp
theorem od_eq (hu : X.A.units + 64 < cLine) : OpD X (compareOp .Eq) fEq := by
  intro pins s σ H x y v u Q I rx ry ⟨Hf, dx, dy, dz, hi, hx, hy, hf, k⟩
  unfold fEq at hf
  split at hf
  · cases hf
    cases hx.int_eq
    cases hy.int_eq
    exact op_eq pins s σ H _ _ v u Q I rx ry ⟨rfl, by rw [dec_vi]; exact k _ _ _ (.refl hi) (.bl _)⟩
  · cases hf
    cases hx.str_eq
    cases hy.str_eq
    exact op_eq pins s σ H _ _ v u Q I rx ry ⟨rfl, by rw [dec_vs]; exact k _ _ _ (.refl hi) (.bl _)⟩
  · cases hf
    cases hx.bl_eq
    cases hy.bl_eq
    exact op_eq pins s σ H _ _ v u Q I rx ry ⟨rfl, by rw [dec_vb]; exact k _ _ _ (.refl hi) (.bl _)⟩
  · split at hf
    · rename_i hc
      cases hf
      exact op_eqD hu pins s σ H _ _ v u Q I rx ry ⟨_, _, Dp_up hi hx, Dp_up hi hy, hc.1, hc.2, k _ _ _ (.refl hi) (.bl _)⟩
    · cases hf
theorem od_ne (hu : X.A.units + 64 < cLine) : OpD X (compareOp .NotEq) fNe := by
  intro pins s σ H x y v u Q I rx ry ⟨Hf, dx, dy, dz, hi, hx, hy, hf, k⟩
  unfold fNe at hf
  split at hf
  · cases hf
    cases hx.int_eq
    cases hy.int_eq
    exact op_ne pins s σ H _ _ v u Q I rx ry ⟨rfl, by rw [dec_vi]; exact k _ _ _ (.refl hi) (.bl _)⟩
  · cases hf
    cases hx.str_eq
    cases hy.str_eq
    exact op_ne pins s σ H _ _ v u Q I rx ry ⟨rfl, by rw [dec_vs]; exact k _ _ _ (.refl hi) (.bl _)⟩
  · cases hf
    cases hx.bl_eq
    cases hy.bl_eq
    exact op_ne pins s σ H _ _ v u Q I rx ry ⟨rfl, by rw [dec_vb]; exact k _ _ _ (.refl hi) (.bl _)⟩
  · split at hf
    · rename_i hc
      cases hf
      exact op_neD hu pins s σ H _ _ v u Q I rx ry ⟨_, _, Dp_up hi hx, Dp_up hi hy, hc.1, hc.2, k _ _ _ (.refl hi) (.bl _)⟩
    · cases hf
theorem isN_dec {K : PySem.W.Frag} {H : Hp} {v : V} {d : PyData} (h : Dp K H v d) : decide (v = .non) = isN d := by
  cases h <;> simp [isN]
theorem od_is : OpD X (compareOp .Is) fIs := by
  intro pins s σ H x y v u Q I rx ry ⟨Hf, dx, dy, dz, hi, hx, hy, hf, k⟩
  unfold fIs at hf
  split at hf
  · cases hf
    cases hy.non_eq
    exact op_isN pins s σ H _ _ v u Q I rx ry ⟨rfl, by rw [isN_dec hx]; exact k _ _ _ (.refl hi) (.bl _)⟩
  · cases hf
    cases hx.bl_eq
    cases hy.bl_eq
    exact op_is_bl pins s σ H _ _ v u Q I rx ry ⟨_, _, rfl, rfl, k _ _ _ (.refl hi) (.bl _)⟩
  · cases hf
theorem od_isNot : OpD X (compareOp .IsNot) fIsNot := by
  intro pins s σ H x y v u Q I rx ry ⟨Hf, dx, dy, dz, hi, hx, hy, hf, k⟩
  unfold fIsNot at hf
  split at hf
  · cases hf
    cases hy.non_eq
    exact op_notN pins s σ H _ _ v u Q I rx ry ⟨rfl, by rw [isN_dec hx]; exact k _ _ _ (.refl hi) (.bl _)⟩
  · cases hf
    cases hx.bl_eq
    cases hy.bl_eq
    exact op_isnot_bl pins s σ H _ _ v u Q I rx ry ⟨_, _, rfl, rfl, k _ _ _ (.refl hi) (.bl _)⟩
  · cases hf
theorem atI_dp {K : PySem.W.Frag} {H : Hp} {vs : List V} {ds : List PyData} {i : Int} {d : PyData} (h : DpAll K H vs ds) (e : atI ds i = some d) : ∃ v, atI vs i = some v ∧ Dp K H v d := by
  unfold atI at e ⊢
  rw [h.len]
  cases q : ixN ds.length i with
  | none =>
    rw [q] at e
    cases e
  | some j =>
    rw [q] at e
    exact h.at e
theorem od_ix : IxR X (rD2 X.K fIx) := by
  intro value slice pins s σ H x y v u Q I rx ry ⟨Hf, dx, dy, dz, hi, hx, hy, hf, k⟩ hs
  unfold fIx at hf
  split at hf
  · obtain ⟨p, xs, rfl, hp, ha⟩ := hx.lst_of
    cases hy.int_eq
    obtain ⟨w, e, hw⟩ := atI_dp ha hf
    exact ix_list value slice pins s σ H _ _ v u Q I rx ry ⟨p, xs, _, w, rfl, rfl, hi.seq hp, e, k _ _ _ (.refl hi) hw⟩ hs
  · obtain ⟨p, xs, rfl, hp, ha⟩ := hx.tup_of
    cases hy.int_eq
    obtain ⟨w, e, hw⟩ := atI_dp ha hf
    exact ix_tup value slice pins s σ H _ _ v u Q I rx ry ⟨p, xs, _, w, rfl, rfl, sqT_up hi hp, e, k _ _ _ (.refl hi) hw⟩ hs
  · cases hf
theorem od_neg : UnR X (unaryOp .USub) (rD1 X.K fNeg) := by
  intro pins s σ H x v Q I rx ⟨Hf, dx, dz, hi, hx, hf, k⟩
  unfold fNeg at hf
  split at hf
  · cases hf
    cases hx.int_eq
    exact un_neg pins s σ H _ v Q I rx ⟨_, rfl, k _ _ _ (.refl hi) (.int _)⟩
  · cases hf

def eVar (i : Nat) : FE := fun env => match env[i]? with
  | some (some (.val d)) => some d
  | _ => none
def eC (d : PyData) : FE := fun _ => some d
variable {a b c e : Expr} {f g h : FE} {pos : Pos} {F : PyData → PyData → Option PyData}
theorem Option_bind_some {α β : Type} {o : Option α} {q : α → Option β} {y : β} (h : o.bind q = some y) : ∃ x, o = some x ∧ q x = some y := by
  cases o with
  | none => cases h
  | some x => exact ⟨x, rfl, h⟩
theorem x_var (i : Nat) {x : Str} (hN : X.N[i]? = some x := by rfl) (hv : Vis X.env.scope x := by first | exact Or.inl rfl | exact Or.inr (Or.inl rfl) | exact Or.inr (Or.inr rfl)) (hd : (x == ("__debug__" : Str)) = false := by decide)
    (hcd : (x == ("__classdict__" : Str)) = false := by decide) : PE X (.Name x pos) (tE X.K (eVar i)) := by
  refine pe_le (pe_var hN hv hd hcd) fun σ H Q ⟨Z, Hf, env, d, R, hf, k⟩ => ?_
  unfold eVar at hf
  split at hf
  · rename_i d' he
    cases hf
    obtain ⟨v, hs, hv⟩ := R.sl i _ he
    exact ⟨v, hs, k v H Hf (.refl R.st.i) hv⟩
  · cases hf
theorem x_int {i j} : PE X (.Constant (.int i) j pos) (tE X.K (eC (.int i))) := pe_le pe_int fun σ H Q ⟨Z, Hf, env, d, R, hf, k⟩ => by
  cases hf
  exact k _ _ _ (.refl R.st.i) (.int i)
theorem x_str {x j} : PE X (.Constant (.str x) j pos) (tE X.K (eC (.str x))) := pe_le pe_str fun σ H Q ⟨Z, Hf, env, d, R, hf, k⟩ => by
  cases hf
  exact k _ _ _ (.refl R.st.i) (.str x)
theorem x_bl {x j} : PE X (.Constant (.bool x) j pos) (tE X.K (eC (.bool x))) := pe_le pe_bl fun σ H Q ⟨Z, Hf, env, d, R, hf, k⟩ => by
  cases hf
  exact k _ _ _ (.refl R.st.i) (.bl x)
theorem x_non {j} : PE X (.Constant .none j pos) (tE X.K (eC .none)) := pe_le pe_non fun σ H Q ⟨Z, Hf, env, d, R, hf, k⟩ => by
  cases hf
  exact k _ _ _ (.refl R.st.i) .non
theorem tOp_of {K : PySem.W.Frag} {σ : L2.St} {H : Hp} {Q : VK} (q : tE K (e2 F f g) σ H Q) : tOp (rD2 K F) (tE K f) (tE K g) σ H Q := by
  obtain ⟨Z, Hf, env, d, R, hf, k⟩ := q
  obtain ⟨x, hx, hf⟩ := Option_bind_some hf
  obtain ⟨y, hy, hf⟩ := Option_bind_some hf
  exact ⟨Z, Hf, env, x, R, hx, fun v H1 Hf1 s1 d1 => ⟨Z, Hf1, env, y, R.step s1, hy, fun u H2 Hf2 s2 d2 => ⟨Hf2, x, y, d, s2.i, Dp_up s2.f d1, d2, hf, fun r H3 Hf3 s3 d3 => k r H3 Hf3 (s1.trans (s2.trans s3)) d3⟩⟩⟩
theorem x_bin {op : Operator} (ho : OpD X (binaryOp op) F) (ha : PE X a (tE X.K f)) (hb : PE X b (tE X.K g)) : PE X (.BinOp a op b pos) (tE X.K (e2 F f g)) :=
  pe_le (pe_op ho ha hb) fun _ _ _ q => tOp_of q
theorem x_cmp {op : CmpOp} (ho : OpD X (compareOp op) F) (ha : PE X a (tE X.K f)) (hb : PE X b (tE X.K g)) (hm : behindInMarks op b = false) : PE X (.Compare a [op] [b] pos) (tE X.K (e2 F f g)) :=
  pe_le (pe_cmpR ho ha hb hm) fun _ _ _ q => tOp_of q
theorem x_ix (ha : PE X a (tE X.K f)) (hb : PE X b (tE X.K g)) (hs : PlainIx b) : PE X (.Subscript a b pos) (tE X.K (e2 fIx f g)) :=
  pe_le (pe_ix od_ix ha hb hs) fun _ _ _ q => tOp_of q
theorem x_neg (ha : PE X a (tE X.K f)) : PE X (.UnaryOp .USub a pos) (tE X.K (e1 fNeg f)) :=
  pe_le (pe_un od_neg ha) fun σ H Q ⟨Z, Hf, env, d, R, hf, k⟩ => by
    obtain ⟨x, hx, hf⟩ := Option_bind_some hf
    exact ⟨Z, Hf, env, x, R, hx, fun v H1 Hf1 s1 d1 => ⟨Hf1, x, d, s1.i, d1, hf, fun r H3 Hf3 s3 d3 => k r H3 Hf3 (s1.trans s3) d3⟩⟩
def asB (f : FE) : FT := fun env => match f env with
  | some (.bool b) => some b
  | _ => none
theorem asB_some {f : FE} {env : En} {b : Bool} (h : asB f env = some b) : f env = some (.bool b) := by
  unfold asB at h
  split at h
  · rename_i q
    cases h
    exact q
  · cases h
theorem t_val (ha : PE X a (tE X.K f)) (he : ∀ whole, isTrue a X.env whole = (do let v ← whole; standAt a.pos; holding [v] (truthy v)) := by intro _; rfl) : PT X a (tT X.K (asB f)) :=
  pt_le (pt_val ha he) fun σ H Q ⟨Z, Hf, env, d, R, hf, k⟩ => ⟨Z, Hf, env, .bool d, R, asB_some hf, fun v H1 Hf1 s1 d1 => ⟨d, d1.bl_eq, k H1 Hf1 s1⟩⟩
theorem t_cmp {op : CmpOp} (ho : OpD X (compareOp op) F) (ha : PE X a (tE X.K f)) (hb : PE X b (tE X.K g)) (hm : behindInMarks op b = false) : PT X (.Compare a [op] [b] pos) (tT X.K (asB (e2 F f g))) :=
  pt_le (pt_cmpR ho ha hb hm) fun σ H Q ⟨Z, Hf, env, d, R, hf, k⟩ => by
    have q : tE X.K (e2 F f g) σ H (fun x H' => ∃ k, x = .bl k ∧ Q k H') := ⟨Z, Hf, env, .bool d, R, asB_some hf, fun v H1 Hf1 s1 d1 => ⟨d, d1.bl_eq, k H1 Hf1 s1⟩⟩
    exact tOp_of q
/-- a op1 b op2 c -/
def eChain (F G : PyData → PyData → Option PyData) (f g h : FE) : FE := fun env => (f env).bind fun x => (g env).bind fun y => (F x y).bind fun r => match r with
  | .bool true => (h env).bind fun z => G y z
  | .bool false => some (.bool false)
  | _ => none
theorem tChain_of {G : PyData → PyData → Option PyData} {K : PySem.W.Frag} {σ : L2.St} {H : Hp} {Q : VK} (q : tE K (eChain F G f g h) σ H Q) : tChain (rD2 K F) (rD2 K G) (tE K f) (tE K g) (tE K h) σ H Q := by
  obtain ⟨Z, Hf, env, d, R, hf, k⟩ := q
  obtain ⟨x, hx, hf⟩ := Option_bind_some hf
  obtain ⟨y, hy, hf⟩ := Option_bind_some hf
  obtain ⟨r, hr, hf⟩ := Option_bind_some hf
  refine ⟨Z, Hf, env, x, R, hx, fun v H1 Hf1 s1 d1 => ⟨Z, Hf1, env, y, R.step s1, hy, fun u H2 Hf2 s2 d2 => ⟨Hf2, x, y, r, s2.i, Dp_up s2.f d1, d2, hr, fun w H3 Hf3 s3 d3 => ?_⟩⟩⟩
  split at hf
  · refine ⟨true, d3.bl_eq, ?_⟩
    obtain ⟨z, hz, hf⟩ := Option_bind_some hf
    exact iteT ⟨Z, Hf3, env, z, R.step (s1.trans (s2.trans s3)), hz, fun w' H4 Hf4 s4 d4 => ⟨Hf4, y, z, d, s4.i, Dp_up (s3.f.trans s4.f) d2, d4, hf, fun r' H5 Hf5 s5 d5 => k r' H5 Hf5 (s1.trans (s2.trans (s3.trans (s4.trans s5)))) d5⟩⟩
  · refine ⟨false, d3.bl_eq, ?_⟩
    cases hf
    exact iteF (k _ _ _ (s1.trans (s2.trans s3)) (.bl false))
  · cases hf
theorem x_chain {op op' : CmpOp} {G : PyData → PyData → Option PyData} (ho : OpD X (compareOp op) F) (ho' : OpD X (compareOp op') G) (ha : PE X a (tE X.K f)) (hb : PE X b (tE X.K g)) (hc : PE X c (tE X.K h))
    (hm : lastMarks [op, op'] [b, c] = false := by with_unfolding_all rfl) : PE X (.Compare a [op, op'] [b, c] pos) (tE X.K (eChain F G f g h)) := pe_le (pe_chain ho ho' ha hb hc hm) fun _ _ _ q => tChain_of q
theorem t_chain {op op' : CmpOp} {G : PyData → PyData → Option PyData} (ho : OpD X (compareOp op) F) (ho' : OpD X (compareOp op') G) (ha : PE X a (tE X.K f)) (hb : PE X b (tE X.K g)) (hc : PE X c (tE X.K h))
    (hm : lastMarks [op, op'] [b, c] = false := by with_unfolding_all rfl) : PT X (.Compare a [op, op'] [b, c] pos) (tT X.K (asB (eChain F G f g h))) :=
  pt_le (pt_chain ho ho' ha hb hc hm) fun σ H Q ⟨Z, Hf, env, d, R, hf, k⟩ => by
    have q : tE X.K (eChain F G f g h) σ H (fun x H' => ∃ k, x = .bl k ∧ Q k H') := ⟨Z, Hf, env, .bool d, R, asB_some hf, fun v H1 Hf1 s1 d1 => ⟨d, d1.bl_eq, k H1 Hf1 s1⟩⟩
    exact tChain_of q
def tAndF (p q : FT) : FT := fun env => match p env with
  | some true => q env
  | some false => some false
  | none => none
def tOrF (p q : FT) : FT := fun env => match p env with
  | some true => some true
  | some false => q env
  | none => none
def tNotF (p : FT) : FT := fun env => (p env).map (!·)
variable {p q : FT} {rest : List Expr}
theorem tAnd_of {K : PySem.W.Frag} {σ : L2.St} {H : Hp} {Q : Bool → Hp → Prop} (w : tT K (tAndF p q) σ H Q) : tAnd (tT K p) (tT K q) σ H Q := by
  obtain ⟨Z, Hf, env, d, R, hf, k⟩ := w
  unfold tAndF at hf
  split at hf
  · rename_i hp
    exact ⟨Z, Hf, env, true, R, hp, fun H1 Hf1 s1 => iteT ⟨Z, Hf1, env, d, R.step s1, hf, fun H2 Hf2 s2 => k H2 Hf2 (s1.trans s2)⟩⟩
  · rename_i hp
    cases hf
    exact ⟨Z, Hf, env, false, R, hp, fun H1 Hf1 s1 => iteF (k H1 Hf1 s1)⟩
  · cases hf
theorem tOr_of {K : PySem.W.Frag} {σ : L2.St} {H : Hp} {Q : Bool → Hp → Prop} (w : tT K (tOrF p q) σ H Q) : tOr (tT K p) (tT K q) σ H Q := by
  obtain ⟨Z, Hf, env, d, R, hf, k⟩ := w
  unfold tOrF at hf
  split at hf
  · rename_i hp
    cases hf
    exact ⟨Z, Hf, env, true, R, hp, fun H1 Hf1 s1 => iteT (k H1 Hf1 s1)⟩
  · rename_i hp
    exact ⟨Z, Hf, env, false, R, hp, fun H1 Hf1 s1 => iteF ⟨Z, Hf1, env, d, R.step s1, hf, fun H2 Hf2 s2 => k H2 Hf2 (s1.trans s2)⟩⟩
  · cases hf
theorem pw_le {e : Expr} {t t' : TT} (h : PW X e t) (hm : ∀ σ H Q, t' σ H Q → t σ H Q) : PW X e t' := ⟨fun wh pins s σ H Q I q => h.run wh pins s σ H Q I (hm σ H Q q)⟩
theorem w_and (ha : PT X a (tT X.K p)) (hb : PW X (.BoolOp .And (b :: rest) pos) (tT X.K q)) : PW X (.BoolOp .And (a :: b :: rest) pos) (tT X.K (tAndF p q)) := pw_le (pw_and ha hb) fun _ _ _ w => tAnd_of w
theorem w_or (ha : PT X a (tT X.K p)) (hb : PW X (.BoolOp .Or (b :: rest) pos) (tT X.K q)) : PW X (.BoolOp .Or (a :: b :: rest) pos) (tT X.K (tOrF p q)) := pw_le (pw_or ha hb) fun _ _ _ w => tOr_of w
theorem t_not (ha : PT X a (tT X.K p)) : PT X (.UnaryOp .Not a pos) (tT X.K (tNotF p)) := pt_le (pt_not ha) fun σ H Q ⟨Z, Hf, env, d, R, hf, k⟩ => by
  unfold tNotF at hf
  obtain ⟨x, hx, rfl⟩ := Option.map_eq_some_iff.mp hf
  exact ⟨Z, Hf, env, x, R, hx, fun H1 Hf1 s1 => k H1 Hf1 s1⟩
/-- and, or, not as values (bools) -/
def eAnd (f g : FE) : FE := fun env => match f env with
  | some (.bool true) => g env
  | some (.bool false) => some (.bool false)
  | _ => none
def eOr (f g : FE) : FE := fun env => match f env with
  | some (.bool true) => some (.bool true)
  | some (.bool false) => g env
  | _ => none
def eNot (f : FE) : FE := fun env => match f env with
  | some (.bool b) => some (.bool (!b))
  | _ => none
theorem x_one {op} (ha : PE X a (tE X.K f)) : PE X (.BoolOp op [a] pos) (tE X.K f) := pe_one ha
theorem x_and (ha : PE X a (tE X.K f)) (hb : PE X (.BoolOp .And (b :: rest) pos) (tE X.K g)) : PE X (.BoolOp .And (a :: b :: rest) pos) (tE X.K (eAnd f g)) := pe_le (pe_and ha hb) fun σ H Q ⟨Z, Hf, env, d, R, hf, k⟩ => by
  unfold eAnd at hf
  split at hf
  · rename_i hp
    exact ⟨Z, Hf, env, _, R, hp, fun v H1 Hf1 s1 d1 => ⟨true, d1.bl_eq, iteT ⟨Z, Hf1, env, d, R.step s1, hf, fun u H2 Hf2 s2 d2 => k u H2 Hf2 (s1.trans s2) d2⟩⟩⟩
  · rename_i hp
    cases hf
    exact ⟨Z, Hf, env, _, R, hp, fun v H1 Hf1 s1 d1 => ⟨false, d1.bl_eq, iteF (k _ H1 Hf1 s1 (.bl false))⟩⟩
  · cases hf
theorem x_or (ha : PE X a (tE X.K f)) (hb : PE X (.BoolOp .Or (b :: rest) pos) (tE X.K g)) : PE X (.BoolOp .Or (a :: b :: rest) pos) (tE X.K (eOr f g)) := pe_le (pe_or ha hb) fun σ H Q ⟨Z, Hf, env, d, R, hf, k⟩ => by
  unfold eOr at hf
  split at hf
  · rename_i hp
    cases hf
    exact ⟨Z, Hf, env, _, R, hp, fun v H1 Hf1 s1 d1 => ⟨true, d1.bl_eq, iteT (k _ H1 Hf1 s1 (.bl true))⟩⟩
  · rename_i hp
    exact ⟨Z, Hf, env, _, R, hp, fun v H1 Hf1 s1 d1 => ⟨false, d1.bl_eq, iteF ⟨Z, Hf1, env, d, R.step s1, hf, fun u H2 Hf2 s2 d2 => k u H2 Hf2 (s1.trans s2) d2⟩⟩⟩
  · cases hf
theorem x_not (ha : PE X a (tE X.K f)) : PE X (.UnaryOp .Not a pos) (tE X.K (eNot f)) := pe_le (pe_not ha) fun σ H Q ⟨Z, Hf, env, d, R, hf, k⟩ => by
  unfold eNot at hf
  split at hf
  · rename_i hp
    cases hf
    exact ⟨Z, Hf, env, _, R, hp, fun v H1 Hf1 s1 d1 => ⟨_, d1.bl_eq, k _ H1 Hf1 s1 (.bl _)⟩⟩
  · cases hf
def eIf (p : FT) (f g : FE) : FE := fun env => match p env with
  | some true => f env
  | some false => g env
  | none => none
theorem x_if {t : Expr} (ht : PT X t (tT X.K p)) (ha : PE X a (tE X.K f)) (hb : PE X b (tE X.K g)) : PE X (.IfExp t a b pos) (tE X.K (eIf p f g)) := pe_le (pe_ifExp ht ha hb) fun σ H Q ⟨Z, Hf, env, d, R, hf, k⟩ => by
  unfold eIf at hf
  split at hf
  · rename_i hp
    exact ⟨Z, Hf, env, true, R, hp, fun H1 Hf1 s1 => iteT ⟨Z, Hf1, env, d, R.step s1, hf, fun u H2 Hf2 s2 d2 => k u H2 Hf2 (s1.trans s2) d2⟩⟩
  · rename_i hp
    exact ⟨Z, Hf, env, false, R, hp, fun H1 Hf1 s1 => iteF ⟨Z, Hf1, env, d, R.step s1, hf, fun u H2 Hf2 s2 d2 => k u H2 Hf2 (s1.trans s2) d2⟩⟩
  · cases hf

def aNil : FL := fun _ => some []
def aCons (f : FE) (r : FL) : FL := fun env => (f env).bind fun x => (r env).bind fun xs => some (x :: xs)
variable {es : List Expr} {r : FL}
theorem a_nil : PA X [] (tA X.K aNil) := pa_le pa_nil fun σ H Q ⟨Z, Hf, env, d, R, hf, k⟩ => by
  cases hf
  exact k [] H Hf (.refl R.st.i) .nil
theorem a_cons (ha : PE X e (tE X.K f)) (hr : PA X es (tA X.K r)) (hs : starEach (e :: es) X.env = (false, eval e X.env) :: starEach es X.env := by rfl) : PA X (e :: es) (tA X.K (aCons f r)) :=
  pa_le (pa_cons ha hr hs) fun σ H Q ⟨Z, Hf, env, d, R, hf, k⟩ => by
    obtain ⟨x, hx, hf⟩ := Option_bind_some hf
    obtain ⟨xs, hxs, hf⟩ := Option_bind_some hf
    cases hf
    exact ⟨Z, Hf, env, x, R, hx, fun v H1 Hf1 s1 d1 => ⟨Z, Hf1, env, xs, R.step s1, hxs, fun vs H2 Hf2 s2 d2 => k (v :: vs) H2 Hf2 (s1.trans s2) (.cons (Dp_up s2.f d1) d2)⟩⟩
def eTup (r : FL) : FE := fun env => (r env).bind fun xs => if xs.length ≤ 100000 then some (.tuple xs) else none
def lLst (r : FL) : FL := fun env => (r env).bind fun xs => if xs.length ≤ 100000 then some xs else none
theorem x_tup {x1} (h : PA X es (tA X.K r)) : PE X (.Tuple es x1 pos) (tE X.K (eTup r)) := pe_le (pe_tup h) fun σ H Q ⟨Z, Hf, env, d, R, hf, k⟩ => by
  obtain ⟨xs, hxs, hf⟩ := Option_bind_some hf
  split at hf
  · rename_i hl
    cases hf
    refine ⟨Z, Hf, env, xs, R, hxs, fun vs H1 Hf1 s1 d1 => ⟨size_le (by rw [d1.len]; exact hl), fun p hp => ?_⟩⟩
    have s2 := Stp.new (o := .tup vs) s1.i hp
    exact k _ _ _ (s1.trans s2) (.tup (SqT.of upd_same) (DpAll_up s2.f d1))
  · cases hf
theorem l_lst (h : PA X es (tA X.K r)) : PE X (.List es pos) (tL X.K (lLst r)) := pe_le (pe_lst h) fun σ H Q ⟨Z, Hf, env, d, R, hf, k⟩ => by
  obtain ⟨xs, hxs, hf⟩ := Option_bind_some hf
  split at hf
  · rename_i hl
    cases hf
    refine ⟨Z, Hf, env, d, R, hxs, fun vs H1 Hf1 s1 d1 => ⟨size_le (by rw [d1.len]; exact hl), fun p hp => ?_⟩⟩
    exact k p vs _ _ (s1.trans (Stp.hid s1.i hp)) (s1.h.free hp) (s1.i.free hp) upd_same d1
  · cases hf
/-- a new list, taken as a value -/
def eL (l : FL) : FE := fun env => (l env).map .list
theorem x_L {l : FL} (h : PE X e (tL X.K l)) : PE X e (tE X.K (eL l)) := pe_le h fun σ H Q ⟨Z, Hf, env, d, R, hf, k⟩ => by
  unfold eL at hf
  obtain ⟨xs, hxs, hq⟩ := Option.map_eq_some_iff.mp hf
  subst hq
  refine ⟨Z, Hf, env, xs, R, hxs, fun p vs H1 Hf1 s1 h0 h1 h2 d1 => ?_⟩
  exact k _ _ _ (s1.show h0 h1 h2) (.lst (SqL.of upd_same) (DpAll_up (same_new h1) d1))

def eCall (F : List PyData → Option PyData) (r : FL) : FE := fun env => (r env).bind F
def lCall (F : List PyData → Option (List PyData)) (r : FL) : FL := fun env => (r env).bind F
theorem tCB_of {G : List PyData → Option PyData} {K : PySem.W.Frag} {σ : L2.St} {H : Hp} {Q : VK} (w : tE K (eCall G r) σ H Q) : tCB (rDc K G) (tA K r) σ H Q := by
  obtain ⟨Z, Hf, env, d, R, hf, k⟩ := w
  obtain ⟨xs, hxs, hf⟩ := Option_bind_some hf
  exact ⟨Z, Hf, env, xs, R, hxs, fun vs H1 Hf1 s1 d1 => ⟨Hf1, xs, d, s1.i, d1, hf, fun v H2 Hf2 s2 d2 => k v H2 Hf2 (s1.trans s2) d2⟩⟩
theorem x_callB {G : List PyData → Option PyData} {x : Str} {id : String} {p : Pos} (hc : CallD X (.builtin id) G) (hg : Gl X x) (hm : X.mg x = none) (hv : bootBuiltins x = some (.builtin id)) (ha : PA X (e :: es) (tA X.K r)) (hn : x ≠ "__name__" := by decide) (hdb : (x == ("__debug__" : Str)) = false := by decide)
    (he : starEach (e :: es) X.env = (false, eval e X.env) :: starEach es X.env := by rfl) (hpl : (backTo pos (starEach es X.env)).any (·.1) = false := by rfl) :
    PE X (.Call (.Name x p) (e :: es) [] pos) (tE X.K (eCall G r)) := pe_le (pe_callB hc hg hm hv ha hn hdb he hpl) fun _ _ _ w => tCB_of w
theorem x_callTy {G : List PyData → Option PyData} {x : Str} {T : String} {p : Pos} (hc : CallD X (.type T) G) (hg : Gl X x) (hm : X.mg x = none) (hv : bootBuiltins x = some (.type T)) (ha : PA X (e :: es) (tA X.K r)) (hn : x ≠ "__name__" := by decide) (hdb : (x == ("__debug__" : Str)) = false := by decide)
    (he : starEach (e :: es) X.env = (false, eval e X.env) :: starEach es X.env := by rfl) (hpl : (backTo pos (starEach es X.env)).any (·.1) = false := by rfl) :
    PE X (.Call (.Name x p) (e :: es) [] pos) (tE X.K (eCall G r)) := pe_le (pe_callTy hc hg hm hv ha hn hdb he hpl) fun _ _ _ w => tCB_of w
end
end Fi

namespace Fi
open PySem L2

def tG (K : PySem.W.Frag) (m : Bool) (sl : List Nat) (g : PyData → En → Option En) : TG := fun v σ H Q => ∃ (Z : Hp × Hp) (Hf : Hp) (env : En) (d : PyData) (env' : En), Rel K Z Hf H env σ ∧ Dp K Hf v d ∧ g d env = some env' ∧
  ∀ σ' H' Hf', Same Hf Hf' → Rel K Z Hf' H' env' σ' → (∀ i : Nat, i ∉ sl → σ'[i]? = σ[i]?) → σ'.length = σ.length → (m = false → H' = H ∧ Hf' = Hf) → Q σ' H'
def tGs (K : PySem.W.Frag) (m : Bool) (sl : List Nat) (g : List PyData → En → Option En) : TGs := fun vs σ H Q => ∃ (Z : Hp × Hp) (Hf : Hp) (env : En) (ds : List PyData) (env' : En), Rel K Z Hf H env σ ∧ DpAll K Hf vs ds ∧ g ds env = some env' ∧
  ∀ σ' H' Hf', Same Hf Hf' → Rel K Z Hf' H' env' σ' → (∀ i : Nat, i ∉ sl → σ'[i]? = σ[i]?) → σ'.length = σ.length → (m = false → H' = H ∧ Hf' = Hf) → Q σ' H'
def gSet (i : Nat) : PyData → En → Option En := fun d env => some (env.set i (some (.val d)))
def gsNil : List PyData → En → Option En := fun ds env => match ds with
  | [] => some env
  | _ => none
def gsCons (g : PyData → En → Option En) (r : List PyData → En → Option En) : List PyData → En → Option En := fun ds env => match ds with
  | d :: ds => (g d env).bind (r ds)
  | [] => none
def gTupF (n : Nat) (r : List PyData → En → Option En) : PyData → En → Option En := fun d env => match d with
  | .tuple ds => if ds.length = n then r ds env else none
  | _ => none
def gSub (i : Nat) (f : FE) : PyData → En → Option En := fun d env => match env[i]? with
  | some (some (.own l)) => match f env with
    | some (.int k) => match ixN l.length k with
      | some j => some (env.set i (some (.own (l.set j d))))
      | none => none
    | _ => none
  | _ => none
section
variable {X : Cx} {pos : Pos}
theorem g_name (i : Nat) {x : Str} (hN : X.N.Nodup) (hi : X.N[i]? = some x := by rfl) (hx : Loc X.env.scope x := by first | exact Or.inl rfl | exact Or.inr rfl) (hf : X.fn x = true ∨ X.env.scope.names.lookup x = some .local := by first | exact .inl rfl | exact .inr rfl | assumption) :
    PG X (.Name x pos) (tG X.K false [i] (gSet i)) := by
  refine pg_le (pg_name hN hi hx hf) fun v σ H Q ⟨Z, Hf, env, d, env', R, hd, hg, k⟩ => ?_
  cases hg
  refine k (σ.set i (some v)) H Hf (Same.refl _) (R.set i hd) (fun j hj => ?_) (List.length_set ..) fun _ => ⟨rfl, rfl⟩
  rw [List.getElem?_set_ne (fun e => hj (by simp [e]))]
theorem gs_nil {m : Bool} : PGs X [] (tGs X.K m [] gsNil) := by
  refine ⟨fun pins s σ H vs us Q I r ⟨Z, Hf, env, ds, env', R, hd, hg, k⟩ => ?_⟩
  unfold gsNil at hg
  split at hg
  · cases hg
    cases hd
    exact pgs_nil.run pins s σ H [] us Q I r ⟨rfl, k σ H Hf (Same.refl _) R (fun _ _ => rfl) rfl fun _ => ⟨rfl, rfl⟩⟩
  · cases hg
theorem gs_cons {e : Expr} {es : List Expr} {m n : Bool} {s1 s2 : List Nat} {g : PyData → En → Option En} {r : List PyData → En → Option En} (h1 : PG X e (tG X.K m s1 g)) (h2 : PGs X es (tGs X.K n s2 r))
    (hs : (assignEach (e :: es) X.env).map (·.2) = assign e X.env :: (assignEach es X.env).map (·.2) := by rfl) : PGs X (e :: es) (tGs X.K (m || n) (s1 ++ s2) (gsCons g r)) := by
  refine ⟨fun pins s σ H vs us Q I q ⟨Z, Hf, env, ds, env', R, hd, hg, k⟩ => ?_⟩
  refine (pgs_cons h1 h2 hs).run pins s σ H vs us Q I q ?_
  unfold gsCons at hg
  split at hg
  · rename_i d ds
    cases hd with
    | cons hd ht =>
      obtain ⟨e1, hg1, hg⟩ := Option_bind_some hg
      refine ⟨_, _, rfl, Z, Hf, env, d, e1, R, hd, hg1, fun σ' H' Hf' s1 R' p1 l1 m1 => ?_⟩
      refine ⟨Z, Hf', e1, ds, env', R', DpAll_up s1 ht, hg, fun σ2 H2 Hf2 s2 R2 p2 l2 m2 => ?_⟩
      refine k σ2 H2 Hf2 (s1.trans s2) R2 (fun i hi => ?_) (l2.trans l1) fun hm => ?_
      · have hi' : i ∉ _ ∧ i ∉ _ := ⟨fun q => hi (List.mem_append_left _ q), fun q => hi (List.mem_append_right _ q)⟩
        rw [p2 i hi'.2, p1 i hi'.1]
      · rw [Bool.or_eq_false_iff] at hm
        obtain ⟨a1, a2⟩ := m1 hm.1
        obtain ⟨b1, b2⟩ := m2 hm.2
        exact ⟨b1.trans a1, b2.trans a2⟩
  · cases hg
theorem g_tup {es : List Expr} {k n : Nat} {m : Bool} {sl : List Nat} {r : List PyData → En → Option En} (hc : X.calm = true) (h : PGs X es (tGs X.K m sl r))
    (hn : (assignEach es X.env).length = n := by rfl) (hst : (assignEach es X.env).findIdx? (·.1) = none := by rfl) : PG X (.Tuple es k pos) (tG X.K m sl (gTupF n r)) := by
  refine pg_le (pg_tup hc h hn hst) fun v σ H Q ⟨Z, Hf, env, d, env', R, hd, hg, kk⟩ => ?_
  unfold gTupF at hg
  split at hg
  · rename_i ds
    split at hg
    · rename_i hl
      obtain ⟨a, xs, rfl, hp, ha⟩ := hd.tup_of
      exact ⟨a, xs, rfl, sqT_up R.st.i hp, by rw [ha.len]; exact hl, Z, Hf, env, ds, env', R, ha, hg, kk⟩
    · cases hg
  · cases hg
/-- x[e] = .., x an own list -/
theorem g_sub (i : Nat) {x : Str} {e : Expr} {p : Pos} {f : FE} (hN : X.N[i]? = some x := by rfl) (hv : Vis X.env.scope x := by first | exact Or.inl rfl | exact Or.inr (Or.inl rfl) | exact Or.inr (Or.inr rfl)) (he : PE X e (tE X.K f)) (hd : (x == ("__debug__" : Str)) = false := by decide)
    (hcd : (x == ("__classdict__" : Str)) = false := by decide)
    (ha : ∀ v, assign (.Subscript (.Name x p) e pos) X.env v = (do
      let ov ← holding [v] (eval (.Name x p) X.env)
      let iv ← holding [v, ov] (eval e X.env)
      standAt pos
      holding [v, ov, iv] (setItem ov iv v)
      release [v, ov, iv] []) := by intro _; rfl) : PG X (.Subscript (.Name x p) e pos) (tG X.K true [] (gSub i f)) := by
  refine pg_le (pg_sub (pe_var hN hv hd hcd) he set_list ha) fun v σ H Q ⟨Z, Hf, env, d, env', R, hd, hg, k⟩ => ?_
  unfold gSub at hg
  split at hg
  · rename_i l hl
    split at hg
    · rename_i kk hk
      split at hg
      · rename_i j hj
        cases hg
        obtain ⟨w, hs, p, vs, rfl, hz, hf, hp, ha⟩ := R.sl i _ hl
        refine ⟨.ref p, hs, Z, Hf, env, _, R, hk, fun u H1 Hf1 s1 d1 => ?_⟩
        cases d1.int_eq
        refine ⟨p, vs, kk, j, rfl, rfl, s1.h p _ hp, by rw [ha.len]; exact hj, ?_⟩
        have R1 := (R.step s1).mut hl hs ((DpAll_up s1.f ha).set (Dp_up s1.f hd) j)
        exact k σ _ Hf1 s1.f R1 (fun _ _ => rfl) rfl (fun z => Bool.noConfusion z)
      · cases hg
    · cases hg
  · cases hg
end

def sNext : FS := fun env => some (.next env)
def sSeq (f g : FS) : FS := fun env => match f env with
  | some (.next e) => g e
  | o => o
def sAsg (f : FE) (g : PyData → En → Option En) : FS := fun env => (f env).bind fun d => (g d env).map .next
def sSet (i : Nat) (f : FE) : FS := fun env => (f env).map fun d => .next (env.set i (some (.val d)))
def sOwn (i : Nat) (l : FL) : FS := fun env => (l env).map fun ds => .next (env.set i (some (.own ds)))
def sPar (i j : Nat) (r : FL) : FS := fun env => match r env with
  | some [x, y] => some (.next ((env.set i (some (.val x))).set j (some (.val y))))
  | _ => none
def sParL (i j : Nat) (l : FL) (h : FE) : FS := fun env => (l env).bind fun xs => (h env).bind fun d => some (.next ((env.set i (some (.own xs))).set j (some (.val d))))
def sIf (p : FT) (f g : FS) : FS := fun env => match p env with
  | some true => f env
  | some false => g env
  | none => none
def sRet (f : FE) : FS := fun env => (f env).map .ret
def sRetL (l : FL) : FS := fun env => (l env).map .retL
def sRetO (i : Nat) : FS := fun env => match env[i]? with
  | some (some (.own l)) => some (.retL l)
  | _ => none
def sDrop (f : FE) : FS := fun env => (f env).map fun _ => .next env
def sAug (i : Nat) (g : Int → Int → Int) (f : FE) : FS := fun env => match eVar i env, f env with
  | some (.int a), some (.int b) => some (.next (env.set i (some (.val (.int (g a b))))))
  | _, _ => none
def sApp (i : Nat) (f : FE) : FS := fun env => match env[i]? with
  | some (some (.own l)) => (f env).bind fun d => if l.length < 100000 then some (.next (env.set i (some (.own (l ++ [d]))))) else none
  | _ => none
def sFrz (i : Nat) (f : FS) : FS := fun env => f (frz i env)
section
variable {X : Cx} {st : Stmt} {rest : List Stmt} {e : Expr} {pos : Pos} {f g : FS} {h : FE} {l : FL} {p : FT}
theorem s_nil : PSs X [] (tS X.K sNext) := pss_le pss_nil fun D σ H ⟨Z, Hf, env, o, R, hf, k⟩ => by
  cases hf
  exact k σ H Hf (Same.refl _) R
theorem s_pass : PS X (.Pass pos) (tS X.K sNext) := ps_le ps_pass fun D σ H ⟨Z, Hf, env, o, R, hf, k⟩ => by
  cases hf
  exact k σ H Hf (Same.refl _) R
theorem s_cons (h1 : PS X st (tS X.K f)) (h2 : PSs X rest (tS X.K g)) : PSs X (st :: rest) (tS X.K (sSeq f g)) := pss_le (pss_cons h1 h2) fun D σ H ⟨Z, Hf, env, o, R, hf, k⟩ => by
  unfold sSeq at hf
  cases q : f env with
  | none =>
    rw [q] at hf
    cases hf
  | some o1 =>
    rw [q] at hf
    cases o1 with
    | next e1 => exact ⟨Z, Hf, env, .next e1, R, q, fun σ' H' Hf' s1 R' => ⟨Z, Hf', e1, o, R', hf, k.up s1⟩⟩
    | brk e1 =>
      cases hf
      exact ⟨Z, Hf, env, .brk e1, R, q, k⟩
    | cont e1 =>
      cases hf
      exact ⟨Z, Hf, env, .cont e1, R, q, k⟩
    | ret d =>
      cases hf
      exact ⟨Z, Hf, env, .ret d, R, q, k⟩
    | retL d =>
      cases hf
      exact ⟨Z, Hf, env, .retL d, R, q, k⟩
    | retD d =>
      cases hf
      exact ⟨Z, Hf, env, .retD d, R, q, k⟩
theorem s_one (h1 : PS X st (tS X.K f)) : PSs X [st] (tS X.K f) := pss_one h1
theorem s_frz (i : Nat) (h1 : PSs X rest (tS X.K f)) : PSs X rest (tS X.K (sFrz i f)) := pss_le h1 fun D σ H ⟨Z, Hf, env, o, R, hf, k⟩ => by
  obtain ⟨Hf', s1, R'⟩ := R.frz i
  exact ⟨Z, Hf', frz i env, o, R', hf, k.up s1⟩
theorem s_asg {tg : Expr} {m : Bool} {sl : List Nat} {gg : PyData → En → Option En} (he : PE X e (tE X.K h)) (hg : PG X tg (tG X.K m sl gg)) (hs : swapsWithSole [tg] e pos.line X.env = pure false := by rfl) (hw : swappedStores [tg] e X.env = pure none := by rfl)
    (h1 : (assignEach [tg] X.env).map (·.2) = [assign tg X.env] := by rfl) : PS X (.Assign [tg] e pos) (tS X.K (sAsg h gg)) := ps_le (ps_asg he hg hs hw h1) fun D σ H ⟨Z, Hf, env, o, R, hf, k⟩ => by
  obtain ⟨d, hd, hf⟩ := Option_bind_some hf
  obtain ⟨env', hg, rfl⟩ := Option.map_eq_some_iff.mp hf
  exact ⟨Z, Hf, env, d, R, hd, fun v H1 Hf1 s1 d1 => ⟨Z, Hf1, env, d, env', R.step s1, d1, hg, fun σ' H' Hf' s2 R' _ _ _ => k σ' H' Hf' (s1.f.trans s2) R'⟩⟩
theorem s_set (i : Nat) {x : Str} {pos' : Pos} (hN : X.N.Nodup) (he : PE X e (tE X.K h)) (hi : X.N[i]? = some x := by rfl) (hx : Loc X.env.scope x := by first | exact Or.inl rfl | exact Or.inr rfl) (hs : swapsWith e (some (.Name x pos')) pos.line X.env = pure false := by rfl) (hf : X.fn x = true ∨ X.env.scope.names.lookup x = some .local := by first | exact .inl rfl | exact .inr rfl | assumption) :
    PS X (.Assign [.Name x pos'] e pos) (tS X.K (sSet i h)) := ps_le (ps_set hN hi hx he hs hf) fun D σ H ⟨Z, Hf, env, o, R, hf, k⟩ => by
  obtain ⟨d, hd, rfl⟩ := Option.map_eq_some_iff.mp hf
  exact ⟨Z, Hf, env, d, R, hd, fun v H1 Hf1 s1 d1 => k _ H1 Hf1 s1.f ((R.step s1).set i d1)⟩
theorem s_own (i : Nat) {x : Str} {pos' : Pos} (hN : X.N.Nodup) (he : PE X e (tL X.K l)) (hi : X.N[i]? = some x := by rfl) (hx : Loc X.env.scope x := by first | exact Or.inl rfl | exact Or.inr rfl) (hs : swapsWith e (some (.Name x pos')) pos.line X.env = pure false := by rfl) (hf : X.fn x = true ∨ X.env.scope.names.lookup x = some .local := by first | exact .inl rfl | exact .inr rfl | assumption) :
    PS X (.Assign [.Name x pos'] e pos) (tS X.K (sOwn i l)) := ps_le (ps_set hN hi hx he hs hf) fun D σ H ⟨Z, Hf, env, o, R, hf, k⟩ => by
  obtain ⟨d, hd, rfl⟩ := Option.map_eq_some_iff.mp hf
  exact ⟨Z, Hf, env, d, R, hd, fun p vs H1 Hf1 s1 h0 h1 h2 d1 => k _ H1 Hf1 s1.f (R.setOwn s1 i h0 h1 h2 d1)⟩
theorem s_par (i j : Nat) {x y : Str} {a b : Expr} {px py pt : Pos} {kt k2 pt2} (hc : X.calm = true) (hN : X.N.Nodup) (ha : PA X [a, b] (tA X.K l)) (hi : X.N[i]? = some x := by rfl) (hj : X.N[j]? = some y := by rfl) (hij : i ≠ j := by decide)
    (hx : X.env.scope.names.lookup x = some .local := by rfl) (hy : X.env.scope.names.lookup y = some .local := by rfl) (hw : swappedStores [.Tuple [.Name x px, .Name y py] kt pt] (.Tuple [a, b] k2 pt2) X.env = pure (some [x, y]) := by rfl)
    (hs : swapsWithSole [.Tuple [.Name x px, .Name y py] kt pt] (.Tuple [a, b] k2 pt2) pos.line X.env = pure false := by rfl) :
    PS X (.Assign [.Tuple [.Name x px, .Name y py] kt pt] (.Tuple [a, b] k2 pt2) pos) (tS X.K (sPar i j l)) := ps_le (ps_par hc hN hi hj hij hx hy ha hw hs) fun D σ H ⟨Z, Hf, env, o, R, hf, k⟩ => by
  unfold sPar at hf
  split at hf
  · rename_i u v hl
    cases hf
    refine ⟨Z, Hf, env, _, R, hl, fun vs H1 Hf1 s1 d1 => ?_⟩
    obtain ⟨w1, w2, rfl, e1, e2⟩ := d1.two
    exact ⟨w1, w2, rfl, k _ H1 Hf1 s1.f (((R.step s1).set i e1).set j e2)⟩
  · cases hf
/-- a, b = (a new list, a value): the list is a's own -/
theorem s_parL (i j : Nat) {x y : Str} {a b : Expr} {px py pt : Pos} {kt k2 pt2} (hc : X.calm = true) (hN : X.N.Nodup) (ha : PE X a (tL X.K l)) (hb : PE X b (tE X.K h)) (hi : X.N[i]? = some x := by rfl) (hj : X.N[j]? = some y := by rfl) (hij : i ≠ j := by decide)
    (hx : X.env.scope.names.lookup x = some .local := by rfl) (hy : X.env.scope.names.lookup y = some .local := by rfl)
    (h1 : starEach [a, b] X.env = (false, eval a X.env) :: starEach [b] X.env := by rfl) (h2 : starEach [b] X.env = (false, eval b X.env) :: starEach [] X.env := by rfl)
    (hw : swappedStores [.Tuple [.Name x px, .Name y py] kt pt] (.Tuple [a, b] k2 pt2) X.env = pure (some [x, y]) := by rfl)
    (hs : swapsWithSole [.Tuple [.Name x px, .Name y py] kt pt] (.Tuple [a, b] k2 pt2) pos.line X.env = pure false := by rfl) :
    PS X (.Assign [.Tuple [.Name x px, .Name y py] kt pt] (.Tuple [a, b] k2 pt2) pos) (tS X.K (sParL i j l h)) := ps_le (ps_par hc hN hi hj hij hx hy (pa_cons ha (pa_cons hb pa_nil h2) h1) hw hs) fun D σ H ⟨Z, Hf, env, o, R, hf, k⟩ => by
  obtain ⟨xs, hxs, hf⟩ := Option_bind_some hf
  obtain ⟨d, hd, hf⟩ := Option_bind_some hf
  cases hf
  refine ⟨Z, Hf, env, xs, R, hxs, fun p vs H1 Hf1 s1 h0 h1 h2 d1 => ⟨Z, Hf1, env, d, R.step s1, hd, fun v H2 Hf2 s2 d2 => ⟨.ref p, v, rfl, ?_⟩⟩⟩
  have R1 := R.setOwn s1 i h0 h1 h2 d1
  exact k _ H2 Hf2 (s1.f.trans s2.f) ((R1.step s2).set j d2)
theorem s_if {c : Expr} {a b : List Stmt} (hc : PT X c (tT X.K p)) (ha : PSs X a (tS X.K f)) (hb : PSs X b (tS X.K g)) : PS X (.If c a b pos) (tS X.K (sIf p f g)) := ps_le (ps_if hc ha hb) fun D σ H ⟨Z, Hf, env, o, R, hf, k⟩ => by
  unfold sIf at hf
  split at hf
  · rename_i hp
    exact ⟨Z, Hf, env, true, R, hp, fun H1 Hf1 s1 => iteT ⟨Z, Hf1, env, o, R.step s1, hf, k.up s1.f⟩⟩
  · rename_i hp
    exact ⟨Z, Hf, env, false, R, hp, fun H1 Hf1 s1 => iteF ⟨Z, Hf1, env, o, R.step s1, hf, k.up s1.f⟩⟩
  · cases hf
theorem s_ret (he : PE X e (tE X.K h)) : PS X (.Return (some e) pos) (tS X.K (sRet h)) := ps_le (ps_ret he) fun D σ H ⟨Z, Hf, env, o, R, hf, k⟩ => by
  obtain ⟨d, hd, rfl⟩ := Option.map_eq_some_iff.mp hf
  exact ⟨Z, Hf, env, d, R, hd, fun v H1 Hf1 s1 d1 => k v H1 Hf1 (R.st.trans s1) d1⟩
theorem s_retO (i : Nat) {x : Str} {p : Pos} (hN : X.N[i]? = some x := by rfl) (hv : Vis X.env.scope x := by first | exact Or.inl rfl | exact Or.inr (Or.inl rfl) | exact Or.inr (Or.inr rfl)) (hd : (x == ("__debug__" : Str)) = false := by decide)
    (hcd : (x == ("__classdict__" : Str)) = false := by decide) : PS X (.Return (some (.Name x p)) pos) (tS X.K (sRetO i)) := ps_le (ps_ret (pe_var hN hv hd hcd)) fun D σ H ⟨Z, Hf, env, o, R, hf, k⟩ => by
  unfold sRetO at hf
  split at hf
  · rename_i l hl
    cases hf
    obtain ⟨w, hs, p, vs, rfl, hz, hf, hp, ha⟩ := R.sl i _ hl
    exact ⟨.ref p, hs, k p vs H Hf R.st hz hf hp ha⟩
  · cases hf
theorem s_drop (he : PE X e (tE X.K h)) (hs : swapsWith e none pos.line X.env = pure false := by rfl) : PS X (.Expr e pos) (tS X.K (sDrop h)) := ps_le (ps_expr he hs) fun D σ H ⟨Z, Hf, env, o, R, hf, k⟩ => by
  obtain ⟨d, hd, rfl⟩ := Option.map_eq_some_iff.mp hf
  exact ⟨Z, Hf, env, d, R, hd, fun v H1 Hf1 s1 d1 => k σ H1 Hf1 s1.f (R.step s1)⟩
theorem s_aug (i : Nat) {x : Str} {op : Operator} {gi : Int → Int → Int} {pos' : Pos} (hN : X.N.Nodup) (he : PE X e (tE X.K h)) (ho : PIp X op (ipI gi)) (hi : X.N[i]? = some x := by rfl) (hx : Loc X.env.scope x := by first | exact Or.inl rfl | exact Or.inr rfl) (hf : X.fn x = true ∨ X.env.scope.names.lookup x = some .local := by first | exact .inl rfl | exact .inr rfl | assumption) :
    PS X (.AugAssign (.Name x pos') op e pos) (tS X.K (sAug i gi h)) := ps_le (ps_aug hN hi hx he ho hf) fun D σ H ⟨Z, Hf, env, o, R, hf, k⟩ => by
  unfold sAug at hf
  split at hf
  · rename_i a b h1 h2
    cases hf
    unfold eVar at h1
    split at h1
    · rename_i d' hd'
      cases h1
      obtain ⟨w, hs, hw⟩ := R.sl i _ hd'
      cases hw.int_eq
      refine ⟨.int a, hs, Z, Hf, env, .int b, R, h2, fun v H1 Hf1 s1 d1 => ?_⟩
      cases d1.int_eq
      exact ⟨a, b, rfl, rfl, k _ H1 Hf1 s1.f ((R.step s1).set i (.int _))⟩
    · cases h1
  · cases hf
theorem s_app (i : Nat) {x : Str} {p apos cpos : Pos} (he : PE X e (tE X.K h)) (hN : X.N[i]? = some x := by rfl) (hv : Vis X.env.scope x := by first | exact Or.inl rfl | exact Or.inr (Or.inl rfl) | exact Or.inr (Or.inr rfl)) (hd : (x == ("__debug__" : Str)) = false := by decide)
    (hcd : (x == ("__classdict__" : Str)) = false := by decide)
    (hbase : attributeBase (.Name x p) "append" X.env (eval (.Name x p) X.env) = eval (.Name x p) X.env := by rfl)
    (hfew : ((backTo cpos (starEach (e :: []) X.env)).all (fun x => !x.1) && (backToKw cpos (keywordEach [] X.env)).all (fun x => x.1.isSome)
      && decide ((e :: []).length + ([] : List Keyword).length + (if ([] : List Keyword).isEmpty then 0 else 1) < 30)) = true := by rfl)
    (hline : (apos.endLine == cpos.line) = true := by rfl) (hs : starEach (e :: []) X.env = (false, eval e X.env) :: starEach [] X.env := by rfl) (hplain : (backTo cpos (starEach [] X.env)).any (·.1) = false := by rfl)
    (hsw : swapsWith (.Call (.Attribute (.Name x p) "append" apos) [e] [] cpos) none pos.line X.env = pure false := by rfl) :
    PS X (.Expr (.Call (.Attribute (.Name x p) "append" apos) [e] [] cpos) pos) (tS X.K (sApp i h)) :=
  ps_le (ps_expr (pe_bm PySem.F.plainAttrs_list PySem.F.slot_list_append PySem.F.type_list_append mt_append (pe_var hN hv hd hcd) (pa_cons he pa_nil hs) hbase hfew hline hs hplain) hsw) fun D σ H ⟨Z, Hf, env, o, R, hf, k⟩ => by
    unfold sApp at hf
    split at hf
    · rename_i l hl
      obtain ⟨d, hd, hf⟩ := Option_bind_some hf
      split at hf
      · rename_i hz
        cases hf
        obtain ⟨w, hs, q, vs, rfl, hz0, hf0, hp, ha⟩ := R.sl i _ hl
        refine ⟨.ref q, hs, .inl ⟨rfl, _, SqL.of hp⟩, Z, Hf, env, d, R, hd, fun v H1 Hf1 s1 d1 => ?_⟩
        have ha1 := DpAll_up s1.f ha
        refine ⟨q, vs, v, rfl, rfl, s1.h q _ hp, Nat.lt_of_lt_of_le (by rw [ha.len]; exact hz) (by decide : 100000 ≤ sizeLine), ?_⟩
        exact k σ _ Hf1 s1.f ((R.step s1).mut hl hs (ha1.app (.cons d1 .nil)))
      · cases hf
    · cases hf
end

def YD (K : PySem.W.Frag) (Hf : Hp) (ds : List PyData) : Nat → Hp → V → Hp → Prop := fun i H x H' => ∃ d, ds[i]? = some d ∧
  ((H' = H ∧ Dp K Hf x d) ∨ ∃ T us dus, x = .ref T ∧ H T = none ∧ H' = upd H T (.tup us) ∧ d = .tuple dus ∧ DpAll K Hf us dus)
abbrev WalkD (K : PySem.W.Frag) (J : It) (Hf : Hp) (ds : List PyData) : Prop := Walk J ds.length (fun H => Same Hf H) (YD K Hf ds)
def tI (K : PySem.W.Frag) (f : FL) : TI := fun σ H R => ∃ (Z : Hp × Hp) (Hf : Hp) (env : En) (ds : List PyData), Rel K Z Hf H env σ ∧ f env = some ds ∧ ∀ J H1 Hf1, Stp Hf H Hf1 H1 → WalkD K J Hf1 ds → R J H1
def iL (f : FE) : FL := fun env => match f env with
  | some (.list l) => some l
  | _ => none
def iT (f : FE) : FL := fun env => match f env with
  | some (.tuple l) => some l
  | _ => none
def iR1 (r : FL) : FL := fun env => match r env with
  | some [.int n] => if -100000 < n ∧ n < 100000 then some ((List.range n.toNat).map fun (i : Nat) => PyData.int (i : Int)) else none
  | _ => none
def iR2 (r : FL) : FL := fun env => match r env with
  | some [.int a, .int n] => if (-100000 < a ∧ a < 100000) ∧ -100000 < n ∧ n < 100000 then some ((List.range (n - a).toNat).map fun (i : Nat) => PyData.int (a + (i : Int))) else none
  | _ => none
section
variable {X : Cx} {tg e : Expr} {pos : Pos} {f : FE} {r : FL}
theorem walkD_seq {K : PySem.W.Frag} {Hf : Hp} {xs : List V} {ds : List PyData} {J : It} {n : Nat} {G : Hp → Prop} (ha : DpAll K Hf xs ds) (w : Walk J xs.length G (YAt xs)) (hG : ∀ H, Same Hf H → G H) : WalkD K J Hf ds := by
  rw [show xs.length = ds.length from ha.len] at w
  refine w.mono hG fun i H x H' _ _ y => ?_
  obtain ⟨d, h1, h2⟩ := ha.get y.2
  exact ⟨d, h1, .inl ⟨y.1, h2⟩⟩
theorem i_list (he : PE X e (tE X.K f)) : PI X tg e (tI X.K (iL f)) := pi_le (pi_list he) fun σ H R ⟨Z, Hf, env, ds, Rl, hf, k⟩ => by
  unfold iL at hf
  split at hf
  · rename_i l hl
    cases hf
    refine ⟨Z, Hf, env, _, Rl, hl, fun v H1 Hf1 s1 d1 => ?_⟩
    obtain ⟨a, xs, rfl, hp, ha⟩ := d1.lst_of
    exact ⟨a, rfl, ⟨xs, s1.i.seq hp⟩, k _ H1 Hf1 s1 (walkD_seq (n := 0) ha walk_list fun H h => h.seq hp)⟩
  · cases hf
theorem i_tup (he : PE X e (tE X.K f)) : PI X tg e (tI X.K (iT f)) := pi_le (pi_tup he) fun σ H R ⟨Z, Hf, env, ds, Rl, hf, k⟩ => by
  unfold iT at hf
  split at hf
  · rename_i l hl
    cases hf
    refine ⟨Z, Hf, env, _, Rl, hl, fun v H1 Hf1 s1 d1 => ?_⟩
    obtain ⟨a, xs, rfl, hp, ha⟩ := d1.tup_of
    exact ⟨a, rfl, ⟨xs, sqT_up s1.i hp⟩, k _ H1 Hf1 s1 (walkD_seq (n := 0) ha walk_tup fun H h => sqT_up h hp)⟩
  · cases hf
theorem walkD_range {K : PySem.W.Frag} {Hf : Hp} {lo : Int} {n : Nat} : WalkD K (Itr lo n) Hf ((List.range n).map fun (i : Nat) => PyData.int (lo + (i : Int))) := by
  have w := walk_range (lo := lo) (n := n)
  show Walk _ ((List.range n).map fun (i : Nat) => PyData.int (lo + (i : Int))).length _ _
  rw [List.length_map, List.length_range]
  refine w.mono (fun _ _ => trivial) fun i H x H' hi _ y => ⟨.int (lo + (i : Int)), ?_, .inl ⟨y.1, ?_⟩⟩
  · rw [List.getElem?_map, List.getElem?_range hi]
    rfl
  · rw [y.2]
    exact .int _
theorem i_range1 {a : Expr} {p pos : Pos} (hg : Gl X "range") (hm : X.mg "range" = none) (ha : PA X [a] (tA X.K r)) (hs : starEach [a] X.env = [(false, eval a X.env)] := by rfl) : PI X tg (.Call (.Name "range" p) [a] [] pos) (tI X.K (iR1 r)) :=
  pi_le (L2.pi_range1 hg hm ha hs) fun σ H R ⟨Z, Hf, env, ds, Rl, hf, k⟩ => by
    unfold iR1 at hf
    split at hf
    · rename_i n hl
      split at hf
      · rename_i hn
        cases hf
        refine ⟨Z, Hf, env, _, Rl, hl, fun vs H1 Hf1 s1 d1 => ?_⟩
        obtain ⟨v, rfl, hv⟩ := d1.one
        cases hv.int_eq
        refine ⟨n, rfl, by omega, by omega, k _ H1 Hf1 s1 ?_⟩
        have w := walkD_range (K := X.K) (Hf := Hf1) (lo := 0) (n := n.toNat)
        simp only [Int.zero_add] at w
        exact w
      · cases hf
    · cases hf
end

def forD (g : PyData → En → Option En) (fb : FS) : List PyData → FS
  | [], env => some (.next env)
  | d :: ds, env => (g d env).bind fun e1 => match fb e1 with
    | some (.next e) => forD g fb ds e
    | some (.cont e) => forD g fb ds e
    | some (.brk e) => some (.next e)
    | some (.ret d) => some (.ret d)
    | some (.retL d) => some (.retL d)
    | some (.retD d) => some (.retD d)
    | none => none
def sFor (fi : FL) (g : PyData → En → Option En) (fb : FS) : FS := fun env => (fi env).bind fun ds => forD g fb ds env
def whileD (p : FT) (fb : FS) : Nat → FS
  | 0, _ => none
  | n + 1, env => match p env with
    | none => none
    | some false => some (.next env)
    | some true => match fb env with
      | some (.next e) => whileD p fb n e
      | some (.cont e) => whileD p fb n e
      | some (.brk e) => some (.next e)
      | some (.ret d) => some (.ret d)
      | some (.retL d) => some (.retL d)
      | some (.retD d) => some (.retD d)
      | none => none
section
variable {X : Cx} {tg iter : Expr} {pos : Pos} {fi : FL} {g : PyData → En → Option En} {fb : FS} {m : Bool} {sl : List Nat} {body : List Stmt}
/-- the item of a turn -/
theorem yd_item {K : PySem.W.Frag} {Z : Hp × Hp} {Hf0 Hf H H' : Hp} {ds : List PyData} {i : Nat} {x : V} {env : En} {σ : L2.St} {d : PyData} (y : YD K Hf0 ds i H x H') (hd : ds[i]? = some d) (R : Rel K Z Hf H env σ) (s : Same Hf0 Hf) :
    ∃ Hf', Stp Hf H Hf' H' ∧ Dp K Hf' x d := by
  obtain ⟨d', h1, h2⟩ := y
  rw [hd] at h1
  cases h1
  rcases h2 with ⟨rfl, hx⟩ | ⟨T, us, dus, rfl, hT, rfl, rfl, hu⟩
  · exact ⟨Hf, .refl R.st.i, Dp_up s hx⟩
  · have st := Stp.new (o := .tup us) R.st.i hT
    exact ⟨_, st, .tup (SqT.of upd_same) (DpAll_up (s.trans st.f) hu)⟩
theorem drop_get {α : Type} {l : List α} {i : Nat} (h : i < l.length) : ∃ d, l[i]? = some d ∧ l.drop i = d :: l.drop (i + 1) := ⟨l[i], List.getElem?_eq_getElem h, List.drop_eq_getElem_cons h⟩
theorem s_for (hp : PassesOwn (model X.prog X.w) X.A X.env X.xe) (hc : X.calm = true) (hi : PI X tg iter (tI X.K fi)) (hg : PG X tg (tG X.K m sl g)) (hb : PSs X body (tS X.K fb))
    (hs : ∀ x, foldedSetIterable iter X.env x = pure x := by intro _; rfl) : PS X (.For tg iter body [] pos) (tS X.K (sFor fi g fb)) := ps_le (ps_for hp hc hi hg hb hs) fun D σ H ⟨Z, Hf, env, o, R, hf, k⟩ => by
  obtain ⟨ds, hds, hf⟩ := Option_bind_some hf
  refine ⟨Z, Hf, env, ds, R, hds, fun J H1 Hf1 s1 w => ?_⟩
  refine for_it w (fun i σ' H' => ∃ (Hf' : Hp) (env' : En), Same Hf1 Hf' ∧ Rel X.K Z Hf' H' env' σ' ∧ forD g fb (ds.drop i) env' = some o) ⟨Hf1, env, Same.refl _, R.step s1, hf⟩ (fun i σ' H' _ ⟨Hf', env', a, R', _⟩ => a.trans R'.st.i) (fun i x σ' H' H2 hi ⟨Hf', env', a, R', q⟩ y => ?_) fun σ' H' ⟨Hf', env', a, R', q⟩ => ?_
  · obtain ⟨d, hd, hdr⟩ := drop_get hi
    rw [hdr] at q
    obtain ⟨e1, hg1, q⟩ := Option_bind_some q
    obtain ⟨Hf2, st2, hx⟩ := yd_item y hd R' a
    refine ⟨Z, Hf2, env', d, e1, R'.step st2, hx, hg1, fun σ3 H3 Hf3 s3 R3 _ _ _ => ?_⟩
    have up : Same Hf1 Hf3 := a.trans (st2.f.trans s3)
    cases hb1 : fb e1 with
    | none =>
      rw [hb1] at q
      cases q
    | some o1 =>
      rw [hb1] at q
      refine ⟨Z, Hf3, e1, o1, R3, hb1, ?_⟩
      cases o1 with
      | next e2 => exact fun σ4 H4 Hf4 s4 R4 => ⟨Hf4, e2, up.trans s4, R4, q⟩
      | cont e2 => exact fun σ4 H4 Hf4 s4 R4 => ⟨Hf4, e2, up.trans s4, R4, q⟩
      | brk e2 =>
        cases q
        exact fun σ4 H4 Hf4 s4 R4 => k σ4 H4 Hf4 (s1.f.trans (up.trans s4)) R4
      | ret d =>
        cases q
        exact k
      | retL d =>
        cases q
        exact k
      | retD d =>
        cases q
        exact k
  · rw [List.drop_of_length_le (Nat.le_refl _)] at q
    cases q
    exact k σ' H' Hf' (s1.f.trans a) R'
theorem s_while (n : Nat) {p : FT} {c : Expr} (hp : PassesOwn (model X.prog X.w) X.A X.env X.xe) (hc : PT X c (tT X.K p)) (hb : PSs X body (tS X.K fb)) : PS X (.While c body [] pos) (tS X.K (whileD p fb n)) := ps_le (ps_while hp hc hb) fun D σ H ⟨Z, Hf, env, o, R, hf, k⟩ => by
  refine ⟨fun m σ' H' => ∃ (Hf' : Hp) (env' : En), Same Hf Hf' ∧ Rel X.K Z Hf' H' env' σ' ∧ whileD p fb m env' = some o, ⟨n, Hf, env, Same.refl _, R, hf⟩, fun m σ' H' ⟨Hf', env', a, R', q⟩ => ?_⟩
  cases m with
  | zero => cases q
  | succ m =>
    unfold whileD at q
    cases hpe : p env' with
    | none =>
      rw [hpe] at q
      cases q
    | some b =>
      rw [hpe] at q
      refine ⟨Z, Hf', env', b, R', hpe, fun H1 Hf1 s1 => ?_⟩
      cases b with
      | false =>
        cases q
        exact iteF (k σ' H1 Hf1 (a.trans s1.f) (R'.step s1))
      | true =>
        refine iteT ⟨fun σ2 H2 => ∃ (Hf' : Hp) (env' : En), Same Hf Hf' ∧ Rel X.K Z Hf' H2 env' σ2 ∧ whileD p fb m env' = some o, fun σ2 H2 h => ⟨m, Nat.lt_succ_self m, h⟩, ?_⟩
        cases hb1 : fb env' with
        | none =>
          simp only [hb1] at q
          cases q
        | some o1 =>
          simp only [hb1] at q
          refine ⟨Z, Hf1, env', o1, R'.step s1, hb1, ?_⟩
          have up : Same Hf Hf1 := a.trans s1.f
          cases o1 with
          | next e2 => exact fun σ4 H4 Hf4 s4 R4 => ⟨Hf4, e2, up.trans s4, R4, q⟩
          | cont e2 => exact fun σ4 H4 Hf4 s4 R4 => ⟨Hf4, e2, up.trans s4, R4, q⟩
          | brk e2 =>
            cases q
            exact fun σ4 H4 Hf4 s4 R4 => k σ4 H4 Hf4 (up.trans s4) R4
          | ret d =>
            cases q
            exact k
          | retL d =>
            cases q
            exact k
          | retD d =>
            cases q
            exact k
end
end Fi

namespace Fi
open PySem L2

def wipeE (env : En) : List Nat → En
  | [] => env
  | v :: vs => (wipeE env vs).set v none
theorem Rel.wipe {K : PySem.W.Frag} {Z : Hp × Hp} {Hf H : Hp} {env : En} {σ : L2.St} (R : Rel K Z Hf H env σ) : ∀ vs : List Nat, Rel K Z Hf H (wipeE env vs) (L2.wipe σ vs)
  | [] => R
  | v :: vs => (Rel.wipe R vs).drop v none
theorem wipe_get (σ : L2.St) : ∀ (vs : List Nat) (i : Nat), (L2.wipe σ vs)[i]? = if i ∈ vs then σ[i]?.map (fun _ => none) else σ[i]?
  | [], i => by simp [L2.wipe]
  | v :: vs, i => by
    unfold L2.wipe
    rw [List.getElem?_set, wipe_length, wipe_get σ vs i]
    by_cases h : v = i
    · subst h
      simp only [if_true, List.mem_cons, true_or]
      by_cases hl : v < σ.length
      · simp [hl]
      · simp [hl, List.getElem?_eq_none (Nat.le_of_not_lt hl)]
    · simp only [h, if_false, List.mem_cons]
      by_cases hm : i ∈ vs
      · simp [hm]
      · have : ¬ (i = v) := fun e => h e.symm
        simp [hm, this]
theorem wipe_same {σ τ : L2.St} {vs : List Nat} (hl : τ.length = σ.length) (h : ∀ i : Nat, i ∉ vs → τ[i]? = σ[i]?) : L2.wipe τ vs = L2.wipe σ vs := by
  apply List.ext_getElem?
  intro i
  rw [wipe_get, wipe_get]
  by_cases hm : i ∈ vs
  · rw [if_pos hm, if_pos hm]
    by_cases hi : i < σ.length
    · rw [List.getElem?_eq_getElem hi, List.getElem?_eq_getElem (by omega)]
      rfl
    · rw [List.getElem?_eq_none (by omega), List.getElem?_eq_none (by omega)]
  · rw [if_neg hm, if_neg hm, h i hm]
theorem wipe_wipe (σ : L2.St) (vs : List Nat) : L2.wipe (L2.wipe σ vs) vs = L2.wipe σ vs := wipe_same (wipe_length σ vs) fun i hi => by rw [wipe_get, if_neg hi]
def lcD (g : PyData → En → Option En) (p : FT) (f : FE) (env : En) : List PyData → Option (List PyData)
  | [] => some []
  | d :: ds => (g d env).bind fun e1 => match p e1 with
    | none => none
    | some true => (f e1).bind fun x => (lcD g p f env ds).bind fun xs => some (x :: xs)
    | some false => lcD g p f env ds
def lLc (fi : FL) (g : PyData → En → Option En) (p : FT) (f : FE) (vs : List Nat) : FL := fun env => (fi env).bind fun ds => if ds.length < 100000 then lcD g p f (wipeE env vs) ds else none
def pYes : FT := fun _ => some true
section
variable {X : Cx}
theorem pts_le {e : List Expr} {t t' : TT} (h : PTs X e t) (hm : ∀ σ H Q, t' σ H Q → t σ H Q) : PTs X e t' := ⟨fun pins s σ H Q I q => h.run pins s σ H Q I (hm σ H Q q)⟩
theorem q_nil : PTs X [] (tT X.K pYes) := pts_le pts_nil fun σ H Q ⟨Z, Hf, env, b, R, hf, k⟩ => by
  cases hf
  exact k H Hf (.refl R.st.i)
theorem q_one {c : Expr} {p : FT} (h : PT X c (tT X.K p)) : PTs X [c] (tT X.K p) := pts_one h
theorem tLc_of {K : PySem.W.Frag} {fi : FL} {g : PyData → En → Option En} {p : FT} {f : FE} {vs sl : List Nat} (hsl : ∀ i ∈ sl, i ∈ vs) {σ : L2.St} {H : Hp} {Q : VK} (w : tL K (lLc fi g p f vs) σ H Q) : tLc (tI K fi) (tG K false sl g) (tT K p) (tE K f) vs σ H Q := by
  obtain ⟨Z, Hf, env, out, R, hf, k⟩ := w
  obtain ⟨ds, hds, hf⟩ := Option_bind_some hf
  split at hf
  · rename_i hlen
    refine ⟨Z, Hf, env, ds, R, hds, fun J H1 Hf1 s1 w D hD => ?_⟩
    have hD0 : H D = none := s1.h.free hD
    have hDf : Hf1 D = none := s1.i.free hD
    have hid := Stp.hid (o := .lst []) s1.i hD
    refine lc_it w (fun i H' => ∃ (Hf' : Hp) (acc : List V) (da rs : List PyData), Stp Hf1 H1 Hf' H' ∧ Hf' D = none ∧ H' D = some (.lst acc) ∧ DpAll K Hf' acc da ∧ da.length ≤ i ∧ lcD g p f (wipeE env vs) (ds.drop i) = some rs ∧ out = da ++ rs)
      ⟨Hf1, [], [], out, hid, hDf, upd_same, .nil, Nat.le_refl _, hf, rfl⟩ (fun i H' _ ⟨Hf', _, _, _, a, _⟩ => a.f.trans a.i) (fun i x H' H2 hi ⟨Hf', acc, da, rs, st, h1, h2, h3, hl, h4, h5⟩ y => ?_) fun H' ⟨Hf', acc, da, rs, st, h1, h2, h3, hl, h4, h5⟩ => ?_
    · obtain ⟨d, hd, hdr⟩ := drop_get hi
      rw [hdr] at h4
      obtain ⟨e1, hg1, h4⟩ := Option_bind_some h4
      have R1 : Rel K Z Hf' H' (wipeE env vs) (L2.wipe σ vs) := ((R.step s1).wipe vs).step st
      obtain ⟨Hf2, st2, hx⟩ := yd_item y hd R1 st.f
      refine ⟨Z, Hf2, wipeE env vs, d, e1, R1.step st2, hx, hg1, fun σ3 H3 Hf3 s3 R3 pt ln mm => ?_⟩
      obtain ⟨rfl, rfl⟩ := mm rfl
      have hw : L2.wipe σ3 vs = L2.wipe σ vs := by
        rw [← wipe_wipe σ vs]
        exact wipe_same (ln.trans rfl) fun i hi => pt i fun q => hi (hsl i q)
      refine ⟨hw, ?_⟩
      have st3 := st.trans st2
      have h1' : Hf3 D = none := st2.n D _ h2 h1
      have h2' : H3 D = some (.lst acc) := st2.h D _ h2
      cases hp : p e1 with
      | none =>
        rw [hp] at h4
        cases h4
      | some b =>
        rw [hp] at h4
        refine ⟨Z, Hf3, e1, b, R3, hp, fun H4 Hf4 s4 => ?_⟩
        have h1'' : Hf4 D = none := s4.n D _ h2' h1'
        have h2'' : H4 D = some (.lst acc) := s4.h D _ h2'
        cases b with
        | false => exact iteF ⟨Hf4, acc, da, rs, st3.trans s4, h1'', h2'', DpAll_up (st2.f.trans s4.f) h3, by omega, h4, h5⟩
        | true =>
          obtain ⟨x', hx', h4⟩ := Option_bind_some h4
          obtain ⟨ys, hy, h4⟩ := Option_bind_some h4
          cases h4
          refine iteT ⟨Z, Hf4, e1, x', R3.step s4, hx', fun v H5 Hf5 s5 d5 => ?_⟩
          have g1 : Hf5 D = none := s5.n D _ h2'' h1''
          have g2 : H5 D = some (.lst acc) := s5.h D _ h2''
          have st5 := (st3.trans s4).trans s5
          have up : Same Hf' Hf5 := st2.f.trans (s4.f.trans s5.f)
          have ha := DpAll_up up h3
          have hi' : i < ds.length := hi
          refine ⟨acc, g2, Nat.lt_of_lt_of_le (by rw [ha.len]; omega) (by decide : 100000 ≤ sizeLine), Hf5, acc ++ [v], da ++ [x'], ys, ⟨st5.f, fun b o e => ?_, fun b o e => ?_, st5.n⟩, g1, upd_same, ha.app (.cons d5 .nil), by rw [List.length_append, List.length_singleton]; omega, hy, by rw [h5, List.append_assoc]; rfl⟩
          · rw [upd_ne (ne_of_none e g1)]
            exact st5.i b o e
          · rw [upd_ne (ne_of_none e hD)]
            exact st5.h b o e
    · rw [List.drop_of_length_le (Nat.le_refl _)] at h4
      cases h4
      rw [List.append_nil] at h5
      subst h5
      exact k D acc H' Hf' (s1.trans st) hD0 h1 h2 h3
  · cases hf
variable {elt tg iter : Expr} {ifs : List Expr} {scope : Scope} {own : List (Str × Nat)} {pos : Pos} {fi : FL} {g : PyData → En → Option En} {p : FT} {f : FE} {sl vs : List Nat}
theorem l_lc (hc : X.calm = true) (hN : X.N.Nodup) (hi : PI X tg iter (tI X.K fi)) (ok : BlkOk X.N X.env.scope scope own)
    (hg : ∀ (s : Shared) (H : Hp) (C : Addr) (cl : List (Str × Addr)) (fp : List Addr), PG (X.blk s H scope (compEnvC scope cl C X.env) fp) tg (tG X.K false sl g)) (ht : ∀ (s : Shared) (H : Hp) (C : Addr) (cl : List (Str × Addr)) (fp : List Addr), PTs (X.blk s H scope (compEnvC scope cl C X.env) fp) ifs (tT X.K p))
    (he : ∀ (s : Shared) (H : Hp) (C : Addr) (cl : List (Str × Addr)) (fp : List Addr), PE (X.blk s H scope (compEnvC scope cl C X.env) fp) elt (tE X.K f)) (hvs : own.map (·.2) = vs := by rfl) (hsl : ∀ i ∈ sl, i ∈ vs := by decide) (hs : ∀ x, foldedSetIterable iter X.env x = pure x := by intro _; rfl) :
    PE X (.ListComp elt [⟨tg, iter, ifs, 0⟩] scope pos) (tL X.K (lLc fi g p f vs)) := by
  subst hvs
  exact pe_le (pe_lc hc hN hi ok hg ht he hs) fun _ _ _ w => tLc_of hsl w
/-- name = [..], on one line -/
theorem s_setLc (i : Nat) {y : Str} {py spos : Pos} (hc : X.calm = true) (hN : X.N.Nodup) (hsw : swapsWith (.ListComp elt [⟨tg, iter, ifs, 0⟩] scope pos) (some (.Name y py)) spos.line X.env = pure true) (hi : PI X tg iter (tI X.K fi)) (ok : BlkOk X.N X.env.scope scope own)
    (hg : ∀ (s : Shared) (H : Hp) (C : Addr) (cl : List (Str × Addr)) (fp : List Addr), PG (X.blk s H scope (compEnvC scope cl C X.env) fp) tg (tG X.K false sl g)) (ht : ∀ (s : Shared) (H : Hp) (C : Addr) (cl : List (Str × Addr)) (fp : List Addr), PTs (X.blk s H scope (compEnvC scope cl C X.env) fp) ifs (tT X.K p))
    (he : ∀ (s : Shared) (H : Hp) (C : Addr) (cl : List (Str × Addr)) (fp : List Addr), PE (X.blk s H scope (compEnvC scope cl C X.env) fp) elt (tE X.K f)) (hy : X.N[i]? = some y := by rfl) (hyl : X.env.scope.names.lookup y = some .local := by rfl) (hvs : own.map (·.2) = vs := by rfl) (hsl : ∀ i ∈ sl, i ∈ vs := by decide) (hs : ∀ x, foldedSetIterable iter X.env x = pure x := by intro _; rfl) :
    PS X (.Assign [.Name y py] (.ListComp elt [⟨tg, iter, ifs, 0⟩] scope pos) spos) (tS X.K (sOwn i (lLc fi g p f vs))) := by
  subst hvs
  exact ps_le (ps_setLc hc hN hy hyl hsw hi ok hg ht he hs) fun D σ H ⟨Z, Hf, env, o, R, hf, k⟩ => by
    obtain ⟨d, hd, rfl⟩ := Option.map_eq_some_iff.mp hf
    exact tLc_of hsl ⟨Z, Hf, env, d, R, hd, fun p vs H1 Hf1 s1 h0 h1 h2 d1 => k _ H1 Hf1 s1.f (R.setOwn s1 i h0 h1 h2 d1)⟩
end

def RetD (K : PySem.W.Frag) (Hf H : Hp) (Q : VK) : Sl → Prop
  | .val d => ∀ v H' Hf', Stp Hf H Hf' H' → Dp K Hf' v d → Q v H'
  | .own ds => ∀ p vs H' Hf', Stp Hf H Hf' H' → H p = none → Hf' p = none → H' p = some (.lst vs) → DpAll K Hf' vs ds → Q (.ref p) H'
  | .dct kvs => ∀ p xs H' Hf', Stp Hf H Hf' H' → H p = none → Hf' p = none → H' p = some (.ext (DI p xs)) → (p == sysModules) = false → DctOk K Hf' xs kvs → Q (.ref p) H'
/-- the promise of a def that is a function on data -/
def spD (K : PySem.W.Frag) (n : Nat) (F : List PyData → Option Sl) : Sp := fun vs H Q _ => vs.length = n ∧ ∃ (Hf : Hp) (ds : List PyData) (r : Sl), Same Hf H ∧ DpAll K Hf vs ds ∧ F ds = some r ∧ RetD K Hf H Q r
def fnD (n : Nat) (b : FS) : List PyData → Option Sl := fun ds => match b (entry n ds) with
  | some (.ret d) => some (.val d)
  | some (.retL l) => some (.own l)
  | some (.retD l) => some (.dct l)
  | some (.next _) => some (.val .none)
  | _ => none
theorem dpAll_at {K : PySem.W.Frag} {H : Hp} {vs : List V} {ds : List PyData} (h : DpAll K H vs ds) (n : Nat) (i : Nat) (s : Sl) (e : (entry n ds)[i]? = some (some s)) : ∃ v, (vs.map some ++ List.replicate (n - vs.length) none)[i]? = some (some v) ∧ ∃ d, s = .val d ∧ Dp K H v d := by
  unfold entry at e
  by_cases hi : i < ds.length
  · rw [List.getElem?_append_left (by rw [List.length_map]; exact hi), List.getElem?_map, List.getElem?_eq_getElem hi] at e
    have e' : Sl.val ds[i] = s := Option.some.inj (Option.some.inj e)
    obtain ⟨v, h1, h2⟩ := h.at (List.getElem?_eq_getElem hi)
    refine ⟨v, ?_, _, e'.symm, h2⟩
    rw [List.getElem?_append_left (by rw [List.length_map, h.len]; exact hi), List.getElem?_map, h1]
    rfl
  · rw [List.getElem?_append_right (by rw [List.length_map]; omega)] at e
    rw [List.getElem?_replicate] at e
    split at e
    · cases e
    · cases e
theorem body_ok {X : Cx} {b : FS} {sts : List Stmt} {N : List Str} {vs : List V} {H : Hp} {Q : VK} {E : XK} {np n : Nat} (hn : N.length = n) (hb : PSs X sts (tS X.K b)) (h : spD X.K np (fnD n b) vs H Q E) : ∃ t, PSs X sts t ∧ t { nx := fun _ H' => Q .non H', rt := Q } (L2.start N vs) H := by
  refine ⟨_, hb, ?_⟩
  subst hn
  obtain ⟨hl, Hf, ds, r, hi, hd, hF, k⟩ := h
  have R : Rel X.K (Hf, H) Hf H (entry N.length ds) (L2.start N vs) := by
    refine ⟨.refl hi, ?_, fun i s e => ?_, fun i j x y p ei ej _ _ => ?_⟩
    · unfold entry L2.start
      simp only [List.length_append, List.length_map, List.length_replicate, hd.len]
    · obtain ⟨v, h1, d, rfl, h2⟩ := dpAll_at hd N.length i s e
      exact ⟨v, h1, h2⟩
    · obtain ⟨_, _, d, h3, _⟩ := dpAll_at hd N.length i _ ei
      cases h3
  unfold fnD at hF
  cases ho : b (entry N.length ds) with
  | none =>
    rw [ho] at hF
    cases hF
  | some o =>
    rw [ho] at hF
    refine ⟨(Hf, H), Hf, _, o, R, ho, ?_⟩
    cases o with
    | next e =>
      cases hF
      exact fun σ' H' Hf' s1 R' => k .non H' Hf' R'.st .non
    | ret d =>
      cases hF
      exact k
    | retL d =>
      cases hF
      exact k
    | retD d =>
      cases hF
      exact k
    | brk e => cases hF
    | cont e => cases hF
def eCallF (F : List PyData → Option Sl) (r : FL) : FE := fun env => (r env).bind fun ds => match F ds with
  | some (.val d) => some d
  | some (.own l) => some (.list l)
  | _ => none
def lCallF (F : List PyData → Option Sl) (r : FL) : FL := fun env => (r env).bind fun ds => match F ds with
  | some (.own l) => some l
  | _ => none
section
variable {X : Cx} {k : Nat} {f : Addr} {fd : FuncData} {ps : List Str} {F : List PyData → Option Sl} {n : Nat} {x : Str} {p pos : Pos} {e : Expr} {es : List Expr} {r : FL}
theorem x_call (G : FnOk X.prog X.w X.K X.mg X.base CX0 k f fd ps (spD X.K (es.length + 1) F)) (hr : Room k X.A) (hg : Gl X x) (hm : X.mg x = some (.ref f)) (hk : PySem.W.keepIn X.K (.ref f) = true) (hb : Binds X.K fd ps [])
    (ha : PA X (e :: es) (tA X.K r)) (hln : ∀ env ds, r env = some ds → ds.length = es.length + 1) (hdb : (x == ("__debug__" : Str)) = false := by decide) (he : starEach (e :: es) X.env = (false, eval e X.env) :: starEach es X.env := by rfl) (hpl : (backTo pos (starEach es X.env)).any (·.1) = false := by rfl) :
    PE X (.Call (.Name x p) (e :: es) [] pos) (tE X.K (eCallF F r)) := pe_le (pe_call G hr hg hm hk hb .nil pass0 ha hdb he hpl) fun σ H Q ⟨Z, Hf, env, d, R, hf, kk⟩ => by
  obtain ⟨ds, hds, hf⟩ := Option_bind_some hf
  refine ⟨Z, Hf, env, ds, R, hds, fun vs H1 Hf1 s1 d1 => ?_⟩
  show spD X.K (es.length + 1) F (vs ++ []) H1 Q E0
  rw [List.append_nil]
  refine ⟨by rw [d1.len]; exact hln env ds hds, ?_⟩
  split at hf
  · rename_i z hz
    cases hf
    exact ⟨Hf1, ds, _, s1.i, d1, hz, fun v H2 Hf2 s2 d2 => kk v H2 Hf2 (s1.trans s2) d2⟩
  · rename_i l hz
    cases hf
    exact ⟨Hf1, ds, _, s1.i, d1, hz, fun q vs H2 Hf2 s2 h0 h1 h2 d2 => kk _ _ _ (s1.trans (s2.show h0 h1 h2)) (.lst (SqL.of upd_same) (DpAll_up (same_new h1) d2))⟩
  · cases hf
theorem l_call (G : FnOk X.prog X.w X.K X.mg X.base CX0 k f fd ps (spD X.K (es.length + 1) F)) (hr : Room k X.A) (hg : Gl X x) (hm : X.mg x = some (.ref f)) (hk : PySem.W.keepIn X.K (.ref f) = true) (hb : Binds X.K fd ps [])
    (ha : PA X (e :: es) (tA X.K r)) (hln : ∀ env ds, r env = some ds → ds.length = es.length + 1) (hdb : (x == ("__debug__" : Str)) = false := by decide) (he : starEach (e :: es) X.env = (false, eval e X.env) :: starEach es X.env := by rfl) (hpl : (backTo pos (starEach es X.env)).any (·.1) = false := by rfl) :
    PE X (.Call (.Name x p) (e :: es) [] pos) (tL X.K (lCallF F r)) := pe_le (pe_call G hr hg hm hk hb .nil pass0 ha hdb he hpl) fun σ H Q ⟨Z, Hf, env, d, R, hf, kk⟩ => by
  obtain ⟨ds, hds, hf⟩ := Option_bind_some hf
  refine ⟨Z, Hf, env, ds, R, hds, fun vs H1 Hf1 s1 d1 => ?_⟩
  show spD X.K (es.length + 1) F (vs ++ []) H1 Q E0
  rw [List.append_nil]
  refine ⟨by rw [d1.len]; exact hln env ds hds, ?_⟩
  split at hf
  · rename_i l hz
    cases hf
    exact ⟨Hf1, ds, _, s1.i, d1, hz, fun q vs H2 Hf2 s2 h0 h1 h2 d2 => kk q vs H2 Hf2 (s1.trans s2) (s1.h.free h0) h1 h2 d2⟩
  · cases hf
end
theorem ln_nil : ∀ (env : En) (ds : List PyData), aNil env = some ds → ds.length = 0 := fun _ _ h => by cases h; rfl
theorem ln_cons {f : FE} {r : FL} {n : Nat} (h : ∀ (env : En) (ds : List PyData), r env = some ds → ds.length = n) : ∀ (env : En) (ds : List PyData), aCons f r env = some ds → ds.length = n + 1 := fun env ds e => by
  obtain ⟨x, _, e⟩ := Option_bind_some e
  obtain ⟨xs, hx, e⟩ := Option_bind_some e
  cases e
  rw [List.length_cons, h env xs hx]

def cutD (l : List PyData) (lo hi : Option Int) : List PyData := (l.drop (HT.sIx l.length 0 lo)).take (HT.sIx l.length l.length hi - HT.sIx l.length 0 lo)
theorem cut_dp {K : PySem.W.Frag} {H : Hp} {vs : List V} {ds : List PyData} (h : DpAll K H vs ds) (lo hi : Option Int) : DpAll K H (cutV vs lo hi) (cutD ds lo hi) := by
  unfold cutV cutD
  rw [h.len]
  exact (h.dr _).tk _
def oNone : En → Option (Option Int) := fun _ => some none
def oSome (f : FE) : En → Option (Option Int) := fun env => match f env with
  | some (.int i) => some (some i)
  | _ => none
/-- t[lo:hi] of a tuple -/
def eSlT (f : FE) (lo hi : En → Option (Option Int)) : FE := fun env => (f env).bind fun x => (lo env).bind fun a => (hi env).bind fun b => match x with
  | .tuple l => some (.tuple (cutD l a b))
  | _ => none
def lSl (f : FE) (lo hi : En → Option (Option Int)) : FL := fun env => (f env).bind fun x => (lo env).bind fun a => (hi env).bind fun b => match x with
  | .list l => some (cutD l a b)
  | _ => none
section
variable {X : Cx} {e : Expr} {f g : FE} {lo hi : Option Expr} {fl fh : En → Option (Option Int)} {pos p2 : Pos} {r : FL}
theorem o_none : PO X none (tO X.K oNone) := po_le po_none fun σ H Q ⟨Z, Hf, env, o, R, hf, k⟩ => by
  cases hf
  exact k H Hf (.refl R.st.i)
theorem o_some (he : PE X e (tE X.K f)) : PO X (some e) (tO X.K (oSome f)) := po_le (po_some he) fun σ H Q ⟨Z, Hf, env, o, R, hf, k⟩ => by
  unfold oSome at hf
  split at hf
  · rename_i i h
    cases hf
    exact ⟨Z, Hf, env, _, R, h, fun v H1 Hf1 s1 d1 => ⟨i, d1.int_eq, k H1 Hf1 s1⟩⟩
  · cases hf
theorem x_slT (he : PE X e (tE X.K f)) (hl : PO X lo (tO X.K fl)) (hh : PO X hi (tO X.K fh)) : PE X (.Subscript e (.Slice lo hi none p2) pos) (tE X.K (eSlT f fl fh)) := pe_le (pe_slice sl_tupA he hl hh) fun σ H Q ⟨Z, Hf, env, o, R, hf, k⟩ => by
  obtain ⟨x, hx, hf⟩ := Option_bind_some hf
  obtain ⟨a, ha, hf⟩ := Option_bind_some hf
  obtain ⟨b, hb, hf⟩ := Option_bind_some hf
  cases x with
  | tuple l =>
    cases hf
    refine ⟨Z, Hf, env, _, R, hx, fun v H1 Hf1 s1 d1 => ⟨Z, Hf1, env, a, R.step s1, ha, fun H2 Hf2 s2 => ⟨Z, Hf2, env, b, (R.step s1).step s2, hb, fun H3 Hf3 s3 => ?_⟩⟩⟩
    obtain ⟨q, xs, rfl, hq, hd⟩ := d1.tup_of
    have up : Same Hf1 Hf3 := s2.f.trans s3.f
    have hl := hd.len
    refine ⟨q, xs, rfl, sqT_up (up.trans s3.i) hq, fun w => ?_, fun w p hp => ?_⟩
    · have e : cutD l a b = l := by
        unfold cutD
        rw [← hl, w.1, w.2]
        simp [hl]
      rw [e] at k
      exact k _ _ _ (s1.trans (s2.trans s3)) (Dp_up up (.tup hq hd))
    · have st := Stp.new (o := .tup (cutV xs a b)) s3.i hp
      exact k _ _ _ (s1.trans (s2.trans (s3.trans st))) (.tup (SqT.of upd_same) (cut_dp (DpAll_up (up.trans st.f) hd) a b))
  | _ => cases hf
theorem l_sl (he : PE X e (tE X.K f)) (hl : PO X lo (tO X.K fl)) (hh : PO X hi (tO X.K fh)) : PE X (.Subscript e (.Slice lo hi none p2) pos) (tL X.K (lSl f fl fh)) := pe_le (pe_slice sl_list he hl hh) fun σ H Q ⟨Z, Hf, env, o, R, hf, k⟩ => by
  obtain ⟨x, hx, hf⟩ := Option_bind_some hf
  obtain ⟨a, ha, hf⟩ := Option_bind_some hf
  obtain ⟨b, hb, hf⟩ := Option_bind_some hf
  cases x with
  | list l =>
    cases hf
    refine ⟨Z, Hf, env, _, R, hx, fun v H1 Hf1 s1 d1 => ⟨Z, Hf1, env, a, R.step s1, ha, fun H2 Hf2 s2 => ⟨Z, Hf2, env, b, (R.step s1).step s2, hb, fun H3 Hf3 s3 => ?_⟩⟩⟩
    obtain ⟨q, xs, rfl, hq, hd⟩ := d1.lst_of
    have up : Same Hf1 Hf3 := s2.f.trans s3.f
    refine ⟨q, xs, rfl, (up.trans s3.i).seq hq, fun p hp => ?_⟩
    have s13 := s1.trans (s2.trans s3)
    exact k p _ _ _ (s13.trans (Stp.hid s3.i hp)) (s13.h.free hp) (s3.i.free hp) upd_same (cut_dp (DpAll_up up hd) a b)
  | _ => cases hf
def fLen : List PyData → Option PyData
  | [.list l] => some (.int l.length)
  | [.tuple l] => some (.int l.length)
  | _ => none
def fMin : List PyData → Option PyData
  | [.int a, .int b] => some (.int (min a b))
  | _ => none
def fMax : List PyData → Option PyData
  | [.int a, .int b] => some (.int (max a b))
  | _ => none
def fTuple : List PyData → Option PyData
  | [.list l] => some (.tuple l)
  | [.tuple l] => some (.tuple l)
  | _ => none
def fList : List PyData → Option (List PyData)
  | [.list l] => some l
  | [.tuple l] => some l
  | _ => none
def fIntB : List PyData → Option PyData
  | [.int i] => some (.int i)
  | [.bool b] => some (.int (if b then 1 else 0))
  | _ => none
def getInts : List PyData → Option (List Int)
  | [] => some []
  | .int i :: r => (getInts r).bind fun l => some (i :: l)
  | _ => none
theorem getInts_eq : ∀ {ds : List PyData} {ns : List Int}, getInts ds = some ns → ds = ns.map .int
  | [], ns, h => by cases h; rfl
  | .int i :: r, ns, h => by
    obtain ⟨l, hl, h⟩ := Option_bind_some h
    cases h
    rw [getInts_eq hl]
    rfl
  | .none :: _, _, h => by cases h
  | .bool _ :: _, _, h => by cases h
  | .str _ :: _, _, h => by cases h
  | .list _ :: _, _, h => by cases h
  | .tuple _ :: _, _, h => by cases h
  | .dict _ :: _, _, h => by cases h
theorem getInts_map : ∀ ns : List Int, getInts (ns.map .int) = some ns
  | [] => rfl
  | n :: ns => by
    show (getInts (ns.map .int)).bind _ = _
    rw [getInts_map ns]
    rfl
def getBools : List PyData → Option (List Bool)
  | [] => some []
  | .bool i :: r => (getBools r).bind fun l => some (i :: l)
  | _ => none
theorem getBools_eq : ∀ {ds : List PyData} {ns : List Bool}, getBools ds = some ns → ds = ns.map .bool
  | [], ns, h => by cases h; rfl
  | .bool i :: r, ns, h => by
    obtain ⟨l, hl, h⟩ := Option_bind_some h
    cases h
    rw [getBools_eq hl]
    rfl
  | .none :: _, _, h => by cases h
  | .int _ :: _, _, h => by cases h
  | .str _ :: _, _, h => by cases h
  | .list _ :: _, _, h => by cases h
  | .tuple _ :: _, _, h => by cases h
  | .dict _ :: _, _, h => by cases h
theorem getBools_map : ∀ ns : List Bool, getBools (ns.map .bool) = some ns
  | [] => rfl
  | n :: ns => by
    show (getBools (ns.map .bool)).bind _ = _
    rw [getBools_map ns]
    rfl
def fSum : List PyData → Option PyData
  | [.list l] => (getInts l).bind fun ns => some (.int ns.sum)
  | [.tuple l] => (getInts l).bind fun ns => some (.int ns.sum)
  | _ => none
def fAll : List PyData → Option PyData
  | [.list l] => (getBools l).bind fun ns => some (.bool (ns.all id))
  | _ => none
def fAny : List PyData → Option PyData
  | [.list l] => (getBools l).bind fun ns => some (.bool (ns.any id))
  | _ => none
theorem cd_len : CallD X (.builtin "len") fLen := by
  intro pins s σ H xs us Q I r ⟨Hf, ds, dz, hi, hd, hf, k⟩
  unfold fLen at hf
  split at hf
  · cases hf
    obtain ⟨v, rfl, hv⟩ := hd.one
    obtain ⟨p, ys, rfl, hp, ha⟩ := hv.lst_of
    exact call_len_seq pins s σ H _ us Q I r ⟨p, ys, rfl, .inl (hi.seq hp), by rw [ha.len]; exact k _ _ _ (.refl hi) (.int _)⟩
  · cases hf
    obtain ⟨v, rfl, hv⟩ := hd.one
    obtain ⟨p, ys, rfl, hp, ha⟩ := hv.tup_of
    exact call_len_seq pins s σ H _ us Q I r ⟨p, ys, rfl, .inr (sqT_up hi hp), by rw [ha.len]; exact k _ _ _ (.refl hi) (.int _)⟩
  · cases hf
theorem cd_min (hc : X.calm = true) : CallD X (.builtin "min") fMin := by
  intro pins s σ H xs us Q I r ⟨Hf, ds, dz, hi, hd, hf, k⟩
  unfold fMin at hf
  split at hf
  · rename_i a b
    cases hf
    obtain ⟨v, w, rfl, hv, hw⟩ := hd.two
    cases hv.int_eq
    cases hw.int_eq
    refine call_min2 hc pins s σ H _ us Q I r ⟨a, b, rfl, ?_⟩
    have e : (if b < a then b else a) = min a b := by
      rw [Int.min_def]
      split <;> split <;> omega
    rw [e]
    exact k _ _ _ (.refl hi) (.int _)
  · cases hf
theorem cd_max (hc : X.calm = true) : CallD X (.builtin "max") fMax := by
  intro pins s σ H xs us Q I r ⟨Hf, ds, dz, hi, hd, hf, k⟩
  unfold fMax at hf
  split at hf
  · rename_i a b
    cases hf
    obtain ⟨v, w, rfl, hv, hw⟩ := hd.two
    cases hv.int_eq
    cases hw.int_eq
    refine call_max2 hc pins s σ H _ us Q I r ⟨a, b, rfl, ?_⟩
    have e : (if b > a then b else a) = max a b := by
      rw [Int.max_def]
      split <;> split <;> omega
    rw [e]
    exact k _ _ _ (.refl hi) (.int _)
  · cases hf
theorem cd_tuple : CallD X (.type "tuple") fTuple := by
  intro pins s σ H xs us Q I r ⟨Hf, ds, dz, hi, hd, hf, k⟩
  unfold fTuple at hf
  split at hf
  · cases hf
    obtain ⟨v, rfl, hv⟩ := hd.one
    obtain ⟨p, ys, rfl, hp, ha⟩ := hv.lst_of
    refine call_tuple_of pins s σ H _ us Q I r ⟨p, ys, rfl, .inl ⟨hi.seq hp, fun l hl => ?_⟩⟩
    have st := Stp.new (o := .tup ys) hi hl
    exact k _ _ _ st (.tup (SqT.of upd_same) (DpAll_up st.f ha))
  · cases hf
    obtain ⟨v, rfl, hv⟩ := hd.one
    obtain ⟨p, ys, rfl, hp, ha⟩ := id hv.tup_of
    exact call_tuple_of pins s σ H _ us Q I r ⟨p, ys, rfl, .inr ⟨sqT_up hi hp, k _ _ _ (.refl hi) hv⟩⟩
  · cases hf
theorem cd_int : CallD X (.type "int") fIntB := by
  intro pins s σ H xs us Q I r ⟨Hf, ds, dz, hi, hd, hf, k⟩
  unfold fIntB at hf
  split at hf
  · cases hf
    obtain ⟨v, rfl, hv⟩ := hd.one
    cases hv.int_eq
    exact call_int1 pins s σ H _ us Q I r (.inl ⟨_, rfl, k _ _ _ (.refl hi) (.int _)⟩)
  · cases hf
    obtain ⟨v, rfl, hv⟩ := hd.one
    cases hv.bl_eq
    exact call_int1 pins s σ H _ us Q I r (.inr ⟨_, rfl, k _ _ _ (.refl hi) (.int _)⟩)
  · cases hf
theorem cd_all (hc : X.calm = true) : CallD X (.builtin "all") fAll := by
  intro pins s σ H xs us Q I r ⟨Hf, ds, dz, hi, hd, hf, k⟩
  unfold fAll at hf
  split at hf
  · obtain ⟨ns, hns, hf⟩ := Option_bind_some hf
    cases hf
    obtain ⟨v, rfl, hv⟩ := hd.one
    obtain ⟨p, ys, rfl, hp, ha⟩ := hv.lst_of
    rw [getBools_eq hns] at ha
    rw [ha.bools] at hp
    exact cr_all hc pins s σ H _ us Q I r ⟨p, ns, rfl, hi.seq hp, k _ _ _ (.refl hi) (.bl _)⟩
  · cases hf
theorem cd_any (hc : X.calm = true) : CallD X (.builtin "any") fAny := by
  intro pins s σ H xs us Q I r ⟨Hf, ds, dz, hi, hd, hf, k⟩
  unfold fAny at hf
  split at hf
  · obtain ⟨ns, hns, hf⟩ := Option_bind_some hf
    cases hf
    obtain ⟨v, rfl, hv⟩ := hd.one
    obtain ⟨p, ys, rfl, hp, ha⟩ := hv.lst_of
    rw [getBools_eq hns] at ha
    rw [ha.bools] at hp
    exact cr_any hc pins s σ H _ us Q I r ⟨p, ns, rfl, hi.seq hp, k _ _ _ (.refl hi) (.bl _)⟩
  · cases hf
end
end Fi

namespace Fi
open PySem PySem.Spec PyProof.Rows L2

inductive Kd where | l | t
def SqK (K : PySem.W.Frag) : Kd → Hp → Addr → List V → Prop
  | .l, H, a, xs => SqL K H a xs
  | .t, H, a, xs => SqT K H a xs
def ItK : Kd → Heap → Addr → Addr → Nat → Prop
  | .l, h, it, a, i => h.IsListIter it a i
  | .t, h, it, a, i => h.IsTupleIter it a i
def HasK : Kd → Heap → Addr → Array Value → Prop
  | .l, h, a, x => h.IsList a x
  | .t, h, a, x => h.IsTuple a x
def objK : Kd → Addr → Obj
  | .l, a => { cls := .type "list_iterator", data := .fields #[.ref a, .int 0 0] }
  | .t, a => { cls := .type "tuple_iterator", data := .fields #[.ref a, .int 0 0] }
theorem sqK_up {K : PySem.W.Frag} {k : Kd} {H H' : Hp} {a : Addr} {xs : List V} (e : Same H H') (h : SqK K k H a xs) : SqK K k H' a xs := by
  cases k
  · exact e.seq h
  · exact sqT_up e h
theorem drawsK (k : Kd) {prog : Program} {w : World} {A : Around} (hh : A.handled = none) (it a : Addr) (hne : a ≠ it) (items : Array Value) :
    Draws prog w A it [it, a] items.size (fun i v => items[i]? = some v) (fun i h => ItK k h it a i ∧ HasK k h a items) := by
  cases k
  · exact Draws.list hh it a hne items
  · exact Draws.tuple hh it a hne items
theorem beginsK (k : Kd) (a : Addr) (items : Array Value) : Begins (.ref a) (objK k a) fun h => HasK k h a items := by
  cases k
  · exact begins_list a items
  · exact begins_tuple a items
theorem itK_0 {k : Kd} {h : Heap} {it a : Addr} (e : h.get? it = some (objK k a)) : ItK k h it a 0 := by
  cases k
  · exact ⟨_, e, rfl, rfl⟩
  · exact ⟨_, e, rfl, rfl⟩
theorem itK_obj {k : Kd} {h : Heap} {it a : Addr} {i : Nat} (e : ItK k h it a i) : ∃ o, h.get? it = some o ∧ ∀ v, o.data ≠ .cell v := by
  cases k
  · obtain ⟨o, ho, _, hd⟩ := e
    exact ⟨o, ho, fun v q => by rw [hd] at q; cases q⟩
  · obtain ⟨o, ho, _, hd⟩ := e
    exact ⟨o, ho, fun v q => by rw [hd] at q; cases q⟩
theorem itK_at {k : Kd} {h h' : Heap} {it a : Addr} {i : Nat} (e : ItK k h it a i) (k' : ∀ o, h.get? it = some o → h'.get? it = some o) : ItK k h' it a i := by
  cases k
  · exact Heap.IsListIter.at e k'
  · exact Heap.IsTupleIter.at e k'
theorem hasK_of {X : Cx} {pins : List (Addr × Obj)} {σ : L2.St} {H : Hp} {s : Shared} {k : Kd} {a : Addr} {xs : List V} (I : Inv X pins σ H s) (h : SqK X.K k H a xs) : ∃ its : List Value, Vals xs its ∧ HasK k s.heap a its.toArray := by
  cases k
  · obtain ⟨its, r, p, _⟩ := I.list h
    exact ⟨its, r, p.isList⟩
  · obtain ⟨its, r, p, _⟩ := I.tuple h
    exact ⟨its, r, p⟩
theorem sqK_inj {X : Cx} {pins : List (Addr × Obj)} {σ : L2.St} {H : Hp} {s : Shared} {k : Kd} {a : Addr} {xs ys : List V} (I : Inv X pins σ H s) (h : SqK X.K k H a xs) (h' : SqK X.K k H a ys) : xs = ys := by
  cases k
  · exact I.list_inj h h'
  · exact I.tuple_inj h h'
theorem hasK_lt {k : Kd} {h : Heap} {a : Addr} {x : Array Value} (e : HasK k h a x) : a < h.objs.size := by
  cases k
  · obtain ⟨_, q, _⟩ := e
    exact Heap.lt_size q
  · obtain ⟨_, q, _⟩ := e
    exact Heap.lt_size q
def ItzK (K : PySem.W.Frag) (k1 k2 : Kd) (a b : Addr) : It :=
  ⟨fun i H => ∃ (xs ys : List V) (x y : V), SqK K k1 H a xs ∧ SqK K k2 H b ys ∧ xs[i]? = some x ∧ ys[i]? = some y,
    fun i H v H' => ∃ T x y, v = .ref T ∧ H T = none ∧ H' = upd H T (.tup [x, y]) ∧ (∀ xs, SqK K k1 H a xs → xs[i]? = some x) ∧ ∀ ys, SqK K k2 H b ys → ys[i]? = some y,
    fun i H => ∃ xs ys : List V, SqK K k1 H a xs ∧ SqK K k2 H b ys ∧ i ≤ xs.length ∧ i ≤ ys.length ∧ (i = xs.length ∨ i = ys.length)⟩
theorem turn_zipK {P : Program} {w : World} {K : PySem.W.Frag} {elts : List Expr} {kk : Nat} {tpos : Pos} {k1 k2 : Kd} {a b z TI TO i1 i2 : Addr} (D : ZipSep2 z TI TO i1 i2 [i1, a] [i2, b]) :
    Turn P w K (.Tuple elts kk tpos) (ItzK K k1 k2 a b) [z, TI, TO, i1, i2] z (fun i h => IsZip h z TI TO .none ∧ IsTupOf2 h TI (.ref i1) (.ref i2) ∧ (∃ x y, IsTupOf2 h TO x y) ∧ ItK k1 h i1 a i ∧ ItK k2 h i2 b i) where
  mem := by simp
  obj := fun i h st c hc => by
    obtain ⟨hz, hTI, ⟨x, y, hTO⟩, h1, h2⟩ := st
    have e' : c = z ∨ c = TI ∨ c = TO ∨ c = i1 ∨ c = i2 := by simpa using hc
    rcases e' with q | q | q | q | q
    · rw [q]; exact ⟨_, hz, fun v q => nomatch q⟩
    · rw [q]; exact ⟨_, hTI, fun v q => nomatch q⟩
    · rw [q]; exact ⟨_, hTO, fun v q => nomatch q⟩
    · rw [q]; exact itK_obj h1
    · rw [q]; exact itK_obj h2
  keep := fun i h h' st k => by
    obtain ⟨hz, hTI, ⟨x, y, hTO⟩, h1, h2⟩ := st
    exact ⟨k z (by simp) _ hz, k TI (by simp) _ hTI, ⟨x, y, k TO (by simp) _ hTO⟩, itK_at h1 fun o q => k i1 (by simp) o q, itK_at h2 fun o q => k i2 (by simp) o q⟩
  item := by
    intro X hP hw hK hc i pins s σ H E I hf st hg
    subst hP hw hK
    obtain ⟨hz, hTI, ⟨x0, y0, hTO⟩, h1, h2⟩ := st
    obtain ⟨xs, ys, x, y, hqx, hqy, hx, hy⟩ := hg
    obtain ⟨its, rv, p⟩ := hasK_of I hqx
    obtain ⟨its2, rv2, p2⟩ := hasK_of I hqy
    obtain ⟨u, hu, ru⟩ := rv.get hx
    obtain ⟨u2, hu2, ru2⟩ := rv2.get hy
    have hzl : z < s.heap.objs.size := Heap.lt_size hz
    have nai : a ≠ i1 := fun q => by
      have := D.mem1
      obtain ⟨o, ho, _⟩ := itK_obj h1
      have hlt := hasK_lt p
      subst q
      cases k1 with
      | l =>
        obtain ⟨o1, e1, c1, _⟩ := h1
        obtain ⟨o2, e2, c2, _⟩ := p
        rw [e1] at e2
        cases e2
        rw [c1] at c2
        exact absurd c2 (by decide)
      | t =>
        obtain ⟨o1, e1, c1, _⟩ := h1
        obtain ⟨o2, e2, c2, _⟩ := p
        rw [e1] at e2
        cases e2
        rw [c1] at c2
        exact absurd c2 (by decide)
    have nbi : b ≠ i2 := fun q => by
      subst q
      cases k2 with
      | l =>
        obtain ⟨o1, e1, c1, _⟩ := h2
        obtain ⟨o2, e2, c2, _⟩ := p2
        rw [e1] at e2
        cases e2
        rw [c1] at c2
        exact absurd c2 (by decide)
      | t =>
        obtain ⟨o1, e1, c1, _⟩ := h2
        obtain ⟨o2, e2, c2, _⟩ := p2
        rw [e1] at e2
        cases e2
        rw [c1] at c2
        exact absurd c2 (by decide)
    have lx : i < its.toArray.size := by
      rw [List.size_toArray]
      exact (List.getElem?_eq_some_iff.mp hu).1
    have ly : i < its2.toArray.size := by
      rw [List.size_toArray]
      exact (List.getElem?_eq_some_iff.mp hu2).1
    refine wpAny_pyNext_zipD2_item D (drawsK k1 (A := X.A.in1) (I.ok.hd hc) i1 a nai its.toArray) (drawsK k2 (A := X.A.in1) (I.ok.hd hc) i2 b nbi its2.toArray) hz hTI hTO ⟨h1, p⟩ ⟨h2, p2⟩ lx ly fun x1 x2 h' tk hx1 hx2 z' TO' h1' h2' hT hsz hk => ?_
    have ex1 : x1 = u := Option.some.inj (hx1.symm.trans (by simpa using hu))
    have ex2 : x2 = u2 := Option.some.inj (hx2.symm.trans (by simpa using hu2))
    subst ex1 ex2
    refine ⟨_, rfl, wpAny_letOwnedTupleGo_zip (s := { s with heap := h', toks := tk }) z' fun h'' z'' sb => ?_⟩
    have hT2 : h''.get? s.heap.objs.size = some { cls := .type "tuple", data := .seq #[x1, x2] } := (sb.2 _ (Nat.ne_of_gt hzl)).trans hT
    have new : ObjOk X.prog X.w (upd H s.heap.objs.size (.tup [x, y])) h'' s.heap.objs.size (.tup [x, y]) :=
      ⟨by show 2 ≤ sizeLine; decide, [x1, x2], .cons ru (.cons ru2 .nil), ⟨_, hT2, rfl, _, rfl⟩⟩
    have I1 : Inv X pins σ (upd H s.heap.objs.size (.tup [x, y])) { s with heap := h'', toks := tk } :=
      I.turnedNew (t' := tk) (ch := [z, TI, TO, i1, i2]) (fun c o hb q => (sb.2 c (fun q' => hb (by simp [q']))).trans (hk c o (fun q' => hb (by simp [q'])) (fun q' => hb (by simp [q'])) (fun q' => hb (by simp [q'])) (fun q' => hb (by simp [q'])) q)) hf (Nat.le_refl _) new
    refine ⟨.ref s.heap.objs.size, _, I1, rfl, ⟨_, x, y, rfl, I.hok.fresh (Nat.le_refl _), rfl, fun l hl => by rw [sqK_inj I hl hqx]; exact hx, fun l hl => by rw [sqK_inj I hl hqy]; exact hy⟩, ⟨z'', ?_, ⟨x1, x2, ?_⟩, ?_, ?_⟩, fun c hcm => ?_⟩
    · exact (sb.2 _ D.TIz).trans (hk _ _ D.TIz D.TITO D.TIi1 D.TIi2 hTI)
    · exact (sb.2 _ D.TOz).trans TO'
    · exact itK_at h1'.1 fun o q => (sb.2 _ (Ne.symm D.zi1)).trans q
    · exact itK_at h2'.1 fun o q => (sb.2 _ (Ne.symm D.zi2)).trans q
    · have hlt : c < s.heap.objs.size := by
        have e' : c = z ∨ c = TI ∨ c = TO ∨ c = i1 ∨ c = i2 := by simpa using hcm
        rcases e' with q | q | q | q | q
        · rw [q]; exact hzl
        · rw [q]; exact Heap.lt_size hTI
        · rw [q]; exact Heap.lt_size hTO
        · rw [q]; obtain ⟨_, e1, _⟩ := itK_obj h1; exact Heap.lt_size e1
        · rw [q]; obtain ⟨_, e2, _⟩ := itK_obj h2; exact Heap.lt_size e2
      rw [upd_ne (Nat.ne_of_lt hlt)]
      exact (hf c hcm).1
  done := by
    intro X hP hw hK hc i pins s σ H E I hf st hg
    subst hP hw hK
    obtain ⟨hz, hTI, ⟨x0, y0, hTO⟩, h1, h2⟩ := st
    obtain ⟨xs, ys, hqx, hqy, hix, hiy, hend⟩ := hg
    obtain ⟨its, rv, p⟩ := hasK_of I hqx
    obtain ⟨its2, rv2, p2⟩ := hasK_of I hqy
    have l1 := rv.length
    have l2 := rv2.length
    have nai : a ≠ i1 := fun q => by
      subst q
      cases k1 with
      | l =>
        obtain ⟨o1, e1, c1, _⟩ := h1
        obtain ⟨o2, e2, c2, _⟩ := p
        rw [e1] at e2
        cases e2
        rw [c1] at c2
        exact absurd c2 (by decide)
      | t =>
        obtain ⟨o1, e1, c1, _⟩ := h1
        obtain ⟨o2, e2, c2, _⟩ := p
        rw [e1] at e2
        cases e2
        rw [c1] at c2
        exact absurd c2 (by decide)
    have nbi : b ≠ i2 := fun q => by
      subst q
      cases k2 with
      | l =>
        obtain ⟨o1, e1, c1, _⟩ := h2
        obtain ⟨o2, e2, c2, _⟩ := p2
        rw [e1] at e2
        cases e2
        rw [c1] at c2
        exact absurd c2 (by decide)
      | t =>
        obtain ⟨o1, e1, c1, _⟩ := h2
        obtain ⟨o2, e2, c2, _⟩ := p2
        rw [e1] at e2
        cases e2
        rw [c1] at c2
        exact absurd c2 (by decide)
    refine wpAny_pyNext_zipD2_end D (drawsK k1 (A := X.A.in1) (I.ok.hd hc) i1 a nai its.toArray) (drawsK k2 (A := X.A.in1) (I.ok.hd hc) i2 b nbi its2.toArray) hz hTI hTO ⟨h1, p⟩ ⟨h2, p2⟩ (by rw [List.size_toArray]; omega) (by rw [List.size_toArray]; omega) (by rw [List.size_toArray, List.size_toArray]; omega) fun h' tk hk => ⟨rfl, I.turnedL (t' := tk) (ch := [z, TI, TO, i1, i2]) (fun c o hb q =>
      hk c o (fun q' => hb (by simp [q'])) (fun q' => hb (by simp [q'])) (fun q' => hb (by simp [q'])) (fun q' => hb (by simp [q'])) q) hf⟩
  self := fun A i s Q E st h => wpAny_pyIter_zip st.1 h
def iZipK (K : PySem.W.Frag) (k1 k2 : Kd) (ta : TA) : TI := fun σ H R => ta σ H fun vs H1 => ∃ a b xs ys, vs = [.ref a, .ref b] ∧ SqK K k1 H1 a xs ∧ SqK K k2 H1 b ys ∧ R (ItzK K k1 k2 a b) H1
theorem pi_zipK (k1 k2 : Kd) {X : Cx} {e e2 : Expr} {ta : TA} {p pos tpos : Pos} {elts : List Expr} {kk : Nat} (hg : Gl X "zip") (hm : X.mg "zip" = none) (ha : PA X [e, e2] ta)
    (hs : starEach [e, e2] X.env = (false, eval e X.env) :: starEach [e2] X.env := by rfl) (hpl : (backTo pos (starEach [e2] X.env)).any (·.1) = false := by rfl) :
    PI X (.Tuple elts kk tpos) (.Call (.Name "zip" p) [e, e2] [] pos) (iZipK X.K k1 k2 ta) := by
  refine ⟨fun pins s σ H R I h => ?_⟩
  refine Call_ (ld_blt I hg hm PyProof.Rows.boot_zip (PyProof.Rows.callWith_type1 (thn (ha.run pos pins s σ H _ I h) fun us s1 ⟨vs, H1, I1, r1, q1⟩ => ?_) hs hpl))
  obtain ⟨a, b, xs, ys, ex, hqx, hqy, q⟩ := q1
  subst ex
  cases r1 with
  | cons r rr =>
    cases rr with
    | cons r' rr =>
      cases rr
      cases r
      cases r'
      have fresh5 : ∀ c, c ∈ [s1.heap.objs.size + 4, s1.heap.objs.size + 2, s1.heap.objs.size + 3, s1.heap.objs.size, s1.heap.objs.size + 1] → FpOk X pins H1 c := fun c hcm => by
        have e' : c = s1.heap.objs.size + 4 ∨ c = s1.heap.objs.size + 2 ∨ c = s1.heap.objs.size + 3 ∨ c = s1.heap.objs.size ∨ c = s1.heap.objs.size + 1 := by simpa using hcm
        have hle : s1.heap.objs.size ≤ c := by
          rcases e' with z | z | z | z | z
          · rw [z]; exact Nat.le_add_right _ _
          · rw [z]; exact Nat.le_add_right _ _
          · rw [z]; exact Nat.le_add_right _ _
          · rw [z]; exact Nat.le_refl _
          · rw [z]; exact Nat.le_add_right _ _
        exact I1.fpOk hle (I1.hok.fresh hle)
      obtain ⟨its, rv, p1⟩ := hasK_of I1 hqx
      obtain ⟨its2, rv2, p2⟩ := hasK_of I1 hqy
      refine zip_begins2 (beginsK k1 a its.toArray) (beginsK k2 b its2.toArray) p1 p2 fun h' hz hTI hTO h1 h2 hsz hk => wpAny_pyIter_zip hz ?_
      have I2 : Inv X pins σ H1 { s1 with heap := h' } := I1.kept (t' := s1.toks) hk
      have hsep := zip_sep2 (N := s1.heap.objs.size) (fp1 := [a]) (fp2 := [b]) (fun c hc => by rw [List.mem_singleton.mp hc]; exact hasK_lt p1) (fun c hc => by rw [List.mem_singleton.mp hc]; exact hasK_lt p2)
      exact ⟨s1.heap.objs.size + 4, [s1.heap.objs.size + 4, s1.heap.objs.size + 2, s1.heap.objs.size + 3, s1.heap.objs.size, s1.heap.objs.size + 1], _, _, H1, rfl, I2, turn_zipK hsep, ⟨hz, hTI, ⟨_, _, hTO⟩, itK_0 h1, itK_0 h2⟩, fresh5, q⟩
theorem walk_zipK {K : PySem.W.Frag} {k1 k2 : Kd} {a b : Addr} {xs ys : List V} {n : Nat} (hn : n = min xs.length ys.length) : Walk (ItzK K k1 k2 a b) n (fun H => SqK K k1 H a xs ∧ SqK K k2 H b ys) (YPair (fun i => xs[i]?) (fun i => ys[i]?)) := by
  subst hn
  refine ⟨fun i _ hi q => ?_, fun _ q => ⟨xs, ys, q.1, q.2, by omega, by omega, by omega⟩, fun i H v H' _ q y => ?_⟩
  · have h1 : i < xs.length := by omega
    have h2 : i < ys.length := by omega
    exact ⟨xs, ys, xs[i], ys[i], q.1, q.2, by simp [h1], by simp [h2]⟩
  · obtain ⟨T, x, z, h1, h2, h3, h4, h5⟩ := y
    exact ⟨T, x, z, h1, h2, h3, h4 xs q.1, h5 ys q.2⟩
/-- the items of a list or tuple -/
def itemsK : Kd → PyData → Option (List PyData)
  | .l, .list l => some l
  | .t, .tuple l => some l
  | _, _ => none
theorem dp_itemsK {K : PySem.W.Frag} {H : Hp} {v : V} {d : PyData} {k : Kd} {l : List PyData} (h : Dp K H v d) (e : itemsK k d = some l) : ∃ a xs, v = .ref a ∧ SqK K k H a xs ∧ DpAll K H xs l := by
  unfold itemsK at e
  split at e
  · cases e
    exact h.lst_of
  · cases e
    exact h.tup_of
  · cases e
def pairs : List PyData → List PyData → List PyData := fun xs ys => List.zipWith (fun x y => .tuple [x, y]) xs ys
def iZ (k1 k2 : Kd) (r : FL) : FL := fun env => match r env with
  | some [x, y] => (itemsK k1 x).bind fun xs => (itemsK k2 y).bind fun ys => some (pairs xs ys)
  | _ => none
theorem i_zip (k1 k2 : Kd) {X : Cx} {e e2 : Expr} {r : FL} {p pos tpos : Pos} {elts : List Expr} {kk : Nat} (hg : Gl X "zip") (hm : X.mg "zip" = none) (ha : PA X [e, e2] (tA X.K r))
    (hs : starEach [e, e2] X.env = (false, eval e X.env) :: starEach [e2] X.env := by rfl) (hpl : (backTo pos (starEach [e2] X.env)).any (·.1) = false := by rfl) :
    PI X (.Tuple elts kk tpos) (.Call (.Name "zip" p) [e, e2] [] pos) (tI X.K (iZ k1 k2 r)) := pi_le (pi_zipK k1 k2 hg hm ha hs hpl) fun σ H R ⟨Z, Hf, env, ds, Rl, hf, k⟩ => by
  unfold iZ at hf
  split at hf
  · rename_i x y hr
    obtain ⟨xs, hx, hf⟩ := Option_bind_some hf
    obtain ⟨ys, hy, hf⟩ := Option_bind_some hf
    cases hf
    refine ⟨Z, Hf, env, _, Rl, hr, fun vs H1 Hf1 s1 d1 => ?_⟩
    obtain ⟨v, w, rfl, hv, hw⟩ := d1.two
    obtain ⟨a, us, rfl, ha, hda⟩ := dp_itemsK hv hx
    obtain ⟨b, ws, rfl, hb, hdb⟩ := dp_itemsK hw hy
    refine ⟨a, b, us, ws, rfl, sqK_up s1.i ha, sqK_up s1.i hb, k _ H1 Hf1 s1 ?_⟩
    have hl : (pairs xs ys).length = min us.length ws.length := by
      unfold pairs
      rw [List.length_zipWith, hda.len, hdb.len]
    have w := walk_zipK (K := X.K) (k1 := k1) (k2 := k2) (a := a) (b := b) (xs := us) (ys := ws) hl
    refine w.mono (fun H h => ⟨sqK_up h ha, sqK_up h hb⟩) fun i H v H' hi _ y => ?_
    obtain ⟨T, x, z, h1, h2, h3, h4, h5⟩ := y
    obtain ⟨dx, e1, q1⟩ := hda.get h4
    obtain ⟨dy, e2, q2⟩ := hdb.get h5
    refine ⟨.tuple [dx, dy], ?_, .inr ⟨T, [x, z], [dx, dy], h1, h2, h3, rfl, .cons q1 (.cons q2 .nil)⟩⟩
    unfold pairs
    rw [List.getElem?_zipWith, e1, e2]
  · cases hf

theorem meets_enum1 {v : Value} {o : Obj} {H : Heap → Prop} (B : Begins v o H) :
    Meets (Builtin.«enumerate.__new__» ⟨[.type "enumerate", v], []⟩) (fun _ R s => H s.heap ∧
      R (.ok (.ret (.ref (s.heap.push o).objs.size))) { s with heap := (s.heap.push o).push { cls := .type "enumerate", data := .fields #[.none, .bool false, .ref s.heap.objs.size, rawInt 0, .none, .none] } }) :=
  .of_wp fun prog w A R s h => by
    obtain ⟨hp, g, d, tk, os⟩ := s; obtain ⟨h1, h⟩ := h
    have hsub := sub_enumerate
    have q1 : ∀ {A' : Around} {E : Value → Shared → Prop} {Q : Value → Shared → Prop}, Q (.ref hp.objs.size) ⟨hp.push o, g, d, tk, os⟩ → wpAny (model prog w) A' (pyIter v) Q E ⟨hp, g, d, tk, os⟩ :=
      fun q => B.iter prog w _ _ ⟨hp, g, d, tk, os⟩ _ h1 q
    wp_walk using q1
    refine wpAny_stack_any fun st => wpAny_pure ?_
    split
    · rename_i c _ _ _ _ _
      cases (c == Value.type "enumerate")
      · wp_walk using q1
        exact ⟨_, rfl, h⟩
      · wp_walk using q1
        exact ⟨_, rfl, h⟩
    · wp_walk using q1
      exact ⟨_, rfl, h⟩
theorem enum1_begins {prog : Program} {w : World} {A : Around} {E : Value → Shared → Prop} {s : Shared} {v : Value} {o : Obj} {H : Heap → Prop} {Q : Value → Shared → Prop} (B : Begins v o H) (h1 : H s.heap)
    (h : ∀ h', IsEnum h' (s.heap.objs.size + 1) s.heap.objs.size 0 .none → h'.get? s.heap.objs.size = some o → h'.objs.size = s.heap.objs.size + 2 →
      (∀ b o, s.heap.get? b = some o → h'.get? b = some o) → Q (.ref (s.heap.objs.size + 1)) { s with heap := h' }) :
    wpAny (model prog w) A (call (.type "enumerate") [v]) Q E s := by
  refine callType_new F.called_enumerate (by decide) (F.typeCall_enumerate_1 _) (F.newCall_enumerate_1 _) (fun obj => F.args_object_init_2 obj _) F.entry_enumerate_new
    (meets_enum1 B) ⟨h1, ?_⟩
  have hz : (s.heap.push o).objs.size = s.heap.objs.size + 1 := Heap.size_push ..
  show _ ∧ _
  rw [hz]
  have he : IsEnum ((s.heap.push o).push { cls := .type "enumerate", data := .fields #[.none, .bool false, .ref s.heap.objs.size, rawInt 0, .none, .none] }) (s.heap.objs.size + 1) s.heap.objs.size 0 .none := by
    have := Heap.get?_push_size (s.heap.push o) (o := { cls := .type "enumerate", data := .fields #[.none, .bool false, .ref s.heap.objs.size, rawInt 0, .none, .none] }) rfl
    rw [hz] at this; exact this
  refine ⟨⟨_, he, rfl⟩, h _ he (Heap.get?_push_of_some _ (Heap.get?_push_size _ B.free)) (by rw [Heap.size_push, hz]) fun b o x => Heap.get?_push_of_some _ (Heap.get?_push_of_some _ x)⟩
def IteK (K : PySem.W.Frag) (k : Kd) (a : Addr) : It :=
  ⟨fun i H => ∃ (xs : List V) (x : V), SqK K k H a xs ∧ xs[i]? = some x, fun i H v H' => ∃ T x, v = .ref T ∧ H T = none ∧ H' = upd H T (.tup [.int (i : Nat), x]) ∧ ∀ xs, SqK K k H a xs → xs[i]? = some x, fun i H => ∃ xs : List V, SqK K k H a xs ∧ i = xs.length⟩
theorem turn_enumK {P : Program} {w : World} {K : PySem.W.Frag} {elts : List Expr} {kk : Nat} {tpos : Pos} {k : Kd} (a e it : Addr) :
    Turn P w K (.Tuple elts kk tpos) (IteK K k a) [e, it] e (fun i h => (∃ old, IsEnum h e it ((i : Nat) : Int) old) ∧ ItK k h it a i ∧ e ≠ it) where
  mem := by simp
  obj := fun i h st b hb => by
    obtain ⟨⟨old, he⟩, hi, _⟩ := st
    have e' : b = e ∨ b = it := by simpa using hb
    rcases e' with z | z
    · rw [z]; exact ⟨_, he, fun v q => nomatch q⟩
    · rw [z]; exact itK_obj hi
  keep := fun i h h' st k => let ⟨⟨old, he⟩, hi, hne⟩ := st; ⟨⟨old, k e (by simp) _ he⟩, itK_at hi fun o q => k it (by simp) o q, hne⟩
  item := by
    intro X hP hw hK hc i pins s σ H E I hf st hg
    subst hP hw hK
    obtain ⟨⟨old, he⟩, hit, hne⟩ := st
    obtain ⟨xs, x, hq, hx⟩ := hg
    obtain ⟨its, rv, p⟩ := hasK_of I hq
    obtain ⟨u, hu, ru⟩ := rv.get hx
    have hel : e < s.heap.objs.size := Heap.lt_size he
    have hil : it < s.heap.objs.size := by obtain ⟨_, q, _⟩ := itK_obj hit; exact Heap.lt_size q
    have nai : a ≠ it := fun q => by
      subst q
      cases k with
      | l =>
        obtain ⟨o1, e1, c1, _⟩ := hit
        obtain ⟨o2, e2, c2, _⟩ := p
        rw [e1] at e2
        cases e2
        rw [c1] at c2
        exact absurd c2 (by decide)
      | t =>
        obtain ⟨o1, e1, c1, _⟩ := hit
        obtain ⟨o2, e2, c2, _⟩ := p
        rw [e1] at e2
        cases e2
        rw [c1] at c2
        exact absurd c2 (by decide)
    have nae : a ≠ e := fun q => by
      subst q
      cases k with
      | l =>
        obtain ⟨o2, e2, c2, _⟩ := p
        rw [he] at e2
        cases e2
        have c3 : Value.type "enumerate" = _ := c2
        exact absurd c3 (by decide)
      | t =>
        obtain ⟨o2, e2, c2, _⟩ := p
        rw [he] at e2
        cases e2
        have c3 : Value.type "enumerate" = _ := c2
        exact absurd c3 (by decide)
    have lx : i < its.toArray.size := by
      rw [List.size_toArray]
      exact (List.getElem?_eq_some_iff.mp hu).1
    refine wpAny_pyNext_enum_itemD (drawsK k (A := X.A.in1) (I.ok.hd hc) it a nai its.toArray) he ⟨hit, p⟩ lx hne (by simp [hne, Ne.symm nae]) fun x1 h' tk hx1 ho hit' hT hsz hk => ?_
    have ex1 : x1 = u := Option.some.inj (hx1.symm.trans (by simpa using hu))
    subst ex1
    refine ⟨_, rfl, wpAny_letOwnedTupleGo_enum (s := { s with heap := h', toks := tk + 1 }) ho fun h'' he' sb => ?_⟩
    have hT2 : h''.get? s.heap.objs.size = some { cls := .type "tuple", data := .seq #[.int i tk, x1] } := (sb.2 _ (Nat.ne_of_gt hel)).trans hT
    have new : ObjOk X.prog X.w (upd H s.heap.objs.size (.tup [.int (i : Nat), x])) h'' s.heap.objs.size (.tup [.int (i : Nat), x]) :=
      ⟨by show 2 ≤ sizeLine; decide, [.int i tk, x1], .cons ⟨_, rfl⟩ (.cons ru .nil), ⟨_, hT2, rfl, _, rfl⟩⟩
    have I1 : Inv X pins σ (upd H s.heap.objs.size (.tup [.int (i : Nat), x])) { s with heap := h'', toks := tk + 1 } :=
      I.turnedNew (ch := [e, it]) (fun b ob hb q => (sb.2 b (fun z => hb (by simp [z]))).trans (hk b ob (fun z => hb (by simp [z])) (fun z => hb (by simp [z])) q)) hf (Nat.le_refl _) new
    refine ⟨.ref s.heap.objs.size, _, I1, rfl, ⟨_, x, rfl, I.hok.fresh (Nat.le_refl _), rfl, fun ys hy => by rw [sqK_inj I hy hq]; exact hx⟩, ⟨⟨x1, ?_⟩, itK_at hit'.1 fun o q => (sb.2 it (Ne.symm hne)).trans q, hne⟩, fun b hb => ?_⟩
    · have e1 : ((i + 1 : Nat) : Int) = (i : Int) + 1 := by omega
      rw [e1]; exact he'
    · have hb' : b < s.heap.objs.size := by
        have e' : b = e ∨ b = it := by simpa using hb
        rcases e' with z | z
        · rw [z]; exact hel
        · rw [z]; exact hil
      rw [upd_ne (Nat.ne_of_lt hb')]
      exact (hf b hb).1
  done := by
    intro X hP hw hK hc i pins s σ H E I hf st hg
    subst hP hw hK
    obtain ⟨⟨old, he⟩, hit, hne⟩ := st
    obtain ⟨xs, hq, hx⟩ := hg
    obtain ⟨its, rv, p⟩ := hasK_of I hq
    obtain ⟨f0, f1, f2, f3, f4, f5⟩ := hf it (by simp)
    have hl := rv.length
    have nai : a ≠ it := fun q => by
      subst q
      cases k with
      | l =>
        obtain ⟨o1, e1, c1, _⟩ := hit
        obtain ⟨o2, e2, c2, _⟩ := p
        rw [e1] at e2
        cases e2
        rw [c1] at c2
        exact absurd c2 (by decide)
      | t =>
        obtain ⟨o1, e1, c1, _⟩ := hit
        obtain ⟨o2, e2, c2, _⟩ := p
        rw [e1] at e2
        cases e2
        rw [c1] at c2
        exact absurd c2 (by decide)
    have ei : i = its.toArray.size := by
      rw [List.size_toArray]
      omega
    exact wpAny_pyNext_enum_endD (drawsK k (A := X.A.in1) (I.ok.hd hc) it a nai its.toArray) he (by rw [← ei]; exact ⟨hit, p⟩) fun h' eb => ⟨rfl, I.turned (t' := s.toks) (fun b o hb q => eb b o hb q) f0 f1 f3 f4 f5⟩
  self := fun A i s Q E st h => let ⟨⟨_, he⟩, _⟩ := st; wpAny_pyIter_enum he h
def iEnumK (K : PySem.W.Frag) (k : Kd) (ta : TA) : TI := fun σ H R => ta σ H fun vs H1 => ∃ a xs, vs = [.ref a] ∧ SqK K k H1 a xs ∧ R (IteK K k a) H1
theorem pi_enumK (k : Kd) {X : Cx} {e : Expr} {ta : TA} {p pos tpos : Pos} {elts : List Expr} {kk : Nat} (hg : Gl X "enumerate") (hm : X.mg "enumerate" = none) (ha : PA X [e] ta) (hs : starEach [e] X.env = [(false, eval e X.env)] := by rfl) :
    PI X (.Tuple elts kk tpos) (.Call (.Name "enumerate" p) [e] [] pos) (iEnumK X.K k ta) := by
  refine ⟨fun pins s σ H R I h => ?_⟩
  refine Call_ (ld_blt I hg hm boot_enumerate (PyProof.Rows.callWith_type1 (thn (ha.run pos pins s σ H _ I h) fun us s1 ⟨vs, H1, I1, r1, q1⟩ => ?_) hs rfl))
  obtain ⟨a, xs, ex, hq, q⟩ := q1
  subst ex
  cases r1 with
  | cons r rr =>
    cases rr
    cases r
    obtain ⟨its, rv, p'⟩ := hasK_of I1 hq
    refine enum1_begins (beginsK k a its.toArray) p' fun h' he hit hsz hk => wpAny_pyIter_enum he ?_
    have I2 : Inv X pins σ H1 { s1 with heap := h' } := I1.kept (t' := s1.toks) hk
    refine ⟨s1.heap.objs.size + 1, [s1.heap.objs.size + 1, s1.heap.objs.size], _, _, H1, rfl, I2, turn_enumK a (s1.heap.objs.size + 1) s1.heap.objs.size, ⟨⟨.none, he⟩, itK_0 hit, Nat.succ_ne_self _⟩, fun b hb => ?_, q⟩
    have e' : b = s1.heap.objs.size + 1 ∨ b = s1.heap.objs.size := by simpa using hb
    have hle : s1.heap.objs.size ≤ b := by
      rcases e' with z | z
      · rw [z]; exact Nat.le_add_right _ _
      · rw [z]; exact Nat.le_refl _
    exact I1.fpOk hle (I1.hok.fresh hle)
theorem walk_enumK {K : PySem.W.Frag} {k : Kd} {a : Addr} {xs : List V} : Walk (IteK K k a) xs.length (fun H => SqK K k H a xs) (YPair (fun i => some (.int (i : Nat))) (fun i => xs[i]?)) := by
  refine ⟨fun i _ hi q => ⟨xs, xs[i], q, by simp [hi]⟩, fun _ q => ⟨xs, q, rfl⟩, fun i H v H' _ q y => ?_⟩
  obtain ⟨T, x, h1, h2, h3, h4⟩ := y
  exact ⟨T, .int (i : Nat), x, h1, h2, h3, rfl, h4 xs q⟩
def enumD (xs : List PyData) : List PyData := List.zipWith (fun (i : Nat) y => .tuple [.int (i : Int), y]) (List.range xs.length) xs
def iEn (k : Kd) (r : FL) : FL := fun env => match r env with
  | some [x] => (itemsK k x).bind fun xs => some (enumD xs)
  | _ => none
theorem i_enum (k : Kd) {X : Cx} {e : Expr} {r : FL} {p pos tpos : Pos} {elts : List Expr} {kk : Nat} (hg : Gl X "enumerate") (hm : X.mg "enumerate" = none) (ha : PA X [e] (tA X.K r)) (hs : starEach [e] X.env = [(false, eval e X.env)] := by rfl) :
    PI X (.Tuple elts kk tpos) (.Call (.Name "enumerate" p) [e] [] pos) (tI X.K (iEn k r)) := pi_le (pi_enumK k hg hm ha hs) fun σ H R ⟨Z, Hf, env, ds, Rl, hf, kk⟩ => by
  unfold iEn at hf
  split at hf
  · rename_i x hr
    obtain ⟨xs, hx, hf⟩ := Option_bind_some hf
    cases hf
    refine ⟨Z, Hf, env, _, Rl, hr, fun vs H1 Hf1 s1 d1 => ?_⟩
    obtain ⟨v, rfl, hv⟩ := d1.one
    obtain ⟨a, us, rfl, ha, hda⟩ := dp_itemsK hv hx
    refine ⟨a, us, rfl, sqK_up s1.i ha, kk _ H1 Hf1 s1 ?_⟩
    have hl : (enumD xs).length = us.length := by
      unfold enumD
      rw [List.length_zipWith, List.length_range, hda.len, Nat.min_self]
    have w := walk_enumK (K := X.K) (k := k) (a := a) (xs := us)
    rw [← hl] at w
    refine w.mono (fun H h => sqK_up h ha) fun i H v H' hi _ y => ?_
    obtain ⟨T, x, z, h1, h2, h3, h4, h5⟩ := y
    obtain ⟨dy, e2, q2⟩ := hda.get h5
    have hil : i < xs.length := (List.getElem?_eq_some_iff.mp e2).1
    have ex : V.int (i : Nat) = x := Option.some.inj h4
    subst ex
    refine ⟨.tuple [.int (i : Int), dy], ?_, .inr ⟨T, [_, z], [_, dy], h1, h2, h3, rfl, .cons (.int _) (.cons q2 .nil)⟩⟩
    unfold enumD
    rw [List.getElem?_zipWith, e2, List.getElem?_range hil]
  · cases hf

theorem intsAre_get : ∀ {vs : List Value} {ns : List Int} {i : Nat} {v : Value}, IntsAre vs ns → vs[i]? = some v → ∃ t, v = .int (ns.getD i 0) t
  | _, _, _, _, .nil, e => by simp at e
  | _, _, 0, _, .cons n t _, e => by
    simp at e
    exact ⟨t, e.symm⟩
  | _, _, i + 1, v, .cons n t h, e => by
    obtain ⟨t', q⟩ := intsAre_get (i := i) (v := v) h (by simpa using e)
    exact ⟨t', by simpa using q⟩
theorem cr_sumT {X : Cx} (hc : X.calm = true) : CallR X (.builtin "sum") (fun vs H Q => ∃ (a : Addr) (ns : List Int), vs = [V.ref a] ∧ SqT X.K H a (ns.map V.int) ∧ Q (.int ns.sum) H) := by
  intro pins s σ H vs us Q I r h
  obtain ⟨a, ns, rfl, hs, q⟩ := h
  obtain ⟨its, rv, hl, _⟩ := I.tuple hs
  rw [Vals.ref1 r]
  have hi := rv.ints
  have ht : s.heap.IsTuple a its.toArray := hl
  have hlt : a < s.heap.objs.size := by obtain ⟨_, e, _⟩ := ht; exact Heap.lt_size e
  refine call_sum_walkG (wpAny_pyIter_tuple ht ?_)
  refine ⟨_, _, _, _, _, _, fun i => ns.getD i 0, rfl, Walks.tuple (A := X.A.in1) (I.ok.hd hc) _ a (Nat.ne_of_lt hlt) its.toArray, ⟨⟨_, Heap.get?_push_size _ rfl, rfl, rfl⟩, ht.at fun o e => Heap.get?_push_of_some _ e⟩, fun b hb => ?_, fun i v hv => intsAre_get hi (by simpa using hv), fun h' tk t' hk => ?_⟩
  · show b < (s.heap.push _).objs.size
    rw [Heap.size_push]
    rcases List.mem_cons.mp hb with rfl | hb
    · exact Nat.lt_succ_self _
    · rw [List.mem_singleton.mp hb]
      exact Nat.lt_succ_of_lt hlt
  · have hlen : its.toArray.size = ns.length := by rw [List.size_toArray, hi.length]
    refine ⟨.int ns.sum, H, I.kept fun b o eo => hk b o (fun hmem => ?_) (Heap.get?_push_of_some _ eo), ⟨t', ?_⟩, q⟩
    · exact absurd (List.mem_singleton.mp hmem ▸ Heap.lt_size eo) (Nat.lt_irrefl _)
    · rw [hlen, preSum_getD, List.take_length]
theorem cd_sum {X : Cx} (hc : X.calm = true) : CallD X (.builtin "sum") fSum := by
  intro pins s σ H xs us Q I r ⟨Hf, ds, dz, hi, hd, hf, k⟩
  unfold fSum at hf
  split at hf
  · obtain ⟨ns, hns, hf⟩ := Option_bind_some hf
    cases hf
    obtain ⟨v, rfl, hv⟩ := hd.one
    obtain ⟨p, ys, rfl, hp, ha⟩ := hv.lst_of
    rw [getInts_eq hns] at ha
    rw [ha.ints] at hp
    exact cr_sum hc pins s σ H _ us Q I r ⟨p, ns, rfl, hi.seq hp, k _ _ _ (.refl hi) (.int _)⟩
  · obtain ⟨ns, hns, hf⟩ := Option_bind_some hf
    cases hf
    obtain ⟨v, rfl, hv⟩ := hd.one
    obtain ⟨p, ys, rfl, hp, ha⟩ := hv.tup_of
    rw [getInts_eq hns] at ha
    rw [ha.ints] at hp
    exact cr_sumT hc pins s σ H _ us Q I r ⟨p, ns, rfl, sqT_up hi hp, k _ _ _ (.refl hi) (.int _)⟩
  · cases hf
end Fi

namespace Fi
open PySem PySem.Spec PyProof.Rows L2

def ownIx (i : Nat) (f : FE) : FE := fun env => match env[i]? with
  | some (some (.own l)) => match f env with
    | some (.int k) => atI l k
    | _ => none
  | _ => none
def ownLen (i : Nat) : FE := fun env => match env[i]? with
  | some (some (.own l)) => some (.int l.length)
  | _ => none
section
variable {X : Cx}
theorem x_ownIx (i : Nat) {x : Str} {e : Expr} {p pos : Pos} {f : FE} (he : PE X e (tE X.K f)) (hs : PlainIx e) (hN : X.N[i]? = some x := by rfl) (hv : Vis X.env.scope x := by first | exact Or.inl rfl | exact Or.inr (Or.inl rfl) | exact Or.inr (Or.inr rfl)) (hd : (x == ("__debug__" : Str)) = false := by decide)
    (hcd : (x == ("__classdict__" : Str)) = false := by decide) : PE X (.Subscript (.Name x p) e pos) (tE X.K (ownIx i f)) := pe_le (pe_ix ix_list (pe_var hN hv hd hcd) he hs) fun σ H Q ⟨Z, Hf, env, d, R, hf, k⟩ => by
  unfold ownIx at hf
  split at hf
  · rename_i l hl
    split at hf
    · rename_i kk hk
      obtain ⟨w, hs, p, vs, rfl, hz, hfp, hp, ha⟩ := R.sl i _ hl
      refine ⟨.ref p, hs, Z, Hf, env, _, R, hk, fun v H1 Hf1 s1 d1 => ?_⟩
      cases d1.int_eq
      obtain ⟨w, e, hw⟩ := atI_dp ha hf
      exact ⟨p, vs, kk, w, rfl, rfl, SqL.of (s1.h p _ hp), e, k _ _ _ s1 (Dp_up s1.f hw)⟩
    · cases hf
  · cases hf
end

structure Known (P : Program) (w : World) (K : PySem.W.Frag) (mg : Str → Option Value) (base : Heap) (k : Nat) (x : Str) (n : Nat) (F : List PyData → Option Sl) : Prop where
  ex : ∃ (f : Addr) (fd : FuncData) (ps : List Str), FnOk P w K mg base CX0 k f fd ps (spD K n F) ∧ mg x = some (.ref f) ∧ PySem.W.keepIn K (.ref f) = true ∧ Binds K fd ps []
abbrev FnP (K : PySem.W.Frag) (x : Str) (st : Stmt) (f : Addr) (fd : FuncData) : Prop := FunD K x x (defArgs st) (defBody st) (defScope st) [] [] f fd
theorem fnOk_mk {P : Program} {w : World} {K : PySem.W.Frag} {mg : Str → Option Value} {base : Heap} {x : Str} {st : Stmt} {f : Addr} {fd : FuncData} {N ps : List Str} {b : FS} {n np k : Nat} (hF : FnP K x st f fd) (S : FnScope N ps (defScope st)) (hn : N.length = n) (hp : ps.length = np)
    (hb : ∀ (cdv : Value) (A : Around) (outer : List Env) (s : Shared) (H : Hp) (E : XK), Room k (A.deeper (envOfC x (defScope st) s.heap.objs.size f cdv)) → PSs (cxOf CX0 P w K mg base N x (defScope st) f cdv A outer s H E).nox (defBody st) (tS K b)) :
    FnOk P w K mg base CX0 (k + 1) f fd ps (spD K np (fnD n b)) := by
  refine hF.ok S (fun vs H Q E h => ?_) (fun cdv A outer s H vs Q E hr h => ?_)
  · rw [h.1, hp]
  · obtain ⟨t, h1, h2⟩ := body_ok (X := (cxOf CX0 P w K mg base N x (defScope st) f cdv A outer s H E).nox) hn (hb cdv A outer s H E hr) h
    exact ⟨t, h1.nox, h2⟩
theorem known_mk {P : Program} {w : World} {K : PySem.W.Frag} {mg : Str → Option Value} {base : Heap} {x : Str} {st : Stmt} {f : Addr} {N ps : List Str} {b : FS} {n np k : Nat} (hF : ∃ fd, FnP K x st f fd) (hm : mg x = some (.ref f)) (S : FnScope N ps (defScope st)) (hn : N.length = n) (hp : ps.length = np)
    (hbd : ∀ (kV doc pm : Value) (an : Option Addr) (cdv ct : Value) (us : List Value), us.length = ps.length → bindArgs (PySem.W.fnOf x x (defArgs st) (defBody st) (defScope st) .none kV doc pm an cdv ct) ⟨us, []⟩ = pure (ps.zip us))
    (hb : ∀ (cdv : Value) (A : Around) (outer : List Env) (s : Shared) (H : Hp) (E : XK), Room k (A.deeper (envOfC x (defScope st) s.heap.objs.size f cdv)) → PSs (cxOf CX0 P w K mg base N x (defScope st) f cdv A outer s H E).nox (defBody st) (tS K b)) :
    Known P w K mg base (k + 1) x np (fnD n b) := by
  obtain ⟨fd, hF⟩ := hF
  exact ⟨f, fd, ps, fnOk_mk hF S hn hp hb, hm, hF.kp, hF.bindsN hbd⟩
section
variable {X : Cx} {j k : Nat} {F : List PyData → Option Sl} {n : Nat} {x : Str} {p pos : Pos} {e : Expr} {es : List Expr} {r : FL}
theorem x_fn (G : Known X.prog X.w X.K X.mg X.base j x n F) (hr : Room k X.A) (ha : PA X (e :: es) (tA X.K r)) (hln : ∀ env ds, r env = some ds → ds.length = es.length + 1) (hg : Gl X x := by rfl) (hjk : j ≤ k := by decide) (hn : n = es.length + 1 := by rfl) (hdb : (x == ("__debug__" : Str)) = false := by decide) (he : starEach (e :: es) X.env = (false, eval e X.env) :: starEach es X.env := by rfl) (hpl : (backTo pos (starEach es X.env)).any (·.1) = false := by rfl) :
    PE X (.Call (.Name x p) (e :: es) [] pos) (tE X.K (eCallF F r)) := by
  subst hn
  obtain ⟨f, fd, ps, h1, h2, h3, h4⟩ := G.ex
  exact x_call h1 (hr.mono hjk) hg h2 h3 h4 ha hln hdb he hpl
theorem l_fn (G : Known X.prog X.w X.K X.mg X.base j x n F) (hr : Room k X.A) (ha : PA X (e :: es) (tA X.K r)) (hln : ∀ env ds, r env = some ds → ds.length = es.length + 1) (hg : Gl X x := by rfl) (hjk : j ≤ k := by decide) (hn : n = es.length + 1 := by rfl) (hdb : (x == ("__debug__" : Str)) = false := by decide) (he : starEach (e :: es) X.env = (false, eval e X.env) :: starEach es X.env := by rfl) (hpl : (backTo pos (starEach es X.env)).any (·.1) = false := by rfl) :
    PE X (.Call (.Name x p) (e :: es) [] pos) (tL X.K (lCallF F r)) := by
  subst hn
  obtain ⟨f, fd, ps, h1, h2, h3, h4⟩ := G.ex
  exact l_call h1 (hr.mono hjk) hg h2 h3 h4 ha hln hdb he hpl
end
theorem dp_ints {K : PySem.W.Frag} {H : Hp} : ∀ ns : List Int, DpAll K H (ns.map V.int) (ns.map PyData.int)
  | [] => .nil
  | n :: ns => .cons (.int n) (dp_ints ns)
end Fi

namespace Fi
open PySem PySem.Spec PyProof.Rows L2

def rCatD (K : PySem.W.Frag) : R2 := fun x y H Q => ∃ a b xs ys, x = .ref a ∧ y = .ref b ∧ SqL K H a xs ∧ SqL K H b ys ∧ xs.length + ys.length ≤ sizeLine ∧ ∀ p, H p = none → Q (.ref p) (upd H p (.lst (xs ++ ys)))
def lCat (f g : FE) : FL := fun env => (f env).bind fun x => (g env).bind fun y => match x, y with
  | .list a, .list b => if a.length + b.length ≤ 100000 then some (a ++ b) else none
  | _, _ => none
section
variable {X : Cx} {a b e : Expr} {f g : FE} {pos : Pos}
def tyD : PyData → String
  | .none => "NoneType"
  | .bool _ => "bool"
  | .int _ => "int"
  | .str _ => "str"
  | .list _ => "list"
  | .tuple _ => "tuple"
  | _ => "dict"
theorem tyX_of {K : PySem.W.Frag} {H : Hp} {v : V} {d : PyData} (h : Dp K H v d) : TyX K H v (.type (tyD d)) := by
  cases h with
  | non => exact .base .non
  | bl b => exact .base (.bl b)
  | int i => exact .base (.int i)
  | str x => exact .base (.str x)
  | lst hs _ =>
    rcases hs with h | ⟨o, its, n, hk, hc, _⟩
    · rcases h with h | ⟨o, h⟩
      · exact .base (.lst h)
      · exact .base (.frz h)
    · exact .kList hk hc
  | tup hs _ =>
    rcases hs with h | ⟨o, its, n, hk, hc, _⟩
    · rcases h with h | ⟨o, h⟩
      · exact .base (.tup h)
      · exact .fTuple h
    · exact .kTuple hk hc
def eIsI (T : String) (f : FE) : FE := fun env => (f env).bind fun d => (kitB (tyD d) T).map .bool
theorem x_isI {T : String} {x : Str} {p p2 : Pos} (hv : bootBuiltins x = some (.type T)) (hg : Gl X "isinstance") (hm : X.mg "isinstance" = none) (hg2 : Gl X x) (hm2 : X.mg x = none) (he : PE X e (tE X.K f)) (hn2 : x ≠ "__name__" := by decide) (hdb2 : (x == ("__debug__" : Str)) = false := by decide)
    (hs : starEach [e, .Name x p2] X.env = (false, eval e X.env) :: starEach [.Name x p2] X.env := by rfl) (hs2 : starEach [.Name x p2] X.env = (false, eval (.Name x p2) X.env) :: starEach [] X.env := by rfl) (hpl : (backTo pos (starEach [.Name x p2] X.env)).any (·.1) = false := by rfl) :
    PE X (.Call (.Name "isinstance" p) [e, .Name x p2] [] pos) (tE X.K (eIsI T f)) := by
  have ht : PE X (.Name x p2) (tC (.ty T)) := ⟨fun _ _ _ H _ I h => ld_blt I hg2 hm2 hv ⟨.ty T, H, I, rfl, h⟩ hn2 hdb2⟩
  refine pe_le (pe_callB call_isi hg hm boot_isinstance (pa_cons he (pa_cons ht pa_nil hs2) hs) (by decide) (by decide) hs hpl) fun σ H Q ⟨Z, Hf, env, d, R, hf, k⟩ => ?_
  obtain ⟨x, hx, hf⟩ := Option_bind_some hf
  obtain ⟨b, hb, rfl⟩ := Option.map_eq_some_iff.mp hf
  exact ⟨Z, Hf, env, x, R, hx, fun v H1 Hf1 s1 d1 => ⟨v, .ty T, .type (tyD x), .type T, b, rfl, .ty T, tyX_of (Dp_up s1.i d1), kit_ty hb, k _ H1 Hf1 s1 (.bl b)⟩⟩

def fIn : PyData → PyData → Option PyData
  | d, .list ds => if SeqAt.shaped d = true ∧ SeqAt.shaped (.list ds) = true then some (.bool (ds.any fun z => PyData.eqv z d)) else none
  | _, _ => none
def fNotIn : PyData → PyData → Option PyData
  | d, .list ds => if SeqAt.shaped d = true ∧ SeqAt.shaped (.list ds) = true then some (.bool (!ds.any fun z => PyData.eqv z d)) else none
  | _, _ => none
end
end Fi

namespace Fi
open PySem PySem.Spec PyProof.Rows L2
section
variable {K : PySem.W.Frag} {Z : Hp × Hp} {Hf H : Hp} {env : En} {σ : L2.St} {D : Addr} {o : HO}
def NoOwn (env : En) (σ : L2.St) (D : Addr) : Prop := ∀ (i : Nat) (x : Sl), env[i]? = some (some x) → x.hid = true → σ[i]? ≠ some (some (.ref D))
theorem Rel.noOwn (R : Rel K Z Hf H env σ) (h : H D = none) : NoOwn env σ D := fun i x e hx q => by
  cases x with
  | val d => cases hx
  | own l =>
    obtain ⟨v, h1, p, vs, rfl, _, _, h2, _⟩ := R.sl i _ e
    rw [q] at h1
    cases h1
    rw [h] at h2
    cases h2
  | dct l =>
    obtain ⟨v, h1, p, vs, rfl, _, _, h2, _⟩ := R.sl i _ e
    rw [q] at h1
    cases h1
    rw [h] at h2
    cases h2
theorem Rel.lock (R : Rel K Z Hf H env σ) (hf : Hf D = none) (h : H D = some o) (hn : NoOwn env σ D) : Rel K (Z.1, upd Z.2 D o) Hf H env σ := by
  refine ⟨⟨R.st.f, R.st.i, fun b x e => ?_, fun a x e q => ?_⟩, R.len, fun i s e => ?_, R.ds⟩
  · by_cases hb : b = D
    · subst hb
      have e : upd Z.2 b o b = some x := e
      rw [upd_same] at e
      rw [h, e]
    · have e : upd Z.2 D o b = some x := e
      rw [upd_ne hb] at e
      exact R.st.h b x e
  · by_cases hb : a = D
    · subst hb
      exact hf
    · have e : upd Z.2 D o a = some x := e
      rw [upd_ne hb] at e
      exact R.st.n a x e q
  · obtain ⟨v, h1, h2⟩ := R.sl i s e
    refine ⟨v, h1, ?_⟩
    cases s with
    | val d => exact h2
    | own l =>
      obtain ⟨p, vs, rfl, a, b, c, d⟩ := h2
      refine ⟨p, vs, rfl, ?_, b, c, d⟩
      have hp : p ≠ D := fun q => hn i (.own l) e rfl (by rw [h1, q])
      show upd Z.2 D o p = none
      rw [upd_ne hp]
      exact a
    | dct l =>
      obtain ⟨p, vs, rfl, a, b, c, d⟩ := h2
      refine ⟨p, vs, rfl, ?_, b, c, d⟩
      have hp : p ≠ D := fun q => hn i (.dct l) e rfl (by rw [h1, q])
      show upd Z.2 D o p = none
      rw [upd_ne hp]
      exact a
theorem Rel.unlock (R : Rel K (Z.1, upd Z.2 D o) Hf H env σ) (hz : Z.2 D = none) : Rel K Z Hf H env σ ∧ NoOwn env σ D := by
  refine ⟨⟨⟨R.st.f, R.st.i, fun b x e => ?_, fun a x e q => ?_⟩, R.len, fun i s e => ?_, R.ds⟩, fun i x e hx q => ?_⟩
  · exact R.st.h b x (by show upd Z.2 D o b = some x; rw [upd_ne (ne_of_none e hz)]; exact e)
  · exact R.st.n a x (by show upd Z.2 D o a = some x; rw [upd_ne (ne_of_none e hz)]; exact e) q
  · obtain ⟨v, h1, h2⟩ := R.sl i s e
    refine ⟨v, h1, ?_⟩
    cases s with
    | val d => exact h2
    | own l =>
      obtain ⟨p, vs, rfl, a, b, c, d⟩ := h2
      refine ⟨p, vs, rfl, ?_, b, c, d⟩
      have a : upd Z.2 D o p = none := a
      by_cases hp : p = D
      · rw [hp] 
        exact hz
      · rw [upd_ne hp] at a
        exact a
    | dct l =>
      obtain ⟨p, vs, rfl, a, b, c, d⟩ := h2
      refine ⟨p, vs, rfl, ?_, b, c, d⟩
      have a : upd Z.2 D o p = none := a
      by_cases hp : p = D
      · rw [hp] 
        exact hz
      · rw [upd_ne hp] at a
        exact a
  · cases x with
    | val d => cases hx
    | own l =>
      obtain ⟨v, h1, p, vs, rfl, a, _⟩ := R.sl i _ e
      rw [q] at h1
      cases h1
      have a : upd Z.2 D o D = none := a
      rw [upd_same] at a
      cases a
    | dct l =>
      obtain ⟨v, h1, p, vs, rfl, a, _⟩ := R.sl i _ e
      rw [q] at h1
      cases h1
      have a : upd Z.2 D o D = none := a
      rw [upd_same] at a
      cases a
theorem Rel.atD (R : Rel K Z Hf H env σ) (hf : Hf D = none) (hz : Z.2 D = none) (hn : NoOwn env σ D) (o : HO) : Rel K Z Hf (upd H D o) env σ := by
  refine ⟨⟨R.st.f, fun b x e => ?_, fun b x e => ?_, R.st.n⟩, R.len, fun i s e => ?_, R.ds⟩
  · rw [upd_ne (ne_of_none e hf)]
    exact R.st.i b x e
  · rw [upd_ne (ne_of_none e hz)]
    exact R.st.h b x e
  · obtain ⟨v, h1, h2⟩ := R.sl i s e
    refine ⟨v, h1, ?_⟩
    cases s with
    | val d => exact h2
    | own l =>
      obtain ⟨p, vs, rfl, a, b, c, d⟩ := h2
      have hp : p ≠ D := fun q => hn i (.own l) e rfl (by rw [h1, q])
      exact ⟨p, vs, rfl, a, b, by rw [upd_ne hp]; exact c, d⟩
    | dct l =>
      obtain ⟨p, vs, rfl, a, b, c, d⟩ := h2
      have hp : p ≠ D := fun q => hn i (.dct l) e rfl (by rw [h1, q])
      exact ⟨p, vs, rfl, a, b, by rw [upd_ne hp]; exact c, d⟩
end
theorem noOwn_wipe {env : En} {σ : L2.St} {D : Addr} (h : NoOwn env σ D) : ∀ vs : List Nat, NoOwn (wipeE env vs) (L2.wipe σ vs) D
  | [] => h
  | v :: vs => fun i x e hx q => by
    have ih := noOwn_wipe h vs
    unfold wipeE at e
    rcases set_cases e with ⟨_, z⟩ | ⟨hn, z⟩
    · cases z
    · unfold L2.wipe at q
      rw [List.getElem?_set_ne hn] at q
      exact ih i x z hx q
def lcD2 (g : PyData → En → Option En) (fj : FL) (u : PyData → En → Option En) (f : FE) (vs1 : List Nat) (env : En) : List PyData → Option (List PyData)
  | [] => some []
  | d :: ds => (g d env).bind fun e1 => (fj e1).bind fun es => (lcD u pYes f (wipeE e1 vs1) es).bind fun xs => (lcD2 g fj u f vs1 env ds).bind fun ys => some (xs ++ ys)
def lLc2 (fi : FL) (g : PyData → En → Option En) (fj : FL) (u : PyData → En → Option En) (f : FE) (vs vs1 : List Nat) : FL := fun env => (fi env).bind fun ds => (lcD2 g fj u f vs1 (wipeE env vs) ds).bind fun out => if out.length < 100000 then some out else none
theorem tLc2_of {K : PySem.W.Frag} {fi fj : FL} {g u : PyData → En → Option En} {f : FE} {vs vs1 sl sm : List Nat} (hsl : ∀ i ∈ sl, i ∈ vs) (hsm : ∀ i ∈ sm, i ∈ vs1) {σ : L2.St} {H : Hp} {Q : VK} (w : tL K (lLc2 fi g fj u f vs vs1) σ H Q) :
    tLc2 (tI K fi) (tG K false sl g) (tT K pYes) (tI K fj) (tG K false sm u) (tT K pYes) (tE K f) vs vs1 σ H Q := by
  obtain ⟨Z, Hf, env, out, R, hf, k⟩ := w
  obtain ⟨ds, hds, hf⟩ := Option_bind_some hf
  obtain ⟨out2, hout, hf⟩ := Option_bind_some hf
  split at hf
  · rename_i hlen
    cases hf
    refine ⟨Z, Hf, env, ds, R, hds, fun J H1 Hf1 s1 w D hD => ?_⟩
    have hD0 : H D = none := s1.h.free hD
    have hDf : Hf1 D = none := s1.i.free hD
    have hid := Stp.hid (o := .lst []) s1.i hD
    let Pv : Nat → Hp → Prop := fun i H' => ∃ (Hf' : Hp) (acc : List V) (da rs : List PyData), Stp Hf1 H1 Hf' H' ∧ Hf' D = none ∧ H' D = some (.lst acc) ∧ DpAll K Hf' acc da ∧ lcD2 g fj u f vs1 (wipeE env vs) (ds.drop i) = some rs ∧ out = da ++ rs
    refine ⟨fun i m H => m = ds.length - i ∧ i ≤ ds.length ∧ Pv i H, ⟨ds.length, by simp, Nat.zero_le _, Hf1, [], [], out, hid, hDf, upd_same, .nil, hout, rfl⟩, ?_⟩
    rintro i m H' ⟨rfl, hi, Hf', acc, da, rs, st, h1, h2, h3, h4, h5⟩
    have hG : Same Hf1 H' := st.f.trans st.i
    by_cases hlt : i < ds.length
    · refine .inr ⟨w.goes i H' hlt hG, Pv (i + 1), fun H2 p' => ⟨ds.length - (i + 1), by omega, rfl, hlt, p'⟩, fun x H2 y0 => ?_⟩
      have y := w.yields i H' x H2 hlt hG y0
      obtain ⟨d, hd, hdr⟩ := drop_get hlt
      rw [hdr] at h4
      obtain ⟨e1, hg1, h4⟩ := Option_bind_some h4
      obtain ⟨es, hes, h4⟩ := Option_bind_some h4
      obtain ⟨xs, hxs, h4⟩ := Option_bind_some h4
      obtain ⟨ys, hys, h4⟩ := Option_bind_some h4
      cases h4
      have R1 : Rel K Z Hf' H' (wipeE env vs) (L2.wipe σ vs) := ((R.step s1).wipe vs).step st
      obtain ⟨Hf2, st2, hx⟩ := yd_item y hd R1 st.f
      have hZ : Z.2 D = none := (R.step s1).st.h.free hD
      have no0 : NoOwn (wipeE env vs) (L2.wipe σ vs) D := ((R.step s1).wipe vs).noOwn hD
      have a1 : Hf2 D = none := st2.n D _ h2 h1
      have a2 : H2 D = some (.lst acc) := st2.h D _ h2
      refine ⟨(Z.1, upd Z.2 D (.lst acc)), Hf2, wipeE env vs, d, e1, (R1.step st2).lock a1 a2 no0, hx, hg1, fun σ3 H3 Hf3 s3 R3' pt ln mm => ?_⟩
      obtain ⟨rfl, rfl⟩ := mm rfl
      obtain ⟨R3, no3⟩ := Rel.unlock (Z := Z) R3' hZ
      have hw : L2.wipe σ3 vs = L2.wipe σ vs := by
        rw [← wipe_wipe σ vs]
        exact wipe_same (ln.trans rfl) fun i hi => pt i fun q => hi (hsl i q)
      refine ⟨hw, ?_⟩
      have st3 := st.trans st2
      have a3 := DpAll_up st2.f h3
      refine ⟨Z, Hf3, e1, true, R3, rfl, fun H4 Hf4 s4 => iteT ?_⟩
      have b1 : Hf4 D = none := s4.n D _ a2 a1
      have b2 : H4 D = some (.lst acc) := s4.h D _ a2
      have b3 := DpAll_up s4.f a3
      have st4 := st3.trans s4
      have R4 := R3.step s4
      refine ⟨Z, Hf4, e1, es, R4, hes, fun J1 H5 Hf5 s5 w1 => ?_⟩
      have c1 : Hf5 D = none := s5.n D _ b2 b1
      have c2 : H5 D = some (.lst acc) := s5.h D _ b2
      have c3 := DpAll_up s5.f b3
      have st5 := st4.trans s5
      have R5 := (R4.step s5).wipe vs1
      let Pw : Nat → Hp → Prop := fun j H' => ∃ (Hf' : Hp) (ac : List V) (dc qs : List PyData), Stp Hf1 H1 Hf' H' ∧ Same Hf5 Hf' ∧ Rel K Z Hf' H' (wipeE e1 vs1) (L2.wipe σ3 vs1) ∧ Hf' D = none ∧ H' D = some (.lst ac) ∧ DpAll K Hf' ac dc ∧ lcD u pYes f (wipeE e1 vs1) (es.drop j) = some qs ∧ out = dc ++ (qs ++ ys)
      refine ⟨fun j m H => m = es.length - j ∧ j ≤ es.length ∧ Pw j H, ⟨es.length, by simp, Nat.zero_le _, Hf5, acc, da, xs, st5, Same.refl _, R5, c1, c2, c3, hxs, by rw [h5]⟩, ?_⟩
      rintro j m H6 ⟨rfl, hj, Hf6, ac, dc, qs, st6, sm6, R6, d1, d2, d3, d4, d5⟩
      have hG6 : Same Hf5 H6 := sm6.trans st6.i
      by_cases hjl : j < es.length
      · refine .inr ⟨w1.goes j H6 hjl hG6, Pw (j + 1), fun H2 p' => ⟨es.length - (j + 1), by omega, rfl, hjl, p'⟩, fun x H7 y0 => ?_⟩
        have y1 := w1.yields j H6 x H7 hjl hG6 y0
        obtain ⟨d', hd', hdr'⟩ := drop_get hjl
        rw [hdr'] at d4
        obtain ⟨e2, hu1, d4⟩ := Option_bind_some d4
        have d4' : ((f e2).bind fun x => (lcD u pYes f (wipeE e1 vs1) (es.drop (j + 1))).bind fun xs => some (x :: xs)) = some qs := d4
        obtain ⟨x', hx', d4'⟩ := Option_bind_some d4'
        obtain ⟨zs, hzs, d4'⟩ := Option_bind_some d4'
        cases d4'
        obtain ⟨Hf7, st7, hx7⟩ := yd_item y1 hd' R6 sm6
        refine ⟨Z, Hf7, wipeE e1 vs1, d', e2, R6.step st7, hx7, hu1, fun σ8 H8 Hf8 s8 R8 pt8 ln8 mm8 => ?_⟩
        obtain ⟨rfl, rfl⟩ := mm8 rfl
        have hw8 : L2.wipe σ8 vs1 = L2.wipe σ3 vs1 := by
          rw [← wipe_wipe σ3 vs1]
          exact wipe_same (ln8.trans rfl) fun i hi => pt8 i fun q => hi (hsm i q)
        refine ⟨hw8, ?_⟩
        have e1' : Hf8 D = none := st7.n D _ d2 d1
        have e2' : H8 D = some (.lst ac) := st7.h D _ d2
        refine ⟨Z, Hf8, e2, true, R8, rfl, fun H9 Hf9 s9 => iteT ?_⟩
        refine ⟨Z, Hf9, e2, x', R8.step s9, hx', fun v HA HfA sA dA => ?_⟩
        have st89 := s9.trans sA
        have g1 : HfA D = none := st89.n D _ e2' e1'
        have g2 : HA D = some (.lst ac) := st89.h D _ e2'
        have stA := (st6.trans st7).trans st89
        have upA : Same Hf6 HfA := st7.f.trans st89.f
        have ha := DpAll_up upA d3
        have hdl : dc.length < 100000 := by
          have := congrArg List.length d5
          simp only [List.length_append] at this
          omega
        refine ⟨ac, g2, Nat.lt_of_lt_of_le (by rw [ha.len]; omega) (by decide : 100000 ≤ sizeLine), HfA, ac ++ [v], dc ++ [x'], zs, ⟨stA.f, fun b o e => ?_, fun b o e => ?_, stA.n⟩, sm6.trans upA, ?_, g1, upd_same, ha.app (.cons dA .nil), hzs, by rw [d5]; simp⟩
        · rw [upd_ne (ne_of_none e g1)]
          exact stA.i b o e
        · rw [upd_ne (ne_of_none e hD)]
          exact stA.h b o e
        · exact ((R6.step st7).step st89).atD g1 hZ (noOwn_wipe no3 vs1) _
      · have e : j = es.length := by omega
        subst e
        rw [List.drop_of_length_le (Nat.le_refl _)] at d4
        cases d4
        exact .inl ⟨w1.stops H6 hG6, Hf6, ac, dc, ys, st6, d1, d2, d3, hys, by simpa using d5⟩
    · have e : i = ds.length := by omega
      subst e
      rw [List.drop_of_length_le (Nat.le_refl _)] at h4
      cases h4
      rw [List.append_nil] at h5
      subst h5
      exact .inl ⟨w.stops H' hG, k D acc H' Hf' (s1.trans st) hD0 h1 h2 h3⟩
  · cases hf
section
variable {X : Cx} {elt tg iter tg1 iter1 : Expr} {scope : Scope} {own : List (Str × Nat)} {pos : Pos} {fi fj : FL} {g u : PyData → En → Option En} {f : FE} {sl sm vs vs1 : List Nat}
theorem s_setLc2 (i : Nat) {y : Str} {py spos : Pos} (hc : X.calm = true) (hN : X.N.Nodup) (hsw : swapsWith (.ListComp elt [⟨tg, iter, [], 0⟩, ⟨tg1, iter1, [], 0⟩] scope pos) (some (.Name y py)) spos.line X.env = pure true) (hi : PI X tg iter (tI X.K fi)) (ok : BlkOk X.N X.env.scope scope own)
    (hg : ∀ (s : Shared) (H : Hp) (C : Addr) (cl : List (Str × Addr)) (fp : List Addr), PG (X.blk s H scope (compEnvC scope cl C X.env) fp) tg (tG X.K false sl g))
    (hi1 : ∀ (s : Shared) (H : Hp) (C : Addr) (cl : List (Str × Addr)) (fp : List Addr), PI (X.blk s H scope (compEnvC scope cl C X.env) fp) tg1 iter1 (tI X.K fj))
    (hg1 : ∀ (s : Shared) (H : Hp) (C : Addr) (cl : List (Str × Addr)) (fp : List Addr), PG (X.blk s H scope (compEnvC scope cl C X.env) fp) tg1 (tG X.K false sm u))
    (he : ∀ (s : Shared) (H : Hp) (C : Addr) (cl : List (Str × Addr)) (fp : List Addr), PE (X.blk s H scope (compEnvC scope cl C X.env) fp) elt (tE X.K f)) (hy : X.N[i]? = some y := by rfl) (hyl : X.env.scope.names.lookup y = some .local := by rfl) (hvs : own.map (·.2) = vs := by rfl) (hv : ∀ i ∈ vs1, i ∈ vs := by decide) (hsl : ∀ i ∈ sl, i ∈ vs := by decide) (hsm : ∀ i ∈ sm, i ∈ vs1 := by decide)
    (hs : ∀ x, foldedSetIterable iter X.env x = pure x := by intro _; rfl) (hs1 : ∀ env x, foldedSetIterable iter1 env x = pure x := by intro _ _; rfl) :
    PS X (.Assign [.Name y py] (.ListComp elt [⟨tg, iter, [], 0⟩, ⟨tg1, iter1, [], 0⟩] scope pos) spos) (tS X.K (sOwn i (lLc2 fi g fj u f vs vs1))) := by
  subst hvs
  exact ps_le (ps_setLc2 hc hN hy hyl hsw hi ok hv hg (fun _ _ _ _ _ => q_nil) hi1 hg1 (fun _ _ _ _ _ => q_nil) he hs hs1) fun D σ H ⟨Z, Hf, env, o, R, hf, k⟩ => by
    obtain ⟨d, hd, rfl⟩ := Option.map_eq_some_iff.mp hf
    exact tLc2_of hsl hsm ⟨Z, Hf, env, d, R, hd, fun p vs H1 Hf1 s1 h0 h1 h2 d1 => k _ H1 Hf1 s1.f (R.setOwn s1 i h0 h1 h2 d1)⟩
end

def sortI (l : List Int) : List Int := l.mergeSort (fun a b => decide (a ≤ b))
def lSorted (f : FE) : FL := fun env => (f env).bind fun x => match x with
  | .list l => (getInts l).bind fun ns => some ((sortI ns).map .int)
  | _ => none
section
variable {X : Cx} {a b e : Expr} {f g : FE} {pos : Pos}
def lRep (l : FL) (g : FE) : FL := fun env => (l env).bind fun x => (g env).bind fun y => match y with
  | .int k => if x.length ≤ 100 ∧ k ≤ 1000 ∧ -1000 ≤ k then some (List.replicate k.toNat x).flatten else none
  | _ => none
end
end Fi
namespace Fi
open PySem L2
end Fi

namespace Fi
open PySem PySem.Spec PyProof.Rows L2

def ItzK3 (K : PySem.W.Frag) (k1 k2 k3 : Kd) (a b c : Addr) : It :=
  ⟨fun i H => ∃ (xs ys zs : List V) (x y z : V), SqK K k1 H a xs ∧ SqK K k2 H b ys ∧ SqK K k3 H c zs ∧ xs[i]? = some x ∧ ys[i]? = some y ∧ zs[i]? = some z,
    fun i H v H' => ∃ T x y z, v = .ref T ∧ H T = none ∧ H' = upd H T (.tup [x, y, z]) ∧ (∀ xs, SqK K k1 H a xs → xs[i]? = some x) ∧ (∀ ys, SqK K k2 H b ys → ys[i]? = some y) ∧ ∀ zs, SqK K k3 H c zs → zs[i]? = some z,
    fun i H => ∃ xs ys zs : List V, SqK K k1 H a xs ∧ SqK K k2 H b ys ∧ SqK K k3 H c zs ∧ i ≤ xs.length ∧ i ≤ ys.length ∧ i ≤ zs.length ∧ (i = xs.length ∨ i = ys.length ∨ i = zs.length)⟩
theorem itK_ne {k : Kd} {h : Heap} {it a : Addr} {i : Nat} {x : Array Value} (h1 : ItK k h it a i) (p : HasK k h a x) : a ≠ it := fun q => by
  subst q
  cases k with
  | l =>
    obtain ⟨o1, e1, c1, _⟩ := h1
    obtain ⟨o2, e2, c2, _⟩ := p
    rw [e1] at e2
    cases e2
    rw [c1] at c2
    exact absurd c2 (by decide)
  | t =>
    obtain ⟨o1, e1, c1, _⟩ := h1
    obtain ⟨o2, e2, c2, _⟩ := p
    rw [e1] at e2
    cases e2
    rw [c1] at c2
    exact absurd c2 (by decide)
def iZipK3 (K : PySem.W.Frag) (k1 k2 k3 : Kd) (ta : TA) : TI := fun σ H R => ta σ H fun vs H1 => ∃ a b c xs ys zs, vs = [.ref a, .ref b, .ref c] ∧ SqK K k1 H1 a xs ∧ SqK K k2 H1 b ys ∧ SqK K k3 H1 c zs ∧ R (ItzK3 K k1 k2 k3 a b c) H1
def triples : List PyData → List PyData → List PyData → List PyData
  | x :: xs, y :: ys, z :: zs => .tuple [x, y, z] :: triples xs ys zs
  | _, _, _ => []
def iZ3 (k1 k2 k3 : Kd) (r : FL) : FL := fun env => match r env with
  | some [x, y, z] => (itemsK k1 x).bind fun xs => (itemsK k2 y).bind fun ys => (itemsK k3 z).bind fun zs => some (triples xs ys zs)
  | _ => none
def lR1 (f : FE) : FL := fun env => match f env with
  | some (.int n) => if -100000 < n ∧ n < 100000 then some ((List.range n.toNat).map fun (i : Nat) => PyData.int (i : Int)) else none
  | _ => none
theorem dp_range {K : PySem.W.Frag} {H : Hp} (l : List Nat) : DpAll K H (l.map fun i => V.int (0 + (i : Nat))) (l.map fun (i : Nat) => PyData.int (i : Int)) := by
  induction l with
  | nil => exact .nil
  | cons a l ih =>
    refine .cons ?_ ih
    show Dp K H (V.int (0 + (a : Int))) (.int (a : Int))
    rw [Int.zero_add]
    exact .int _
section
variable {X : Cx} {e : Expr} {f g : FE} {pos : Pos}
theorem l_listRange {p p2 pos2 : Pos} (hc : X.calm = true) (hg : Gl X "list") (hm : X.mg "list" = none) (hg2 : Gl X "range") (hm2 : X.mg "range" = none) (he : PE X e (tE X.K f)) (na : starEach [e] X.env = (false, eval e X.env) :: starEach [] X.env := by rfl)
    (na2 : starEach [.Call (.Name "range" p2) [e] [] pos2] X.env = (false, eval (.Call (.Name "range" p2) [e] [] pos2) X.env) :: starEach [] X.env := by rfl) :
    PE X (.Call (.Name "list" p) [.Call (.Name "range" p2) [e] [] pos2] [] pos) (tL X.K (lR1 f)) := pe_le (pe_listRg hc hg hm (prg_1 hg2 hm2 he na) na2) fun σ H Q ⟨Z, Hf, env, d, R, hf, k⟩ => by
  unfold lR1 at hf
  split at hf
  · rename_i n hn
    split at hf
    · rename_i hb
      cases hf
      refine ⟨Z, Hf, env, _, R, hn, fun v H1 Hf1 s1 d1 => ?_⟩
      cases d1.int_eq
      refine ⟨n, rfl, ⟨by omega, by omega, by omega, by omega, by omega⟩, fun q hq => ?_⟩
      refine k q _ _ _ (s1.trans (Stp.hid s1.i hq)) (s1.h.free hq) (s1.i.free hq) upd_same ?_
      unfold rgV
      rw [Int.sub_zero]
      exact dp_range _
    · cases hf
  · cases hf

def ownNe (i : Nat) (g : FE) : FE := fun env => match env[i]? with
  | some (some (.own l)) => (g env).bind fun y => if SeqAt.shaped (.list l) = true ∧ SeqAt.shaped y = true then some (.bool (!PyData.eqv (.list l) y)) else none
  | _ => none
def ownIn (i : Nat) (g : FE) : FE := fun env => match env[i]? with
  | some (some (.own l)) => (g env).bind fun y => if SeqAt.shaped y = true ∧ SeqAt.shaped (.list l) = true then some (.bool (l.any fun z => PyData.eqv z y)) else none
  | _ => none
/-- isinstance(x, list) of an own list -/
def ownIsL (i : Nat) : FE := fun env => match env[i]? with
  | some (some (.own _)) => some (.bool true)
  | _ => none
end
end Fi

namespace Ob
open PySem PySem.Spec PyProof.Rows L2 Fi
section
variable {K : PySem.W.Frag} {Hf : Hp} {ρ : List Addr}
theorem DqAll.app : ∀ {vs us : List V} {ds es : List D}, DqAll K Hf ρ vs ds → DqAll K Hf ρ us es → DqAll K Hf ρ (vs ++ us) (ds ++ es)
  | _, _, _, _, .nil, h => h
  | _, _, _, _, .cons h t, q => .cons h (DqAll.app t q)
theorem DqAll.tk : ∀ {vs : List V} {ds : List D} (n : Nat), DqAll K Hf ρ vs ds → DqAll K Hf ρ (vs.take n) (ds.take n)
  | _, _, 0, _ => .nil
  | _, _, _ + 1, .nil => .nil
  | _, _, n + 1, .cons h t => .cons h (DqAll.tk n t)
theorem DqAll.dr : ∀ {vs : List V} {ds : List D} (n : Nat), DqAll K Hf ρ vs ds → DqAll K Hf ρ (vs.drop n) (ds.drop n)
  | _, _, 0, h => h
  | _, _, _ + 1, .nil => .nil
  | _, _, n + 1, .cons _ t => DqAll.dr n t
end
def D.py? : D → Option PyData
  | .py p => some p
  | _ => none
def pyAll : List D → Option (List PyData)
  | [] => some []
  | .py p :: r => (pyAll r).map (p :: ·)
  | _ :: _ => none
@[simp] theorem pyAll_nil : pyAll [] = some [] := rfl
@[simp] theorem pyAll_cons (p : PyData) (r : List D) : pyAll (.py p :: r) = (pyAll r).map (p :: ·) := rfl
theorem pyAll_map : ∀ ps : List PyData, pyAll (ps.map .py) = some ps
  | [] => rfl
  | p :: ps => by rw [List.map_cons, pyAll_cons, pyAll_map ps]; rfl
theorem pyAll_eq : ∀ {ds : List D} {ps : List PyData}, pyAll ds = some ps → ds = ps.map .py
  | [], ps, h => by cases h; rfl
  | .py p :: r, ps, h => by
    rw [pyAll_cons] at h
    cases e : pyAll r with
    | none => rw [e] at h; cases h
    | some qs =>
      rw [e] at h
      cases h
      rw [pyAll_eq e]
      rfl
  | .obj _ :: _, _, h => by cases h
  | .tup _ :: _, _, h => by cases h
  | .lst _ :: _, _, h => by cases h
  | .cls _ :: _, _, h => by cases h
section
variable {K : PySem.W.Frag} {Hf : Hp} {ρ : List Addr}
theorem Dq.dp {v : V} {p : PyData} (h : Dq K Hf ρ v (.py p)) : Dp K Hf v p := by cases h with | py h => exact h
theorem DqAll.dp : ∀ {ps : List PyData} {vs : List V}, DqAll K Hf ρ vs (ps.map .py) → DpAll K Hf vs ps
  | [], _, h => by cases h; exact .nil
  | p :: ps, _, h => by
    cases h with
    | cons h t => exact .cons h.dp (DqAll.dp t)
theorem dqAll_of : ∀ {ps : List PyData} {vs : List V}, DpAll K Hf vs ps → DqAll K Hf ρ vs (ps.map .py)
  | [], _, h => by cases h; exact .nil
  | p :: ps, _, h => by
    cases h with
    | cons h t => exact .cons (.py h) (dqAll_of t)
theorem DqAll.pure {vs : List V} {ds : List D} {ps : List PyData} (h : DqAll K Hf ρ vs ds) (e : pyAll ds = some ps) : DpAll K Hf vs ps := by
  rw [pyAll_eq e] at h
  exact h.dp
end
/-- a tuple, a list of these -/
def mkT (ds : List D) : D := match pyAll ds with
  | some ps => .py (.tuple ps)
  | none => .tup ds
def mkL (ds : List D) : D := match pyAll ds with
  | some ps => .py (.list ps)
  | none => .lst ds
theorem dq_mkT {K : PySem.W.Frag} {Hf : Hp} {ρ : List Addr} {a : Addr} {xs : List V} {ds : List D} (h : SqT K Hf a xs) (t : DqAll K Hf ρ xs ds) : Dq K Hf ρ (.ref a) (mkT ds) := by
  unfold mkT
  cases e : pyAll ds with
  | none => exact .tup h t
  | some ps => exact .py (.tup h (t.pure e))
theorem dq_mkL {K : PySem.W.Frag} {Hf : Hp} {ρ : List Addr} {a : Addr} {xs : List V} {ds : List D} (h : SqL K Hf a xs) (t : DqAll K Hf ρ xs ds) : Dq K Hf ρ (.ref a) (mkL ds) := by
  unfold mkL
  cases e : pyAll ds with
  | none => exact .lst h t
  | some ps => exact .py (.lst h (t.pure e))
def D.tup? : D → Option (List D)
  | .py (.tuple ps) => some (ps.map .py)
  | .tup ds => some ds
  | _ => none
def D.lst? : D → Option (List D)
  | .py (.list ps) => some (ps.map .py)
  | .lst ds => some ds
  | _ => none
theorem Dq.tup_of {K : PySem.W.Frag} {Hf : Hp} {ρ : List Addr} {v : V} {d : D} {ds : List D} (h : Dq K Hf ρ v d) (e : d.tup? = some ds) : ∃ a xs, v = .ref a ∧ SqT K Hf a xs ∧ DqAll K Hf ρ xs ds := by
  cases h with
  | py h =>
    cases h with
    | tup hs ha => cases e; exact ⟨_, _, rfl, hs, dqAll_of ha⟩
    | _ => cases e
  | tup hs ha => cases e; exact ⟨_, _, rfl, hs, ha⟩
  | _ => cases e
theorem Dq.lst_of {K : PySem.W.Frag} {Hf : Hp} {ρ : List Addr} {v : V} {d : D} {ds : List D} (h : Dq K Hf ρ v d) (e : d.lst? = some ds) : ∃ a xs, v = .ref a ∧ SqL K Hf a xs ∧ DqAll K Hf ρ xs ds := by
  cases h with
  | py h =>
    cases h with
    | lst hs ha => cases e; exact ⟨_, _, rfl, hs, dqAll_of ha⟩
    | _ => cases e
  | lst hs ha => cases e; exact ⟨_, _, rfl, hs, ha⟩
  | _ => cases e
theorem OjOk.has {K : PySem.W.Frag} {Hf H : Hp} {ρ : List Addr} {a : Addr} {o : Oj} (h : OjOk K ρ Hf H a o) : ∃ u, H a = some u := by
  cases o with
  | ins c fs =>
    obtain ⟨dx, vs, h1, _⟩ := h
    exact ⟨_, h1⟩
  | lst ds =>
    obtain ⟨vs, h1, _⟩ := h
    exact ⟨_, h1⟩
  | tab q =>
    obtain ⟨_, ps, h1, _⟩ := h
    exact ⟨_, h1⟩
  | dct ks =>
    obtain ⟨vs, h1, _⟩ := h
    exact ⟨_, h1⟩
section
variable {K : PySem.W.Frag} {ρ ρ' : List Addr} {Hf H Hf' H' : Hp} {st : Stor}
theorem StOk.has (S : StOk K ρ Hf H st) {a : Addr} (m : a ∈ ρ) : ∃ u, H a = some u := by
  obtain ⟨n, hn, e⟩ := List.mem_iff_getElem.mp m
  have e1 : ρ[n]? = some a := by rw [List.getElem?_eq_getElem hn, e]
  have hl : n < st.length := by rw [← S.len]; exact hn
  exact (S.ob n a st[n] e1 (List.getElem?_eq_getElem hl)).has
/-- nothing of the store is changed -/
theorem StOk.stp (S : StOk K ρ Hf H st) (s : Stp Hf H Hf' H') : StOk K ρ Hf' H' st where
  i := s.i
  len := S.len
  nd := S.nd
  hid := fun a m => by
    obtain ⟨u, e⟩ := S.has m
    exact s.n a u e (S.hid a m)
  ob := fun n a o e1 e2 => by
    obtain ⟨u, e⟩ := S.has (List.mem_of_getElem? e1)
    exact (S.ob n a o e1 e2).up ⟨s.f, List.prefix_rfl⟩ (by rw [e, s.h a u e]) (fun c q z => s.h c _ z)
theorem StOk.new {p : Addr} (S : StOk K ρ Hf H st) (h : H p = none) : p ∉ ρ := fun m => by
  obtain ⟨u, e⟩ := S.has m
  rw [h] at e
  cases e
theorem StOk.setStp {n : Nat} {a : Addr} {u : HO} (S : StOk K ρ Hf H st) (e : ρ[n]? = some a) : OStp ρ Hf H ρ Hf (upd H a u) where
  up := .refl
  h := fun b o q m => by
    have hb : b ≠ a := fun z => m (by rw [z]; exact List.mem_of_getElem? e)
    rw [upd_ne hb]
    exact q
  n := fun _ _ _ q => q
  w := fun _ m q => absurd m q
  s := fun b o q => by
    by_cases hb : b = a
    · exact ⟨u, by rw [hb, upd_same]⟩
    · exact ⟨o, by rw [upd_ne hb]; exact q⟩
end
end Ob

namespace Ob
open PySem PySem.Spec PyProof.Rows L2 Fi
section
variable {K : PySem.W.Frag} {ρ ρ' : List Addr} {Hf H Hf' H' : Hp} {st : Stor}
/-- a new object -/
theorem StOk.push {a : Addr} {o : Oj} (S : StOk K ρ Hf H st) (ha : H a = none) (i : Same Hf H') (k : ∀ b u, H b = some u → H' b = some u) (h : OjOk K (ρ ++ [a]) Hf H' a o) : StOk K (ρ ++ [a]) Hf H' (st ++ [o]) where
  i := i
  len := by rw [List.length_append, List.length_append, S.len]; rfl
  nd := by
    rw [List.nodup_append]
    refine ⟨S.nd, List.pairwise_singleton _ _, fun x hx y hy e => ?_⟩
    rw [List.mem_singleton] at hy
    subst hy e
    exact S.new ha hx
  hid := fun b m => by
    rw [List.mem_append, List.mem_singleton] at m
    rcases m with m | m
    · exact S.hid b m
    · rw [m]
      exact S.i.free ha
  ob := fun n b u e1 e2 => by
    by_cases q : n < ρ.length
    · rw [List.getElem?_append_left q] at e1
      rw [List.getElem?_append_left (by rw [← S.len]; exact q)] at e2
      obtain ⟨u', e⟩ := S.has (List.mem_of_getElem? e1)
      exact (S.ob n b u e1 e2).up ⟨Same.refl _, List.prefix_append _ _⟩ (by rw [e, k b u' e]) (fun c q z => k c _ z)
    · have hn : n = ρ.length := by
        have := (List.getElem?_eq_some_iff.mp e1).1
        rw [List.length_append, List.length_singleton] at this
        omega
      subst hn
      rw [List.getElem?_append_right (Nat.le_refl _), Nat.sub_self] at e1
      rw [S.len, List.getElem?_append_right (Nat.le_refl _), Nat.sub_self] at e2
      cases e1
      cases e2
      exact h
theorem OStp.push {a : Addr} (i : Same Hf H) (ha : H a = none) (k : ∀ b u, H b = some u → H' b = some u) : OStp ρ Hf H (ρ ++ [a]) Hf H' where
  up := ⟨Same.refl _, List.prefix_append _ _⟩
  h := fun b o e _ => k b o e
  n := fun _ _ _ e => e
  w := fun b m n => by
    rw [List.mem_append, List.mem_singleton] at m
    rcases m with m | m
    · exact absurd m n
    · rw [m]
      exact ha
  s := fun b o e => ⟨o, k b o e⟩
theorem made_keeps {x dx C : Addr} (hx : H x = none) (hd : H dx = none) : ∀ b u, H b = some u → (upd (upd H dx (.own x)) x (.ins C dx [])) b = some u := fun b u e => by
  rw [upd_ne (ne_of_none e hx), upd_ne (ne_of_none e hd)]
  exact e
theorem StOk.make {x dx : Addr} {c : Str} (S : StOk K ρ Hf H st) (hx : H x = none) (hd : H dx = none) : StOk K (ρ ++ [x]) Hf (upd (upd H dx (.own x)) x (.ins (He.ga K c) dx [])) (st ++ [.ins c []]) :=
  S.push hx (fun b u e => made_keeps hx hd b u (S.i b u e)) (made_keeps hx hd) ⟨dx, [], upd_same, .nil⟩
end
def pvS : Option Sl → Option Fi.Sl
  | some (.val (.py p)) => some (.val p)
  | some (.own ds) => (pyAll ds).map .own
  | _ => none
/-- the plain view of the slots -/
def pv (env : En) : Fi.En := env.map pvS
@[simp] theorem pv_nil : pv [] = [] := rfl
@[simp] theorem pv_cons (x : Option Sl) (r : En) : pv (x :: r) = pvS x :: pv r := rfl
@[simp] theorem pvS_py (p : PyData) : pvS (some (.val (.py p))) = some (.val p) := rfl
@[simp] theorem pvS_none : pvS none = none := rfl
@[simp] theorem pvS_obj (n : Nat) : pvS (some (.val (.obj n))) = none := rfl
@[simp] theorem pvS_cls (n : Str) : pvS (some (.val (.cls n))) = none := rfl
@[simp] theorem pvS_tup (l : List D) : pvS (some (.val (.tup l))) = none := rfl
@[simp] theorem pvS_lst (l : List D) : pvS (some (.val (.lst l))) = none := rfl
@[simp] theorem pvS_own (l : List D) : pvS (some (.own l)) = (pyAll l).map .own := rfl
section
variable {K : PySem.W.Frag} {Z : Zt} {ρ ρ' : List Addr} {Hf H Hf' H' : Hp} {env : En} {st st' : Stor} {σ : L2.St}
theorem SlOk.step {H0 : Hp} {v : V} {s : Sl} (x : SlOk K H0 ρ Hf H v s) (t : OStp ρ Hf H ρ' Hf' H') : SlOk K H0 ρ' Hf' H' v s := by
  cases s with
  | val d => exact Dq.up t.up x
  | own l =>
    obtain ⟨p, vs, a, b, c, d, e, f⟩ := x
    refine ⟨p, vs, a, b, fun m => ?_, t.n p _ e d, t.h p _ e c, f.up t.up⟩
    rw [t.w p m c] at e
    cases e
theorem Rel.step (R : Rel K Z ρ Hf H env st σ) (t : OStp ρ Hf H ρ' Hf' H') (S : StOk K ρ' Hf' H' st') : Rel K Z ρ' Hf' H' env st' σ := by
  refine ⟨R.z.trans t, S, R.len, fun i x e => ?_, R.ds⟩
  obtain ⟨v, h1, h2⟩ := R.sl i x e
  exact ⟨v, h1, h2.step t⟩
/-- the plain view -/
theorem Rel.pure (R : Rel K Z ρ Hf H env st σ) : Fi.Rel K (fun _ => none, fun _ => none) Hf H (pv env) σ := by
  refine ⟨⟨(fun _ _ h => nomatch h), R.ok.i, (fun _ _ h => nomatch h), (fun _ _ h => nomatch h)⟩, by unfold pv; rw [List.length_map, R.len], fun i s e => ?_, fun i j x y p e1 e2 => ?_⟩
  · unfold pv at e
    rw [List.getElem?_map] at e
    cases q : env[i]? with
    | none => rw [q] at e; cases e
    | some o =>
      rw [q] at e
      cases o with
      | none => cases e
      | some t =>
        obtain ⟨v, h1, h2⟩ := R.sl i t q
        refine ⟨v, h1, ?_⟩
        cases t with
        | val d =>
          cases d with
          | py p =>
            cases e
            exact Dq.dp h2
          | _ => cases e
        | own ds =>
          cases w : pyAll ds with
          | none => simp [pvS, w] at e
          | some ps =>
            simp [pvS, w] at e
            subst e
            obtain ⟨p, vs, a, b, c, d, g, f⟩ := h2
            exact ⟨p, vs, a, rfl, d, g, f.pure w⟩
  · have own : ∀ (i : Nat) (x : List PyData), (pv env)[i]? = some (some (Fi.Sl.own x)) → ∃ ds, env[i]? = some (some (.own ds)) := fun i x e => by
      unfold pv at e
      rw [List.getElem?_map] at e
      cases q : env[i]? with
      | none => rw [q] at e; cases e
      | some o =>
        rw [q] at e
        cases o with
        | none => cases e
        | some t =>
          cases t with
          | val d => cases d <;> cases e
          | own ds => exact ⟨ds, rfl⟩
    obtain ⟨d1, g1⟩ := own i x e1
    obtain ⟨d2, g2⟩ := own j y e2
    exact R.ds i j d1 d2 p g1 g2
theorem Rel.drop (R : Rel K Z ρ Hf H env st σ) (i : Nat) (o : Option V) : Rel K Z ρ Hf H (env.set i none) st (σ.set i o) := by
  refine ⟨R.z, R.ok, by rw [List.length_set, List.length_set, R.len], fun j s e => ?_, fun j k x y p ej ek hj hk => ?_⟩
  · rcases set_cases e with ⟨rfl, q⟩ | ⟨hn, q⟩
    · cases q
    · obtain ⟨w, h1, h2⟩ := R.sl j s q
      exact ⟨w, by rw [List.getElem?_set_ne hn]; exact h1, h2⟩
  · rcases set_cases ej with ⟨rfl, q⟩ | ⟨hn, q⟩
    · cases q
    · rcases set_cases ek with ⟨rfl, q2⟩ | ⟨hn2, q2⟩
      · cases q2
      · rw [List.getElem?_set_ne hn] at hj
        rw [List.getElem?_set_ne hn2] at hk
        exact R.ds j k x y p q q2 hj hk
/-- a new list is stored, to be changed here alone -/
theorem Rel.setOwn {p : Addr} {vs : List V} {ds : List D} (R : Rel K Z ρ Hf H env st σ) (t : OStp ρ Hf H ρ' Hf' H') (S : StOk K ρ' Hf' H' st') (i : Nat) (h0 : H p = none) (hr : p ∉ ρ') (h1 : Hf' p = none) (h2 : H' p = some (.lst vs)) (h3 : DqAll K Hf' ρ' vs ds) :
    Rel K Z ρ' Hf' H' (env.set i (some (.own ds))) st' (σ.set i (some (.ref p))) := by
  have R' := R.step t S
  have hz : Z.H p = none := by
    cases e : Z.H p with
    | none => rfl
    | some o =>
      obtain ⟨o', e1⟩ := R.z.s p o e
      rw [h0] at e1
      cases e1
  have ne : ∀ (j : Nat) (x : List D) (q : Addr), env[j]? = some (some (Sl.own x)) → σ[j]? = some (some (V.ref q)) → q ≠ p := fun j x q e1 e2 => by
    obtain ⟨v, g1, g2⟩ := R.sl j _ e1
    obtain ⟨r, ws, rfl, _, _, _, g3, _⟩ := g2
    rw [e2] at g1
    cases g1
    exact ne_of_none g3 h0
  refine ⟨R'.z, S, by rw [List.length_set, List.length_set, R.len], fun j t e => ?_, fun j k x y q ej ek hj hk => ?_⟩
  · rcases set_cases e with ⟨rfl, z⟩ | ⟨hn, z⟩
    · cases z
      have hl := set_some_lt e
      exact ⟨.ref p, List.getElem?_set_self (by rw [← R.len]; exact hl), p, vs, rfl, hz, hr, h1, h2, h3⟩
    · obtain ⟨w, g1, g2⟩ := R'.sl j t z
      exact ⟨w, by rw [List.getElem?_set_ne hn]; exact g1, g2⟩
  · rcases set_cases ej with ⟨rfl, z⟩ | ⟨hn, z⟩
    · rcases set_cases ek with ⟨rfl, z2⟩ | ⟨hn2, z2⟩
      · rfl
      · have hl := set_some_lt ej
        rw [List.getElem?_set_self (by rw [← R.len]; exact hl)] at hj
        cases hj
        rw [List.getElem?_set_ne hn2] at hk
        exact absurd rfl (ne k y _ z2 hk)
    · rcases set_cases ek with ⟨rfl, z2⟩ | ⟨hn2, z2⟩
      · have hl := set_some_lt ek
        rw [List.getElem?_set_self (by rw [← R.len]; exact hl)] at hk
        cases hk
        rw [List.getElem?_set_ne hn] at hj
        exact absurd rfl (ne j x _ z hj)
      · rw [List.getElem?_set_ne hn] at hj
        rw [List.getElem?_set_ne hn2] at hk
        exact R.ds j k x y q z z2 hj hk
/-- the list of an own slot is changed -/
theorem Rel.mut {i : Nat} {l l' : List D} {p : Addr} {vs' : List V} (R : Rel K Z ρ Hf H env st σ) (he : env[i]? = some (some (.own l))) (hs : σ[i]? = some (some (.ref p))) (h3 : DqAll K Hf ρ vs' l') :
    Rel K Z ρ Hf (upd H p (.lst vs')) (env.set i (some (.own l'))) st σ := by
  obtain ⟨v, g1, q, vs, rfl, hz, hr, hf, hp, hd⟩ := R.sl i _ he
  rw [hs] at g1
  cases g1
  refine ⟨⟨R.z.up, fun b o e m => ?_, R.z.n, R.z.w, fun b o e => ?_⟩, ⟨fun b o e => ?_, R.ok.len, R.ok.nd, R.ok.hid, fun n b o e1 e2 => ?_⟩, by rw [List.length_set, R.len], fun j t e => ?_, fun j k x y q ej ek hj hk => ?_⟩
  · rw [upd_ne (ne_of_none e hz)]
    exact R.z.h b o e m
  · obtain ⟨o', e1⟩ := R.z.s b o e
    exact ⟨o', by rw [upd_ne (ne_of_none e hz)]; exact e1⟩
  · rw [upd_ne (ne_of_none e hf)]
    exact R.ok.i b o e
  · have hb : b ≠ p := fun z => hr (by rw [← z]; exact List.mem_of_getElem? e1)
    exact (R.ok.ob n b o e1 e2).up .refl (by rw [upd_ne hb]) fun c q z => by
      have hc : c ≠ p := fun w => by
        subst w
        rw [hp] at z
        unfold LamX.CodeO at z
        cases z
      rw [upd_ne hc]
      exact z
  · rcases set_cases e with ⟨rfl, z⟩ | ⟨hn, z⟩
    · cases z
      exact ⟨.ref p, hs, p, vs', rfl, hz, hr, hf, upd_same, h3⟩
    · obtain ⟨w, g1, g2⟩ := R.sl j t z
      refine ⟨w, g1, ?_⟩
      cases t with
      | val d => exact g2
      | own m =>
        obtain ⟨r, ws, rfl, a, b, b2, c, d⟩ := g2
        refine ⟨r, ws, rfl, a, b, b2, ?_, d⟩
        have hr : r ≠ p := fun q => hn (R.ds i j l m p he z hs (by rw [g1, q]))
        rw [upd_ne hr]
        exact c
  · have e1 : ∃ x', env[j]? = some (some (.own x')) := by
      rcases set_cases ej with ⟨rfl, z⟩ | ⟨hn, z⟩
      · exact ⟨l, he⟩
      · exact ⟨x, z⟩
    have e2 : ∃ y', env[k]? = some (some (.own y')) := by
      rcases set_cases ek with ⟨rfl, z⟩ | ⟨hn, z⟩
      · exact ⟨l, he⟩
      · exact ⟨y, z⟩
    obtain ⟨x', e1⟩ := e1
    obtain ⟨y', e2⟩ := e2
    exact R.ds j k x' y' q e1 e2 hj hk
/-- an own slot becomes a value -/
def frz (i : Nat) (env : En) : En := match env[i]? with
  | some (some (.own l)) => env.set i (some (.val (mkL l)))
  | _ => env
theorem Rel.frz (R : Rel K Z ρ Hf H env st σ) (i : Nat) : ∃ Hf', Same Hf Hf' ∧ Rel K Z ρ Hf' H (frz i env) st σ := by
  unfold Ob.frz
  split
  · rename_i l he
    obtain ⟨v, hs, p, vs, rfl, hz, hr, hf, hp, hd⟩ := R.sl i _ he
    have hsm : Same Hf (upd Hf p (.lst vs)) := same_new hf
    have u : Up Hf ρ (upd Hf p (.lst vs)) ρ := ⟨hsm, List.prefix_rfl⟩
    have nh : ∀ b, b ≠ p → Hf b = none → (upd Hf p (.lst vs)) b = none := fun b n e => by rw [upd_ne n]; exact e
    refine ⟨upd Hf p (.lst vs), hsm, ⟨⟨R.z.up.trans u, R.z.h, fun a o e q => ?_, R.z.w, R.z.s⟩, ⟨fun b o e => ?_, R.ok.len, R.ok.nd, fun a m => ?_, fun n b o e1 e2 => (R.ok.ob n b o e1 e2).up u rfl fun _ _ z => z⟩, by rw [List.length_set, R.len], fun j t e => ?_, fun j k x y q ej ek hj hk => ?_⟩⟩
    · exact nh a (ne_of_none e hz) (R.z.n a o e q)
    · by_cases hb : b = p
      · subst hb
        rw [upd_same] at e
        rw [hp, e]
      · rw [upd_ne hb] at e
        exact R.ok.i b o e
    · exact nh a (fun z => hr (by rw [← z]; exact m)) (R.ok.hid a m)
    · rcases set_cases e with ⟨rfl, z⟩ | ⟨hn, z⟩
      · cases z
        exact ⟨.ref p, hs, dq_mkL (SqL.of upd_same) (hd.up u)⟩
      · obtain ⟨w, g1, g2⟩ := R.sl j t z
        refine ⟨w, g1, ?_⟩
        cases t with
        | val d => exact Dq.up u g2
        | own m =>
          obtain ⟨r, ws, rfl, a, b, b2, c, d⟩ := g2
          have hr : r ≠ p := fun q => hn (R.ds i j l m p he z hs (by rw [g1, q]))
          exact ⟨r, ws, rfl, a, b, nh r hr b2, c, d.up u⟩
    · rcases set_cases ej with ⟨rfl, z⟩ | ⟨hn, z⟩
      · cases z
      · rcases set_cases ek with ⟨rfl, z2⟩ | ⟨hn2, z2⟩
        · cases z2
        · exact R.ds j k x y q z z2 hj hk
  · exact ⟨Hf, Same.refl _, R⟩
end
end Ob

namespace Ob
open PySem PySem.Spec PyProof.Rows L2 Fi
/-- without errors -/
def ne {α : Type} (f : F α) : F α := fun env st => match f env st with
  | some (.ok a s) => some (.ok a s)
  | _ => none
def rE : Rlt D V := fun K _ _ _ ρ' Hf' _ v d => Dq K Hf' ρ' v d
def rB : Rlt Bool Bool := fun _ _ _ _ _ _ _ b c => b = c
def rA : Rlt (List D) (List V) := fun K _ _ _ ρ' Hf' _ vs ds => DqAll K Hf' ρ' vs ds
def rO : Rlt (Option Int) (Option Int) := fun _ _ _ _ _ _ _ b c => b = c
structure Bk {α β : Type} (r : Rlt α β) : Prop where
  of : ∀ {K : PySem.W.Frag} {ρ ρ1 ρ' : List Addr} {Hf H Hf1 H1 Hf' H' : Hp} {v : β} {a : α}, OStp ρ Hf H ρ1 Hf1 H1 → r K ρ1 Hf1 H1 ρ' Hf' H' v a → r K ρ Hf H ρ' Hf' H' v a
theorem bE : Bk rE := ⟨fun _ h => h⟩
theorem bB : Bk rB := ⟨fun _ h => h⟩
theorem bA : Bk rA := ⟨fun _ h => h⟩
theorem bO : Bk rO := ⟨fun _ h => h⟩
theorem OStp.was {ρ ρ' : List Addr} {Hf H Hf' H' : Hp} (t : OStp ρ Hf H ρ' Hf' H') {p : Addr} (h : H' p = none) : H p = none := by
  cases e : H p with
  | none => rfl
  | some o =>
    obtain ⟨o', e1⟩ := t.s p o e
    rw [h] at e1
    cases e1
theorem bL : Bk rL := ⟨fun t ⟨p, vs, a, b, c⟩ => ⟨p, vs, a, t.was b, c⟩⟩
def tR {α β : Type} (r : Rlt α β) (K : PySem.W.Frag) (W : WX) (f : F α) : L2.St → Hp → (β → Hp → Prop) → Prop := fun σ H Q => ∃ (Z : Zt) (ρ : List Addr) (Hf : Hp) (env : En) (st : Stor) (o : Rs α), Rel K Z ρ Hf H env st σ ∧ f env st = some o ∧ Fin r K W σ ρ Hf H Q o
abbrev tE (K : PySem.W.Frag) (W : WX) (f : F D) : TE := tR rE K W f
abbrev tL (K : PySem.W.Frag) (W : WX) (f : F (List D)) : TE := tR rL K W f
abbrev tT (K : PySem.W.Frag) (W : WX) (f : F Bool) : TT := tR rB K W f
abbrev tA (K : PySem.W.Frag) (W : WX) (f : F (List D)) : TA := tR rA K W f
abbrev tO (K : PySem.W.Frag) (W : WX) (f : F (Option Int)) : TO := tR rO K W f
section
variable {α β α' β' : Type} {r : Rlt α β} {r' : Rlt α' β'} {K : PySem.W.Frag} {W : WX} {σ : L2.St} {Z : Zt} {ρ ρ1 : List Addr} {Hf H Hf1 H1 : Hp} {env : En} {st : Stor}
theorem Fin.step {Q : β → Hp → Prop} (hb : Bk r) (t : OStp ρ Hf H ρ1 Hf1 H1) {o : Rs α} (k : Fin r K W σ ρ Hf H Q o) : Fin r K W σ ρ1 Hf1 H1 Q o := by
  cases o with
  | ok a s => exact fun v H' ρ' Hf' t' S q => k v H' ρ' Hf' (t.trans t') S (hb.of t q)
  | err c s => exact fun H' ρ' Hf' t' S => k H' ρ' Hf' (t.trans t') S
theorem bind_at {f : F α} {g : α → F α'} {o : Rs α'} {Q : β' → Hp → Prop} {P : β → Hp → Prop} (hb : Bk r') (R : Rel K Z ρ Hf H env st σ) (h : bnd f g env st = some o) (k : Fin r' K W σ ρ Hf H Q o)
    (c : ∀ v H1 ρ1 Hf1 st1 a, OStp ρ Hf H ρ1 Hf1 H1 → r K ρ Hf H ρ1 Hf1 H1 v a → Rel K Z ρ1 Hf1 H1 env st1 σ → g a env st1 = some o → Fin r' K W σ ρ1 Hf1 H1 Q o → P v H1) : tR r K W f σ H P := by
  unfold bnd at h
  split at h
  · rename_i a s e
    exact ⟨Z, ρ, Hf, env, st, _, R, e, fun v H1 ρ1 Hf1 t S q => c v H1 ρ1 Hf1 s a t q (R.step t S) h (k.step hb t)⟩
  · rename_i cc s e
    cases h
    exact ⟨Z, ρ, Hf, env, st, _, R, e, fun H1 ρ1 Hf1 t S => k H1 ρ1 Hf1 t S⟩
  · cases h
theorem lft_some {a : Option α} {o : Rs α} (h : lft a env st = some o) : ∃ x, a = some x ∧ o = .ok x st := by
  unfold lft at h
  cases e : a with
  | none => rw [e] at h; cases h
  | some x => rw [e] at h; cases h; exact ⟨x, rfl, rfl⟩
/-- a value at hand, nothing is done -/
theorem Fin.now {Q : β → Hp → Prop} {a : α} {v : β} (R : Rel K Z ρ Hf H env st σ) (k : Fin r K W σ ρ Hf H Q (.ok a st)) (h : r K ρ Hf H ρ Hf H v a) : Q v H := k v H ρ Hf .refl R.ok h
/-- a value behind a plain step -/
theorem Fin.stp {Q : β → Hp → Prop} {a : α} {v : β} {Hf' H' : Hp} (R : Rel K Z ρ Hf H env st σ) (k : Fin r K W σ ρ Hf H Q (.ok a st)) (s : Stp Hf H Hf' H') (h : r K ρ Hf H ρ Hf' H' v a) : Q v H' := k v H' ρ Hf' (.of s) (R.ok.stp s) h
end
section
variable {X : Cx} {W W' : WX} {e : Expr}
def pE (f : FE) : F D := fun env st => (f (pv env)).map fun p => .ok (.py p) st
def pL (f : FL) : F (List D) := fun env st => (f (pv env)).map fun l => .ok (l.map .py) st
def pT (f : FT) : F Bool := fun env st => (f (pv env)).map (.ok · st)
def pO (f : Fi.En → Option (Option Int)) : F (Option Int) := fun env st => (f (pv env)).map (.ok · st)
theorem map_ok {α β : Type} {o : Option α} {g : α → β} {y : β} (h : o.map g = some y) : ∃ x, o = some x ∧ g x = y := by
  cases o with
  | none => cases h
  | some x => exact ⟨x, rfl, Option.some.inj h⟩
theorem x_p {f : FE} (h : PE X e (Fi.tE X.K f)) : PE X e (tE X.K W (pE f)) := pe_le h fun σ H Q ⟨Z, ρ, Hf, env, st, o, R, e, k⟩ => by
  obtain ⟨p, h1, rfl⟩ := map_ok e
  exact ⟨_, Hf, pv env, p, R.pure, h1, fun v H' Hf' s d => k.stp R s (.py d)⟩
theorem t_p {f : FT} (h : PT X e (Fi.tT X.K f)) : PT X e (tT X.K W (pT f)) := pt_le h fun σ H Q ⟨Z, ρ, Hf, env, st, o, R, e, k⟩ => by
  obtain ⟨b, h1, rfl⟩ := map_ok e
  exact ⟨_, Hf, pv env, b, R.pure, h1, fun H' Hf' s => k.stp R s rfl⟩
theorem a_p {es : List Expr} {f : FL} (h : PA X es (Fi.tA X.K f)) : PA X es (tA X.K W (pL f)) := pa_le h fun σ H Q ⟨Z, ρ, Hf, env, st, o, R, e, k⟩ => by
  obtain ⟨l, h1, rfl⟩ := map_ok e
  exact ⟨_, Hf, pv env, l, R.pure, h1, fun vs H' Hf' s d => k.stp R s (dqAll_of d)⟩
def eVar (i : Nat) : F D := fun env st => match env[i]? with
  | some (some (.val d)) => some (.ok d st)
  | _ => none
theorem x_var (i : Nat) {x : Str} {pos : Pos} (hN : X.N[i]? = some x := by rfl) (hv : Vis X.env.scope x := by first | exact Or.inl rfl | exact Or.inr (Or.inl rfl) | exact Or.inr (Or.inr rfl)) (hd : (x == ("__debug__" : Str)) = false := by decide)
    (hcd : (x == ("__classdict__" : Str)) = false := by decide) : PE X (.Name x pos) (tE X.K W (eVar i)) := pe_le (pe_var hN hv hd hcd) fun σ H Q ⟨Z, ρ, Hf, env, st, o, R, e, k⟩ => by
  unfold eVar at e
  split at e
  · rename_i d q
    cases e
    obtain ⟨v, h1, h2⟩ := R.sl i _ q
    exact ⟨v, h1, k.now R h2⟩
  · cases e
theorem op2_some {G : PyData → PyData → Option PyData} {x y z : D} (h : op2 G x y = some z) : ∃ a b c, x = .py a ∧ y = .py b ∧ G a b = some c ∧ z = .py c := by
  unfold op2 at h
  split at h
  · rename_i a b
    obtain ⟨c, h1, rfl⟩ := map_ok h
    exact ⟨a, b, c, rfl, rfl, h1, rfl⟩
  · cases h
variable {a b c : Expr} {f g h : F D} {G G' : PyData → PyData → Option PyData} {pos : Pos}
theorem tOp_of {K : PySem.W.Frag} {σ : L2.St} {H : Hp} {Q : VK} (q : tE K W (e2 G f g) σ H Q) : tOp (rD2 K G) (tE K W f) (tE K W g) σ H Q := by
  obtain ⟨Z, ρ, Hf, env, st, o, R, e, k⟩ := q
  refine bind_at bE R e k fun x H1 ρ1 Hf1 s1 dx t1 r1 R1 e1 k1 => ?_
  refine bind_at bE R1 e1 k1 fun y H2 ρ2 Hf2 s2 dy t2 r2 R2 e2 k2 => ?_
  obtain ⟨z, h1, rfl⟩ := lft_some e2
  obtain ⟨u, w, p, rfl, rfl, h2, rfl⟩ := op2_some h1
  exact ⟨Hf2, u, w, p, R2.ok.i, (Dq.up t2.up r1).dp, Dq.dp r2, h2, fun v H' Hf' s d => k2.stp R2 s (.py d)⟩
theorem x_bin {op : Operator} (ho : OpD X (binaryOp op) G) (ha : PE X a (tE X.K W f)) (hb : PE X b (tE X.K W g)) : PE X (.BinOp a op b pos) (tE X.K W (e2 G f g)) := pe_le (pe_op ho ha hb) fun _ _ _ q => tOp_of q
theorem x_cmp {op : CmpOp} (ho : OpD X (compareOp op) G) (ha : PE X a (tE X.K W f)) (hb : PE X b (tE X.K W g)) (hm : behindInMarks op b = false) : PE X (.Compare a [op] [b] pos) (tE X.K W (e2 G f g)) := pe_le (pe_cmpR ho ha hb hm) fun _ _ _ q => tOp_of q
/-- truth -/
def truD : D → Option Bool
  | .py (.bool b) => some b
  | _ => none
def asB (f : F D) : F Bool := bnd f fun d => lft (truD d)
theorem truD_some {d : D} {b : Bool} (h : truD d = some b) : d = .py (.bool b) := by
  unfold truD at h
  split at h
  · cases h; rfl
  · cases h
theorem tTest_of {K : PySem.W.Frag} {σ : L2.St} {H : Hp} {Q : Bool → Hp → Prop} {t : TE} (ht : ∀ Q', tE K W f σ H Q' → t σ H Q') (q : tT K W (asB f) σ H Q) : tTest t σ H Q := by
  obtain ⟨Z, ρ, Hf, env, st, o, R, e, k⟩ := q
  refine ht _ (bind_at bB R e k fun x H1 ρ1 Hf1 s1 dx t1 r1 R1 e1 k1 => ?_)
  obtain ⟨z, h1, rfl⟩ := lft_some e1
  cases truD_some h1
  exact ⟨z, (Dq.dp r1).bl_eq, k1.now R1 rfl⟩
theorem t_cmp {op : CmpOp} (ho : OpD X (compareOp op) G) (ha : PE X a (tE X.K W f)) (hb : PE X b (tE X.K W g)) (hm : behindInMarks op b = false) : PT X (.Compare a [op] [b] pos) (tT X.K W (asB (e2 G f g))) :=
  pt_le (pt_cmpR ho ha hb hm) fun _ _ _ q => tTest_of (fun _ q => tOp_of q) q
theorem t_val (ha : PE X a (tE X.K W f)) (he : ∀ whole, isTrue a X.env whole = (do let v ← whole; standAt a.pos; holding [v] (truthy v)) := by intro _; rfl) : PT X a (tT X.K W (asB f)) :=
  pt_le (pt_val ha he) fun σ H Q ⟨Z, ρ, Hf, env, st, o, R, e, k⟩ => by
    refine bind_at bB R e k fun x H1 ρ1 Hf1 s1 dx t1 r1 R1 e1 k1 => ?_
    obtain ⟨z, h1, rfl⟩ := lft_some e1
    cases truD_some h1
    exact ⟨z, (Dq.dp r1).bl_eq, k1.now R1 rfl⟩
def tNotF (p : F Bool) : F Bool := bnd p fun b => lft (some (!b))
def tAndF (p q : F Bool) : F Bool := bnd p fun b => if b then q else lft (some false)
def tOrF (p q : F Bool) : F Bool := bnd p fun b => if b then lft (some true) else q
variable {p q : F Bool} {rest : List Expr}
theorem t_not (ha : PT X a (tT X.K W p)) : PT X (.UnaryOp .Not a pos) (tT X.K W (tNotF p)) := pt_le (pt_not ha) fun σ H Q ⟨Z, ρ, Hf, env, st, o, R, e, k⟩ => by
  refine bind_at bB R e k fun x H1 ρ1 Hf1 s1 dx t1 r1 R1 e1 k1 => ?_
  obtain ⟨z, h1, rfl⟩ := lft_some e1
  cases h1
  cases (show x = dx from r1)
  exact k1.now R1 rfl
theorem w_and (ha : PT X a (tT X.K W p)) (hb : PW X (.BoolOp .And (b :: rest) pos) (tT X.K W q)) : PW X (.BoolOp .And (a :: b :: rest) pos) (tT X.K W (tAndF p q)) := pw_le (pw_and ha hb) fun σ H Q ⟨Z, ρ, Hf, env, st, o, R, e, k⟩ => by
  refine bind_at bB R e k fun x H1 ρ1 Hf1 s1 dx t1 r1 R1 e1 k1 => ?_
  cases (show x = dx from r1)
  cases x with
  | true => exact iteT ⟨Z, ρ1, Hf1, env, s1, o, R1, e1, k1⟩
  | false =>
    obtain ⟨z, h1, rfl⟩ := lft_some (env := env) e1
    cases h1
    exact iteF (k1.now R1 rfl)
theorem w_or (ha : PT X a (tT X.K W p)) (hb : PW X (.BoolOp .Or (b :: rest) pos) (tT X.K W q)) : PW X (.BoolOp .Or (a :: b :: rest) pos) (tT X.K W (tOrF p q)) := pw_le (pw_or ha hb) fun σ H Q ⟨Z, ρ, Hf, env, st, o, R, e, k⟩ => by
  refine bind_at bB R e k fun x H1 ρ1 Hf1 s1 dx t1 r1 R1 e1 k1 => ?_
  cases (show x = dx from r1)
  cases x with
  | false => exact iteF ⟨Z, ρ1, Hf1, env, s1, o, R1, e1, k1⟩
  | true =>
    obtain ⟨z, h1, rfl⟩ := lft_some (env := env) e1
    cases h1
    exact iteT (k1.now R1 rfl)
/-- the value forms -/
def eAnd (f g : F D) : F D := bnd f fun d => bnd (lft (truD d)) fun b => if b then g else lft (some (.py (.bool false)))
def eOr (f g : F D) : F D := bnd f fun d => bnd (lft (truD d)) fun b => if b then lft (some (.py (.bool true))) else g
def eNot (f : F D) : F D := bnd f fun d => lft ((truD d).map fun b => .py (.bool (!b)))
theorem bnd_lft {α β : Type} {o : Option α} {k : α → F β} {env : En} {st : Stor} {r : Rs β} (h : bnd (lft o) k env st = some r) : ∃ x, o = some x ∧ k x env st = some r := by
  unfold bnd lft at h
  cases e : o with
  | none => rw [e] at h; cases h
  | some x => rw [e] at h; exact ⟨x, rfl, h⟩
theorem x_one {op} (ha : PE X a (tE X.K W f)) : PE X (.BoolOp op [a] pos) (tE X.K W f) := pe_one ha
theorem x_and (ha : PE X a (tE X.K W f)) (hb : PE X (.BoolOp .And (b :: rest) pos) (tE X.K W g)) : PE X (.BoolOp .And (a :: b :: rest) pos) (tE X.K W (eAnd f g)) := pe_le (pe_and ha hb) fun σ H Q ⟨Z, ρ, Hf, env, st, o, R, e, k⟩ => by
  refine bind_at bE R e k fun x H1 ρ1 Hf1 s1 dx t1 r1 R1 e1 k1 => ?_
  obtain ⟨z, h1, h2⟩ := bnd_lft e1
  cases truD_some h1
  refine ⟨z, (Dq.dp r1).bl_eq, ?_⟩
  cases z with
  | true => exact iteT ⟨Z, ρ1, Hf1, env, s1, o, R1, h2, k1⟩
  | false =>
    obtain ⟨z, h1, rfl⟩ := lft_some (env := env) h2
    cases h1
    exact iteF (k1.now R1 (.py (.bl false)))
theorem x_or (ha : PE X a (tE X.K W f)) (hb : PE X (.BoolOp .Or (b :: rest) pos) (tE X.K W g)) : PE X (.BoolOp .Or (a :: b :: rest) pos) (tE X.K W (eOr f g)) := pe_le (pe_or ha hb) fun σ H Q ⟨Z, ρ, Hf, env, st, o, R, e, k⟩ => by
  refine bind_at bE R e k fun x H1 ρ1 Hf1 s1 dx t1 r1 R1 e1 k1 => ?_
  obtain ⟨z, h1, h2⟩ := bnd_lft e1
  cases truD_some h1
  refine ⟨z, (Dq.dp r1).bl_eq, ?_⟩
  cases z with
  | false => exact iteF ⟨Z, ρ1, Hf1, env, s1, o, R1, h2, k1⟩
  | true =>
    obtain ⟨z, h1, rfl⟩ := lft_some (env := env) h2
    cases h1
    exact iteT (k1.now R1 (.py (.bl true)))
theorem x_not (ha : PE X a (tE X.K W f)) : PE X (.UnaryOp .Not a pos) (tE X.K W (eNot f)) := pe_le (pe_not ha) fun σ H Q ⟨Z, ρ, Hf, env, st, o, R, e, k⟩ => by
  refine bind_at bE R e k fun x H1 ρ1 Hf1 s1 dx t1 r1 R1 e1 k1 => ?_
  obtain ⟨z, h1, rfl⟩ := lft_some e1
  obtain ⟨y, h2, rfl⟩ := map_ok h1
  cases truD_some h2
  exact ⟨y, (Dq.dp r1).bl_eq, k1.now R1 (.py (.bl _))⟩
def eIf (p : F Bool) (f g : F D) : F D := bnd p fun b => if b then f else g
theorem x_if {t : Expr} (ht : PT X t (tT X.K W p)) (ha : PE X a (tE X.K W f)) (hb : PE X b (tE X.K W g)) : PE X (.IfExp t a b pos) (tE X.K W (eIf p f g)) := pe_le (pe_ifExp ht ha hb) fun σ H Q ⟨Z, ρ, Hf, env, st, o, R, e, k⟩ => by
  refine bind_at bE R e k fun x H1 ρ1 Hf1 s1 dx t1 r1 R1 e1 k1 => ?_
  cases (show x = dx from r1)
  cases x with
  | true => exact iteT ⟨Z, ρ1, Hf1, env, s1, o, R1, e1, k1⟩
  | false => exact iteF ⟨Z, ρ1, Hf1, env, s1, o, R1, e1, k1⟩
end
end Ob

namespace Ob
open PySem PySem.Spec PyProof.Rows L2 Fi
section
variable {X : Cx} {W : WX} {e : Expr} {es : List Expr} {pos : Pos} {f g : F D} {r : F (List D)}
def aNil : F (List D) := lft (some [])
def aCons (f : F D) (r : F (List D)) : F (List D) := bnd f fun x => bnd r fun xs => lft (some (x :: xs))
theorem a_nil : PA X [] (tA X.K W aNil) := pa_le pa_nil fun σ H Q ⟨Z, ρ, Hf, env, st, o, R, e, k⟩ => by
  obtain ⟨z, h1, rfl⟩ := lft_some e
  cases h1
  exact k.now R .nil
theorem a_cons (ha : PE X e (tE X.K W f)) (hr : PA X es (tA X.K W r)) (hs : starEach (e :: es) X.env = (false, eval e X.env) :: starEach es X.env := by rfl) : PA X (e :: es) (tA X.K W (aCons f r)) :=
  pa_le (pa_cons ha hr hs) fun σ H Q ⟨Z, ρ, Hf, env, st, o, R, e, k⟩ => by
    refine bind_at bA R e k fun x H1 ρ1 Hf1 s1 dx t1 r1 R1 e1 k1 => ?_
    refine bind_at bA R1 e1 k1 fun xs H2 ρ2 Hf2 s2 ds t2 r2 R2 e2 k2 => ?_
    obtain ⟨z, h1, rfl⟩ := lft_some e2
    cases h1
    exact k2.now R2 (.cons (Dq.up t2.up r1) r2)
def eTup (r : F (List D)) : F D := bnd r fun xs => lft (if xs.length ≤ 100000 then some (mkT xs) else none)
def lLst (r : F (List D)) : F (List D) := bnd r fun xs => lft (if xs.length ≤ 100000 then some xs else none)
theorem if_some {p : Prop} [Decidable p] {α : Type} {a b : α} (h : (if p then some a else none) = some b) : p ∧ a = b := by
  split at h
  · exact ⟨‹p›, Option.some.inj h⟩
  · cases h
theorem x_tup {x1} (h : PA X es (tA X.K W r)) : PE X (.Tuple es x1 pos) (tE X.K W (eTup r)) := pe_le (pe_tup h) fun σ H Q ⟨Z, ρ, Hf, env, st, o, R, e, k⟩ => by
  refine bind_at bE R e k fun xs H1 ρ1 Hf1 s1 ds t1 r1 R1 e1 k1 => ?_
  obtain ⟨z, h1, rfl⟩ := lft_some e1
  obtain ⟨hl, rfl⟩ := if_some h1
  refine ⟨by rw [DqAll.len r1]; exact Nat.le_trans hl (by decide), fun p hp => ?_⟩
  have s := Stp.new (o := .tup xs) R1.ok.i hp
  exact k1.stp R1 s (dq_mkT (SqT.of upd_same) (DqAll.up ⟨s.f, List.prefix_rfl⟩ r1))
theorem l_lst (h : PA X es (tA X.K W r)) : PE X (.List es pos) (tL X.K W (lLst r)) := pe_le (pe_lst h) fun σ H Q ⟨Z, ρ, Hf, env, st, o, R, e, k⟩ => by
  refine bind_at bL R e k fun xs H1 ρ1 Hf1 s1 ds t1 r1 R1 e1 k1 => ?_
  obtain ⟨z, h1, rfl⟩ := lft_some e1
  obtain ⟨hl, rfl⟩ := if_some h1
  refine ⟨by rw [DqAll.len r1]; exact Nat.le_trans hl (by decide), fun p hp => ?_⟩
  have s := Stp.hid (o := .lst xs) R1.ok.i hp
  exact k1.stp R1 s ⟨p, xs, rfl, hp, R1.ok.new hp, R1.ok.i.free hp, upd_same, r1⟩
/-- a new list as a value -/
def eL (l : F (List D)) : F D := bnd l fun ds => lft (some (mkL ds))
/-- .. the step that shows a hidden list -/
theorem show_list {K : PySem.W.Frag} {ρ : List Addr} {Hf H : Hp} {st : Stor} {p : Addr} {vs : List V} (S : StOk K ρ Hf H st) (hr : p ∉ ρ) (hf : Hf p = none) (h : H p = some (.lst vs)) : StOk K ρ (upd Hf p (.lst vs)) H st :=
  ⟨fun b o e => by
    by_cases hb : b = p
    · subst hb
      rw [upd_same] at e
      rw [h, e]
    · rw [upd_ne hb] at e
      exact S.i b o e, S.len, S.nd, fun a m => by
    rw [upd_ne (fun z => hr (by rw [← z]; exact m))]
    exact S.hid a m, fun n a o e1 e2 => (S.ob n a o e1 e2).up ⟨same_new hf, List.prefix_rfl⟩ rfl fun _ _ z => z⟩
theorem OStp.show {ρ ρ' : List Addr} {Hf H Hf' H' : Hp} {p : Addr} {o : HO} (t : OStp ρ Hf H ρ' Hf' H') (h : H p = none) (h1 : Hf' p = none) : OStp ρ Hf H ρ' (upd Hf' p o) H' :=
  ⟨t.up.trans ⟨same_new h1, List.prefix_rfl⟩, t.h, fun a x e q => by
    rw [upd_ne (ne_of_none e h)]
    exact t.n a x e q, t.w, t.s⟩
theorem x_L {l : F (List D)} (h : PE X e (tL X.K W l)) : PE X e (tE X.K W (eL l)) := pe_le h fun σ H Q ⟨Z, ρ, Hf, env, st, o, R, e, k⟩ => by
  unfold eL bnd at e
  split at e
  · rename_i a s q
    cases e
    refine ⟨Z, ρ, Hf, env, st, _, R, q, fun v H' ρ' Hf' t S ⟨p, vs, e1, e2, e3, e4, e5, e6⟩ => ?_⟩
    subst e1
    exact k _ H' ρ' (upd Hf' p (.lst vs)) (t.show e2 e4) (show_list S e3 e4 e5) (dq_mkL (SqL.of upd_same) (e6.up ⟨same_new e4, List.prefix_rfl⟩))
  · rename_i c s q
    cases e
    exact ⟨Z, ρ, Hf, env, st, _, R, q, k⟩
  · cases e
def eCall (G : List PyData → Option PyData) (r : F (List D)) : F D := bnd r fun ds => lft ((pyAll ds).bind fun ps => (G ps).map .py)
theorem obind {α β : Type} {o : Option α} {q : α → Option β} {y : β} (h : o.bind q = some y) : ∃ x, o = some x ∧ q x = some y := by
  cases o with
  | none => cases h
  | some x => exact ⟨x, rfl, h⟩
theorem tCB_of {G : List PyData → Option PyData} {K : PySem.W.Frag} {σ : L2.St} {H : Hp} {Q : VK} (w : tE K W (eCall G r) σ H Q) : tCB (rDc K G) (tA K W r) σ H Q := by
  obtain ⟨Z, ρ, Hf, env, st, o, R, e, k⟩ := w
  refine bind_at bE R e k fun xs H1 ρ1 Hf1 s1 ds t1 r1 R1 e1 k1 => ?_
  obtain ⟨z, h1, rfl⟩ := lft_some e1
  obtain ⟨ps, h2, h3⟩ := obind h1
  obtain ⟨d, h4, rfl⟩ := map_ok h3
  exact ⟨Hf1, ps, d, R1.ok.i, DqAll.pure r1 h2, h4, fun v H' Hf' s d => k1.stp R1 s (.py d)⟩
theorem x_callB {G : List PyData → Option PyData} {x : Str} {id : String} {p : Pos} (hc : CallD X (.builtin id) G) (hg : Gl X x) (hm : X.mg x = none) (hv : bootBuiltins x = some (.builtin id)) (ha : PA X (e :: es) (tA X.K W r)) (hn : x ≠ "__name__" := by decide) (hdb : (x == ("__debug__" : Str)) = false := by decide)
    (he : starEach (e :: es) X.env = (false, eval e X.env) :: starEach es X.env := by rfl) (hpl : (backTo pos (starEach es X.env)).any (·.1) = false := by rfl) : PE X (.Call (.Name x p) (e :: es) [] pos) (tE X.K W (eCall G r)) :=
  pe_le (pe_callB hc hg hm hv ha hn hdb he hpl) fun _ _ _ w => tCB_of w
theorem x_callTy {G : List PyData → Option PyData} {x : Str} {T : String} {p : Pos} (hc : CallD X (.type T) G) (hg : Gl X x) (hm : X.mg x = none) (hv : bootBuiltins x = some (.type T)) (ha : PA X (e :: es) (tA X.K W r)) (hn : x ≠ "__name__" := by decide) (hdb : (x == ("__debug__" : Str)) = false := by decide)
    (he : starEach (e :: es) X.env = (false, eval e X.env) :: starEach es X.env := by rfl) (hpl : (backTo pos (starEach es X.env)).any (·.1) = false := by rfl) : PE X (.Call (.Name x p) (e :: es) [] pos) (tE X.K W (eCall G r)) :=
  pe_le (pe_callTy hc hg hm hv ha hn hdb he hpl) fun _ _ _ w => tCB_of w
def ixD (t : D → Option (List D)) : D → D → Option D := fun x y => (t x).bind fun l => match y with
  | .py (.int i) => atI l i
  | _ => none
def eIx (t : D → Option (List D)) (f g : F D) : F D := bnd f fun x => bnd g fun y => lft (ixD t x y)
variable {a b : Expr}
end
def tG (K : PySem.W.Frag) (sl : List Nat) (g : D → En → Option En) : TG := fun v σ H Q => ∃ (Z : Zt) (ρ : List Addr) (Hf : Hp) (env : En) (st : Stor) (d : D) (env' : En), Rel K Z ρ Hf H env st σ ∧ Dq K Hf ρ v d ∧ g d env = some env' ∧
  ∀ σ', Rel K Z ρ Hf H env' st σ' → (∀ i : Nat, i ∉ sl → σ'[i]? = σ[i]?) → σ'.length = σ.length → Q σ' H
def tGs (K : PySem.W.Frag) (sl : List Nat) (g : List D → En → Option En) : TGs := fun vs σ H Q => ∃ (Z : Zt) (ρ : List Addr) (Hf : Hp) (env : En) (st : Stor) (ds : List D) (env' : En), Rel K Z ρ Hf H env st σ ∧ DqAll K Hf ρ vs ds ∧ g ds env = some env' ∧
  ∀ σ', Rel K Z ρ Hf H env' st σ' → (∀ i : Nat, i ∉ sl → σ'[i]? = σ[i]?) → σ'.length = σ.length → Q σ' H
def gSet (i : Nat) : D → En → Option En := fun d env => some (env.set i (some (.val d)))
def gsNil : List D → En → Option En := fun ds env => match ds with
  | [] => some env
  | _ => none
def gsCons (g : D → En → Option En) (r : List D → En → Option En) : List D → En → Option En := fun ds env => match ds with
  | d :: ds => (g d env).bind (r ds)
  | [] => none
def gTup (n : Nat) (r : List D → En → Option En) : D → En → Option En := fun d env => d.tup?.bind fun ds => if ds.length = n then r ds env else none
def gLst (n : Nat) (r : List D → En → Option En) : D → En → Option En := fun d env => d.lst?.bind fun ds => if ds.length = n then r ds env else none
section
variable {X : Cx} {pos : Pos}
theorem g_name (i : Nat) {x : Str} (hN : X.N.Nodup) (hi : X.N[i]? = some x := by rfl) (hx : Loc X.env.scope x := by first | exact Or.inl rfl | exact Or.inr rfl) (hf : X.fn x = true ∨ X.env.scope.names.lookup x = some .local := by first | exact .inl rfl | exact .inr rfl | assumption) :
    PG X (.Name x pos) (tG X.K [i] (gSet i)) := by
  refine pg_le (pg_name hN hi hx hf) fun v σ H Q ⟨Z, ρ, Hf, env, st, d, env', R, hd, hg, k⟩ => ?_
  cases hg
  refine k (σ.set i (some v)) (R.set i hd) (fun j hj => ?_) (List.length_set ..)
  rw [List.getElem?_set_ne (fun e => hj (by simp [e]))]
theorem gs_nil : PGs X [] (tGs X.K [] gsNil) := by
  refine ⟨fun pins s σ H vs us Q I r ⟨Z, ρ, Hf, env, st, ds, env', R, hd, hg, k⟩ => ?_⟩
  unfold gsNil at hg
  split at hg
  · cases hg
    cases hd
    exact pgs_nil.run pins s σ H [] us Q I r ⟨rfl, k σ R (fun _ _ => rfl) rfl⟩
  · cases hg
theorem gs_cons {e : Expr} {es : List Expr} {s1 s2 : List Nat} {g : D → En → Option En} {r : List D → En → Option En} (h1 : PG X e (tG X.K s1 g)) (h2 : PGs X es (tGs X.K s2 r))
    (hs : (assignEach (e :: es) X.env).map (·.2) = assign e X.env :: (assignEach es X.env).map (·.2) := by rfl) : PGs X (e :: es) (tGs X.K (s1 ++ s2) (gsCons g r)) := by
  refine ⟨fun pins s σ H vs us Q I q ⟨Z, ρ, Hf, env, st, ds, env', R, hd, hg, k⟩ => ?_⟩
  refine (pgs_cons h1 h2 hs).run pins s σ H vs us Q I q ?_
  unfold gsCons at hg
  split at hg
  · rename_i d ds
    cases hd with
    | cons hd ht =>
      obtain ⟨e1, hg1, hg⟩ := obind hg
      refine ⟨_, _, rfl, Z, ρ, Hf, env, st, d, e1, R, hd, hg1, fun σ' R' p1 l1 => ?_⟩
      refine ⟨Z, ρ, Hf, e1, st, ds, env', R', ht, hg, fun σ2 R2 p2 l2 => ?_⟩
      refine k σ2 R2 (fun i hi => ?_) (l2.trans l1)
      have hi' : i ∉ _ ∧ i ∉ _ := ⟨fun q => hi (List.mem_append_left _ q), fun q => hi (List.mem_append_right _ q)⟩
      rw [p2 i hi'.2, p1 i hi'.1]
  · cases hg
theorem g_tup {es : List Expr} {k n : Nat} {sl : List Nat} {r : List D → En → Option En} (hc : X.calm = true) (h : PGs X es (tGs X.K sl r))
    (hn : (assignEach es X.env).length = n := by rfl) (hst : (assignEach es X.env).findIdx? (·.1) = none := by rfl) : PG X (.Tuple es k pos) (tG X.K sl (gTup n r)) := by
  refine pg_le (pg_tup hc h hn hst) fun v σ H Q ⟨Z, ρ, Hf, env, st, d, env', R, hd, hg, kk⟩ => ?_
  obtain ⟨ds, h1, h2⟩ := obind hg
  split at h2
  · rename_i hl
    obtain ⟨a, xs, rfl, hp, ha⟩ := hd.tup_of h1
    exact ⟨a, xs, rfl, sqT_up R.ok.i hp, by rw [ha.len]; exact hl, Z, ρ, Hf, env, st, ds, env', R, ha, h2, kk⟩
  · cases h2
end
abbrev FS := En → Stor → Option Out
def tS (K : PySem.W.Frag) (W : WX) (f : FS) : TS := fun N σ H => ∃ (Z : Zt) (ρ : List Addr) (Hf : Hp) (env : En) (st : Stor) (o : Out), Rel K Z ρ Hf H env st σ ∧ f env st = some o ∧ FinS K W Z ρ Hf N o
def sE {α : Type} (f : F α) (k : α → FS) : FS := fun env st => match f env st with
  | some (.ok a s) => k a env s
  | some (.err c s) => some (.exc c env s)
  | none => none
theorem bindS {α β : Type} {r : Rlt α β} {K : PySem.W.Frag} {W : WX} {σ : L2.St} {Z : Zt} {ρ : List Addr} {Hf H : Hp} {env : En} {st : Stor} {f : F α} {g : α → FS} {o : Out} {N : Ends} {P : β → Hp → Prop} (R : Rel K Z ρ Hf H env st σ) (h : sE f g env st = some o) (k : FinS K W Z ρ Hf N o)
    (c : ∀ v H1 ρ1 Hf1 st1 a, OStp ρ Hf H ρ1 Hf1 H1 → r K ρ Hf H ρ1 Hf1 H1 v a → StOk K ρ1 Hf1 H1 st1 → Rel K Z ρ1 Hf1 H1 env st1 σ → g a env st1 = some o → FinS K W Z ρ1 Hf1 N o → P v H1) : tR r K W f σ H P := by
  unfold sE at h
  split at h
  · rename_i a s e
    exact ⟨Z, ρ, Hf, env, st, _, R, e, fun v H1 ρ1 Hf1 t S q => c v H1 ρ1 Hf1 s a t q S (R.step t S) h (k.up t.up)⟩
  · rename_i cc s e
    cases h
    exact ⟨Z, ρ, Hf, env, st, _, R, e, fun H1 ρ1 Hf1 t S => k σ H1 ρ1 Hf1 t.up (R.step t S)⟩
  · cases h
def sNext : FS := fun env st => some (.next env st)
def sSeq (f g : FS) : FS := fun env st => match f env st with
  | some (.next e s) => g e s
  | o => o
def sAsg (f : F D) (g : D → En → Option En) : FS := sE f fun d env st => (g d env).map (.next · st)
def sSet (i : Nat) (f : F D) : FS := sE f fun d env st => some (.next (env.set i (some (.val d))) st)
def sOwn (i : Nat) (l : F (List D)) : FS := sE l fun ds env st => some (.next (env.set i (some (.own ds))) st)
def sIf (p : F Bool) (f g : FS) : FS := sE p fun b => if b then f else g
def sRet (f : F D) : FS := sE f fun d _ st => some (.ret d st)
def sRetL (l : F (List D)) : FS := sE l fun d _ st => some (.retL d st)
def sRetN : FS := fun _ st => some (.ret (.py .none) st)
def sRetO (i : Nat) : FS := fun env st => match env[i]? with
  | some (some (.own l)) => some (.retL l st)
  | _ => none
def sDrop (f : F D) : FS := sE f fun _ env st => some (.next env st)
def sApp (i : Nat) (f : F D) : FS := fun env st => match env[i]? with
  | some (some (.own l)) => sE f (fun d env st => if l.length < 100000 then some (.next (env.set i (some (.own (l ++ [d])))) st) else none) env st
  | _ => none
def sAug (i : Nat) (g : Int → Int → Int) (f : F D) : FS := fun env st => match env[i]? with
  | some (some (.val (.py (.int a)))) => sE f (fun d env st => match d with
    | .py (.int b) => some (.next (env.set i (some (.val (.py (.int (g a b)))))) st)
    | _ => none) env st
  | _ => none
def sPar (i j : Nat) (r : F (List D)) : FS := sE r fun ds env st => match ds with
  | [x, y] => some (.next ((env.set i (some (.val x))).set j (some (.val y))) st)
  | _ => none
def sFrz (i : Nat) (f : FS) : FS := fun env st => f (frz i env) st
section
variable {X : Cx} {W : WX} {s1 : Stmt} {rest : List Stmt} {e : Expr} {pos : Pos} {f g : FS} {h : F D} {l : F (List D)} {p : F Bool}
theorem s_nil : PSs X [] (tS X.K W sNext) := pss_le pss_nil fun N σ H ⟨Z, ρ, Hf, env, st, o, R, hf, k⟩ => by
  cases hf
  exact k σ H ρ Hf .refl R
theorem s_pass : PS X (.Pass pos) (tS X.K W sNext) := ps_le ps_pass fun N σ H ⟨Z, ρ, Hf, env, st, o, R, hf, k⟩ => by
  cases hf
  exact k σ H ρ Hf .refl R
theorem s_cons (h1 : PS X s1 (tS X.K W f)) (h2 : PSs X rest (tS X.K W g)) : PSs X (s1 :: rest) (tS X.K W (sSeq f g)) := pss_le (pss_cons h1 h2) fun N σ H ⟨Z, ρ, Hf, env, st, o, R, hf, k⟩ => by
  unfold sSeq at hf
  cases q : f env st with
  | none =>
    rw [q] at hf
    cases hf
  | some o1 =>
    rw [q] at hf
    cases o1 with
    | next e1 s1 => exact ⟨Z, ρ, Hf, env, st, .next e1 s1, R, q, fun σ' H' ρ' Hf' u R' => ⟨Z, ρ', Hf', e1, s1, o, R', hf, k.up u⟩⟩
    | brk e1 s1 =>
      cases hf
      exact ⟨Z, ρ, Hf, env, st, _, R, q, k⟩
    | cont e1 s1 =>
      cases hf
      exact ⟨Z, ρ, Hf, env, st, _, R, q, k⟩
    | ret d s1 =>
      cases hf
      exact ⟨Z, ρ, Hf, env, st, _, R, q, k⟩
    | retL d s1 =>
      cases hf
      exact ⟨Z, ρ, Hf, env, st, _, R, q, k⟩
    | exc c e1 s1 =>
      cases hf
      exact ⟨Z, ρ, Hf, env, st, _, R, q, k⟩
theorem s_one (h1 : PS X s1 (tS X.K W f)) : PSs X [s1] (tS X.K W f) := pss_one h1
theorem s_frz (i : Nat) (h1 : PSs X rest (tS X.K W f)) : PSs X rest (tS X.K W (sFrz i f)) := pss_le h1 fun N σ H ⟨Z, ρ, Hf, env, st, o, R, hf, k⟩ => by
  obtain ⟨Hf', s1, R'⟩ := R.frz i
  exact ⟨Z, ρ, Hf', frz i env, st, o, R', hf, k.up ⟨s1, List.prefix_rfl⟩⟩
theorem s_asg {tg : Expr} {sl : List Nat} {gg : D → En → Option En} (he : PE X e (tE X.K W h)) (hg : PG X tg (tG X.K sl gg)) (hs : swapsWithSole [tg] e pos.line X.env = pure false := by rfl) (hw : swappedStores [tg] e X.env = pure none := by rfl)
    (h1 : (assignEach [tg] X.env).map (·.2) = [assign tg X.env] := by rfl) : PS X (.Assign [tg] e pos) (tS X.K W (sAsg h gg)) := ps_le (ps_asg he hg hs hw h1) fun N σ H ⟨Z, ρ, Hf, env, st, o, R, hf, k⟩ => by
  refine bindS R hf k fun v H1 ρ1 Hf1 s1 a t1 r1 S1 R1 e1 k1 => ?_
  obtain ⟨env', hg, rfl⟩ := map_ok e1
  exact ⟨Z, ρ1, Hf1, env, s1, a, env', R1, r1, hg, fun σ' R' _ _ => k1 σ' H1 ρ1 Hf1 .refl R'⟩
theorem s_set (i : Nat) {x : Str} {pos' : Pos} (hN : X.N.Nodup) (he : PE X e (tE X.K W h)) (hi : X.N[i]? = some x := by rfl) (hx : Loc X.env.scope x := by first | exact Or.inl rfl | exact Or.inr rfl) (hs : swapsWith e (some (.Name x pos')) pos.line X.env = pure false := by rfl) (hf : X.fn x = true ∨ X.env.scope.names.lookup x = some .local := by first | exact .inl rfl | exact .inr rfl | assumption) :
    PS X (.Assign [.Name x pos'] e pos) (tS X.K W (sSet i h)) := ps_le (ps_set hN hi hx he hs hf) fun N σ H ⟨Z, ρ, Hf, env, st, o, R, hf, k⟩ => by
  refine bindS R hf k fun v H1 ρ1 Hf1 s1 a t1 r1 S1 R1 e1 k1 => ?_
  cases e1
  exact k1 _ H1 ρ1 Hf1 .refl (R1.set i r1)
theorem s_own (i : Nat) {x : Str} {pos' : Pos} (hN : X.N.Nodup) (he : PE X e (tL X.K W l)) (hi : X.N[i]? = some x := by rfl) (hx : Loc X.env.scope x := by first | exact Or.inl rfl | exact Or.inr rfl) (hs : swapsWith e (some (.Name x pos')) pos.line X.env = pure false := by rfl) (hf : X.fn x = true ∨ X.env.scope.names.lookup x = some .local := by first | exact .inl rfl | exact .inr rfl | assumption) :
    PS X (.Assign [.Name x pos'] e pos) (tS X.K W (sOwn i l)) := ps_le (ps_set hN hi hx he hs hf) fun N σ H ⟨Z, ρ, Hf, env, st, o, R, hf, k⟩ => by
  refine bindS R hf k fun v H1 ρ1 Hf1 s1 a t1 r1 S1 R1 e1 k1 => ?_
  cases e1
  obtain ⟨p, vs, rfl, n0, n1, n2, n3, n4⟩ := r1
  exact k1 _ H1 ρ1 Hf1 .refl (R.setOwn t1 S1 i n0 n1 n2 n3 n4)
theorem s_if {c : Expr} {a b : List Stmt} (hc : PT X c (tT X.K W p)) (ha : PSs X a (tS X.K W f)) (hb : PSs X b (tS X.K W g)) : PS X (.If c a b pos) (tS X.K W (sIf p f g)) := ps_le (ps_if hc ha hb) fun N σ H ⟨Z, ρ, Hf, env, st, o, R, hf, k⟩ => by
  refine bindS R hf k fun v H1 ρ1 Hf1 s1 a t1 r1 S1 R1 e1 k1 => ?_
  cases (show v = a from r1)
  cases v with
  | true => exact iteT ⟨Z, ρ1, Hf1, env, s1, o, R1, e1, k1⟩
  | false => exact iteF ⟨Z, ρ1, Hf1, env, s1, o, R1, e1, k1⟩
theorem s_ret (he : PE X e (tE X.K W h)) : PS X (.Return (some e) pos) (tS X.K W (sRet h)) := ps_le (ps_ret he) fun N σ H ⟨Z, ρ, Hf, env, st, o, R, hf, k⟩ => by
  refine bindS R hf k fun v H1 ρ1 Hf1 s1 a t1 r1 S1 R1 e1 k1 => ?_
  cases e1
  exact k1 v H1 ρ1 Hf1 R1.z S1 r1
theorem s_retO (i : Nat) {x : Str} {p : Pos} (hN : X.N[i]? = some x := by rfl) (hv : Vis X.env.scope x := by first | exact Or.inl rfl | exact Or.inr (Or.inl rfl) | exact Or.inr (Or.inr rfl)) (hd : (x == ("__debug__" : Str)) = false := by decide)
    (hcd : (x == ("__classdict__" : Str)) = false := by decide) : PS X (.Return (some (.Name x p)) pos) (tS X.K W (sRetO i)) := ps_le (ps_ret (pe_var hN hv hd hcd)) fun N σ H ⟨Z, ρ, Hf, env, st, o, R, hf, k⟩ => by
  unfold sRetO at hf
  split at hf
  · rename_i l hl
    cases hf
    obtain ⟨w, hs, p, vs, rfl, hz, hr, hf, hp, ha⟩ := R.sl i _ hl
    exact ⟨.ref p, hs, k _ H ρ Hf R.z R.ok ⟨p, vs, rfl, hz, hr, hf, hp, ha⟩⟩
  · cases hf
theorem s_drop (he : PE X e (tE X.K W h)) (hs : swapsWith e none pos.line X.env = pure false := by rfl) : PS X (.Expr e pos) (tS X.K W (sDrop h)) := ps_le (ps_expr he hs) fun N σ H ⟨Z, ρ, Hf, env, st, o, R, hf, k⟩ => by
  refine bindS R hf k fun v H1 ρ1 Hf1 s1 a t1 r1 S1 R1 e1 k1 => ?_
  cases e1
  exact k1 σ H1 ρ1 Hf1 .refl R1
theorem s_app (i : Nat) {x : Str} {p apos cpos : Pos} (he : PE X e (tE X.K W h)) (hN : X.N[i]? = some x := by rfl) (hv : Vis X.env.scope x := by first | exact Or.inl rfl | exact Or.inr (Or.inl rfl) | exact Or.inr (Or.inr rfl)) (hd : (x == ("__debug__" : Str)) = false := by decide)
    (hcd : (x == ("__classdict__" : Str)) = false := by decide)
    (hbase : attributeBase (.Name x p) "append" X.env (eval (.Name x p) X.env) = eval (.Name x p) X.env := by rfl)
    (hfew : ((backTo cpos (starEach (e :: []) X.env)).all (fun x => !x.1) && (backToKw cpos (keywordEach [] X.env)).all (fun x => x.1.isSome)
      && decide ((e :: []).length + ([] : List Keyword).length + (if ([] : List Keyword).isEmpty then 0 else 1) < 30)) = true := by rfl)
    (hline : (apos.endLine == cpos.line) = true := by rfl) (hs : starEach (e :: []) X.env = (false, eval e X.env) :: starEach [] X.env := by rfl) (hplain : (backTo cpos (starEach [] X.env)).any (·.1) = false := by rfl)
    (hsw : swapsWith (.Call (.Attribute (.Name x p) "append" apos) [e] [] cpos) none pos.line X.env = pure false := by rfl) :
    PS X (.Expr (.Call (.Attribute (.Name x p) "append" apos) [e] [] cpos) pos) (tS X.K W (sApp i h)) :=
  ps_le (ps_expr (pe_bm PySem.F.plainAttrs_list PySem.F.slot_list_append PySem.F.type_list_append mt_append (pe_var hN hv hd hcd) (pa_cons he pa_nil hs) hbase hfew hline hs hplain) hsw) fun N σ H ⟨Z, ρ, Hf, env, st, o, R, hf, k⟩ => by
    unfold sApp at hf
    split at hf
    · rename_i l hl
      obtain ⟨w, hs, q, vs, rfl, hz0, hr0, hf0, hp, ha⟩ := R.sl i _ hl
      refine ⟨.ref q, hs, .inl ⟨rfl, _, SqL.of hp⟩, ?_⟩
      refine bindS R hf k fun v H1 ρ1 Hf1 s1 a t1 r1 S1 R1 e1 k1 => ?_
      obtain ⟨hz, e1⟩ := if_some e1
      subst e1
      refine ⟨q, vs, v, rfl, rfl, t1.h q _ hp hr0, Nat.lt_of_lt_of_le (by rw [ha.len]; exact hz) (by decide : 100000 ≤ sizeLine), ?_⟩
      exact k1 σ _ ρ1 Hf1 .refl (R1.mut hl hs ((ha.up t1.up).app (.cons r1 .nil)))
    · cases hf
theorem s_aug (i : Nat) {x : Str} {op : Operator} {gi : Int → Int → Int} {pos' : Pos} (hN : X.N.Nodup) (he : PE X e (tE X.K W h)) (ho : PIp X op (ipI gi)) (hi : X.N[i]? = some x := by rfl) (hx : Loc X.env.scope x := by first | exact Or.inl rfl | exact Or.inr rfl) (hf : X.fn x = true ∨ X.env.scope.names.lookup x = some .local := by first | exact .inl rfl | exact .inr rfl | assumption) :
    PS X (.AugAssign (.Name x pos') op e pos) (tS X.K W (sAug i gi h)) := ps_le (ps_aug hN hi hx he ho hf) fun N σ H ⟨Z, ρ, Hf, env, st, o, R, hf, k⟩ => by
  unfold sAug at hf
  split at hf
  · rename_i a ha
    obtain ⟨w, hs, hw⟩ := R.sl i _ ha
    cases (Dq.dp hw).int_eq
    refine ⟨.int a, hs, ?_⟩
    refine bindS R hf k fun v H1 ρ1 Hf1 s1 b t1 r1 S1 R1 e1 k1 => ?_
    split at e1
    · rename_i b
      cases e1
      cases (Dq.dp r1).int_eq
      exact ⟨a, b, rfl, rfl, k1 _ H1 ρ1 Hf1 .refl (R1.set i (.py (.int _)))⟩
    · cases e1
  · cases hf
theorem s_par (i j : Nat) {x y : Str} {a b : Expr} {px py pt : Pos} {kt k2 pt2} (hc : X.calm = true) (hN : X.N.Nodup) (ha : PA X [a, b] (tA X.K W l)) (hi : X.N[i]? = some x := by rfl) (hj : X.N[j]? = some y := by rfl) (hij : i ≠ j := by decide)
    (hx : X.env.scope.names.lookup x = some .local := by rfl) (hy : X.env.scope.names.lookup y = some .local := by rfl) (hw : swappedStores [.Tuple [.Name x px, .Name y py] kt pt] (.Tuple [a, b] k2 pt2) X.env = pure (some [x, y]) := by rfl)
    (hs : swapsWithSole [.Tuple [.Name x px, .Name y py] kt pt] (.Tuple [a, b] k2 pt2) pos.line X.env = pure false := by rfl) :
    PS X (.Assign [.Tuple [.Name x px, .Name y py] kt pt] (.Tuple [a, b] k2 pt2) pos) (tS X.K W (sPar i j l)) := ps_le (ps_par hc hN hi hj hij hx hy ha hw hs) fun N σ H ⟨Z, ρ, Hf, env, st, o, R, hf, k⟩ => by
  refine bindS R hf k fun vs H1 ρ1 Hf1 s1 ds t1 r1 S1 R1 e1 k1 => ?_
  split at e1
  · rename_i u v
    cases e1
    cases r1 with
    | cons h1 h2 =>
      cases h2 with
      | cons h2 h3 =>
        cases h3
        exact ⟨_, _, rfl, k1 _ H1 ρ1 Hf1 .refl ((R1.set i h1).set j h2)⟩
  · cases e1
end
end Ob

namespace Ob
open PySem PySem.Spec PyProof.Rows L2 Fi
def YQ (K : PySem.W.Frag) (Hf : Hp) (ρ : List Addr) (ds : List D) : Nat → Hp → V → Hp → Prop := fun i H x H' => ∃ d, ds[i]? = some d ∧
  ((H' = H ∧ Dq K Hf ρ x d) ∨ ∃ T us dus, x = .ref T ∧ H T = none ∧ H' = upd H T (.tup us) ∧ d = mkT dus ∧ DqAll K Hf ρ us dus)
abbrev WalkQ (K : PySem.W.Frag) (J : It) (Hf : Hp) (ρ : List Addr) (ds : List D) : Prop := Walk J ds.length (fun H => Same Hf H) (YQ K Hf ρ ds)
def rW : Rlt (List D) It := fun K _ _ _ ρ' Hf' _ J ds => WalkQ K J Hf' ρ' ds
theorem bW : Bk rW := ⟨fun _ h => h⟩
abbrev tI (K : PySem.W.Frag) (W : WX) (f : F (List D)) : TI := tR rW K W f
section
variable {X : Cx} {W : WX} {tg e : Expr} {pos : Pos} {f : F D}
theorem mkT_py (ps : List PyData) : mkT (ps.map .py) = .py (.tuple ps) := by
  unfold mkT
  rw [pyAll_map]
theorem walkQ_of {K : PySem.W.Frag} {Hf : Hp} {ρ : List Addr} {ds : List PyData} {J : It} (w : WalkD K J Hf ds) : WalkQ K J Hf ρ (ds.map .py) := by
  show Walk J (ds.map D.py).length _ _
  rw [List.length_map]
  refine w.mono (fun _ h => h) fun i H x H' _ _ y => ?_
  obtain ⟨d, h1, h2⟩ := y
  refine ⟨.py d, by rw [List.getElem?_map, h1]; rfl, ?_⟩
  rcases h2 with ⟨h2, h3⟩ | ⟨T, us, dus, a, b, c, d', q⟩
  · exact .inl ⟨h2, .py h3⟩
  · exact .inr ⟨T, us, dus.map .py, a, b, c, by rw [mkT_py, d'], dqAll_of q⟩
theorem i_p {f : FL} (h : PI X tg e (Fi.tI X.K f)) : PI X tg e (tI X.K W (pL f)) := pi_le h fun σ H R ⟨Z, ρ, Hf, env, st, o, Rl, e, k⟩ => by
  obtain ⟨l, h1, rfl⟩ := map_ok e
  exact ⟨_, Hf, pv env, l, Rl.pure, h1, fun J H' Hf' s w => k.stp Rl s (walkQ_of w)⟩
theorem walkQ_seq {K : PySem.W.Frag} {Hf : Hp} {ρ : List Addr} {xs : List V} {ds : List D} {J : It} {G : Hp → Prop} (ha : DqAll K Hf ρ xs ds) (w : Walk J xs.length G (YAt xs)) (hG : ∀ H, Same Hf H → G H) : WalkQ K J Hf ρ ds := by
  rw [show xs.length = ds.length from ha.len] at w
  refine w.mono hG fun i H x H' _ _ y => ?_
  obtain ⟨d, h1, h2⟩ := ha.get y.2
  exact ⟨d, h1, .inl ⟨y.1, h2⟩⟩
def iL (f : F D) : F (List D) := bnd f fun d => lft d.lst?
def iT (f : F D) : F (List D) := bnd f fun d => lft d.tup?
theorem i_list (he : PE X e (tE X.K W f)) : PI X tg e (tI X.K W (iL f)) := pi_le (pi_list he) fun σ H R ⟨Z, ρ, Hf, env, st, o, Rl, e, k⟩ => by
  refine bind_at bW Rl e k fun x H1 ρ1 Hf1 s1 dx t1 r1 R1 e1 k1 => ?_
  obtain ⟨z, h1, rfl⟩ := lft_some e1
  obtain ⟨a, xs, rfl, hp, ha⟩ := Dq.lst_of r1 h1
  exact ⟨a, rfl, ⟨xs, R1.ok.i.seq hp⟩, k1.now R1 (walkQ_seq ha walk_list fun H h => h.seq hp)⟩
theorem i_tup (he : PE X e (tE X.K W f)) : PI X tg e (tI X.K W (iT f)) := pi_le (pi_tup he) fun σ H R ⟨Z, ρ, Hf, env, st, o, Rl, e, k⟩ => by
  refine bind_at bW Rl e k fun x H1 ρ1 Hf1 s1 dx t1 r1 R1 e1 k1 => ?_
  obtain ⟨z, h1, rfl⟩ := lft_some e1
  obtain ⟨a, xs, rfl, hp, ha⟩ := Dq.tup_of r1 h1
  exact ⟨a, rfl, ⟨xs, sqT_up R1.ok.i hp⟩, k1.now R1 (walkQ_seq ha walk_tup fun H h => sqT_up h hp)⟩
end
/-- the item of a turn -/
theorem yq_item {K : PySem.W.Frag} {Hf0 Hf H H' : Hp} {ρ0 ρ : List Addr} {ds : List D} {i : Nat} {x : V} {d : D} (y : YQ K Hf0 ρ0 ds i H x H') (hd : ds[i]? = some d) (hi : Same Hf H) (u : Up Hf0 ρ0 Hf ρ) :
    ∃ Hf', Stp Hf H Hf' H' ∧ Dq K Hf' ρ x d := by
  obtain ⟨d', h1, h2⟩ := y
  rw [hd] at h1
  cases h1
  rcases h2 with ⟨rfl, hx⟩ | ⟨T, us, dus, rfl, hT, rfl, rfl, hu⟩
  · exact ⟨Hf, .refl hi, hx.up u⟩
  · have st := Stp.new (o := .tup us) hi hT
    exact ⟨_, st, dq_mkT (SqT.of upd_same) (hu.up (u.trans ⟨st.f, List.prefix_rfl⟩))⟩
def forD (g : D → En → Option En) (fb : FS) : List D → FS
  | [], env, st => some (.next env st)
  | d :: ds, env, st => (g d env).bind fun e1 => match fb e1 st with
    | some (.next e s) => forD g fb ds e s
    | some (.cont e s) => forD g fb ds e s
    | some (.brk e s) => some (.next e s)
    | some (.ret d s) => some (.ret d s)
    | some (.retL d s) => some (.retL d s)
    | some (.exc c e s) => some (.exc c e s)
    | none => none
def sFor (fi : F (List D)) (g : D → En → Option En) (fb : FS) : FS := sE fi fun ds => forD g fb ds
section
variable {X : Cx} {W : WX} {tg iter : Expr} {pos : Pos} {fi : F (List D)} {g : D → En → Option En} {fb : FS} {sl : List Nat} {body : List Stmt}
theorem s_for (hp : PassesOwn (model X.prog X.w) X.A X.env X.xe) (hc : X.calm = true) (hi : PI X tg iter (tI X.K W fi)) (hg : PG X tg (tG X.K sl g)) (hb : PSs X body (tS X.K W fb))
    (hs : ∀ x, foldedSetIterable iter X.env x = pure x := by intro _; rfl) : PS X (.For tg iter body [] pos) (tS X.K W (sFor fi g fb)) := ps_le (ps_for hp hc hi hg hb hs) fun N σ H ⟨Z, ρ, Hf, env, st, o, R, hf, k⟩ => by
  refine bindS R hf k fun J H1 ρ1 Hf1 st1 ds t1 w S1 R1 e1 k1 => ?_
  refine for_it w (fun i σ' H' => ∃ (ρ' : List Addr) (Hf' : Hp) (env' : En) (st' : Stor), Up Hf1 ρ1 Hf' ρ' ∧ Rel X.K Z ρ' Hf' H' env' st' σ' ∧ forD g fb (ds.drop i) env' st' = some o) ⟨ρ1, Hf1, env, st1, .refl, R1, e1⟩ (fun i σ' H' _ ⟨ρ', Hf', env', st', a, R', _⟩ => a.f.trans R'.ok.i)
    (fun i x σ' H' H2 hi ⟨ρ', Hf', env', st', a, R', q⟩ y => ?_) fun σ' H' ⟨ρ', Hf', env', st', a, R', q⟩ => ?_
  · obtain ⟨d, hd, hdr⟩ := drop_get hi
    rw [hdr] at q
    obtain ⟨e1, hg1, q⟩ := obind q
    obtain ⟨Hf2, st2, hx⟩ := yq_item y hd R'.ok.i a
    have R2 := R'.step (.of st2) (R'.ok.stp st2)
    refine ⟨Z, ρ', Hf2, env', st', d, e1, R2, hx, hg1, fun σ3 R3 _ _ => ?_⟩
    have up : Up Hf1 ρ1 Hf2 ρ' := a.trans ⟨st2.f, List.prefix_rfl⟩
    cases hb1 : fb e1 st' with
    | none =>
      rw [hb1] at q
      cases q
    | some o1 =>
      rw [hb1] at q
      refine ⟨Z, ρ', Hf2, e1, st', o1, R3, hb1, ?_⟩
      cases o1 with
      | next e2 s2 => exact fun σ4 H4 ρ4 Hf4 s4 R4 => ⟨ρ4, Hf4, e2, s2, up.trans s4, R4, q⟩
      | cont e2 s2 => exact fun σ4 H4 ρ4 Hf4 s4 R4 => ⟨ρ4, Hf4, e2, s2, up.trans s4, R4, q⟩
      | brk e2 s2 =>
        cases q
        exact fun σ4 H4 ρ4 Hf4 s4 R4 => k1 σ4 H4 ρ4 Hf4 (up.trans s4) R4
      | ret d s2 =>
        cases q
        exact k1
      | retL d s2 =>
        cases q
        exact k1
      | exc c e2 s2 =>
        cases q
        exact fun σ4 H4 ρ4 Hf4 s4 R4 => k1 σ4 H4 ρ4 Hf4 (up.trans s4) R4
  · rw [List.drop_of_length_le (Nat.le_refl _)] at q
    cases q
    exact k1 σ' H' ρ' Hf' a R'
end
def wipeE (env : En) : List Nat → En
  | [] => env
  | i :: r => (wipeE env r).set i none
theorem Rel.wipe {K : PySem.W.Frag} {Z : Zt} {ρ : List Addr} {Hf H : Hp} {st : Stor} {env : En} {σ : L2.St} (R : Rel K Z ρ Hf H env st σ) : ∀ vs : List Nat, Rel K Z ρ Hf H (wipeE env vs) st (L2.wipe σ vs)
  | [] => R
  | i :: r => (R.wipe r).drop i none
theorem StOk.other {K : PySem.W.Frag} {ρ : List Addr} {Hf H : Hp} {st : Stor} {p : Addr} {o : HO} (S : StOk K ρ Hf H st) (hr : p ∉ ρ) (hf : Hf p = none) (hc : ∀ q, H p ≠ some (LamX.CodeO p q)) : StOk K ρ Hf (upd H p o) st :=
  ⟨fun b u e => by rw [upd_ne (ne_of_none e hf)]; exact S.i b u e, S.len, S.nd, S.hid, fun n a u e1 e2 => (S.ob n a u e1 e2).up .refl (by rw [upd_ne (fun z => hr (by rw [← z]; exact List.mem_of_getElem? e1))]) fun c q z => by
    have hn : c ≠ p := fun w => by
      subst w
      exact hc q z
    rw [upd_ne hn]
    exact z⟩
/-- a new address, hidden -/
theorem OStp.other {ρ ρ' : List Addr} {Hf H Hf' H' : Hp} {p : Addr} {o : HO} (t : OStp ρ Hf H ρ' Hf' H') (h : H p = none) : OStp ρ Hf H ρ' Hf' (upd H' p o) :=
  ⟨t.up, fun a u e n => by rw [upd_ne (ne_of_none e h)]; exact t.h a u e n, t.n, t.w, fun a u e => by
    obtain ⟨u', e1⟩ := t.s a u e
    exact ⟨u', by rw [upd_ne (ne_of_none e h)]; exact e1⟩⟩
def lcD (g : D → En → Option En) (p : F Bool) (f : F D) (env : En) : List D → Stor → Option (List D × Stor)
  | [], st => some ([], st)
  | d :: ds, st => (g d env).bind fun e1 => match p e1 st with
    | some (.ok true s1) => match f e1 s1 with
      | some (.ok x s2) => (lcD g p f env ds s2).map fun q => (x :: q.1, q.2)
      | _ => none
    | some (.ok false s1) => lcD g p f env ds s1
    | _ => none
def lLc (fi : F (List D)) (g : D → En → Option En) (p : F Bool) (f : F D) (vs : List Nat) : F (List D) := bnd fi fun ds env st => if ds.length < 100000 then (lcD g p f (wipeE env vs) ds st).map fun q => .ok q.1 q.2 else none
def pYes : F Bool := lft (some true)
abbrev W0 : WX := fun _ _ _ _ => False
section
variable {X : Cx} {W W' : WX}
theorem q_nil : PTs X [] (tT X.K W pYes) := pts_le pts_nil fun σ H Q ⟨Z, ρ, Hf, env, st, o, R, e, k⟩ => by
  obtain ⟨z, h1, rfl⟩ := lft_some e
  cases h1
  exact k.now R rfl
theorem q_one {c : Expr} {p : F Bool} (h : PT X c (tT X.K W p)) : PTs X [c] (tT X.K W p) := pts_one h
theorem tLc_at {K : PySem.W.Frag} {g : D → En → Option En} {p : F Bool} {f : F D} {vs sl : List Nat} (hsl : ∀ i ∈ sl, i ∈ vs) {σ : L2.St} {Z : Zt} {ρ1 : List Addr} {H1 Hf1 : Hp} {env : En} {st1 s' : Stor} {ds out : List D} {J : It} {Qd : Addr → Hp → Prop}
    (R1 : Rel K Z ρ1 Hf1 H1 env st1 σ) (w : WalkQ K J Hf1 ρ1 ds) (hlen : ds.length < 100000) (hf : lcD g p f (wipeE env vs) ds st1 = some (out, s'))
    (k : ∀ P acc H' ρ' Hf', OStp ρ1 Hf1 H1 ρ' Hf' H' → StOk K ρ' Hf' H' s' → H1 P = none → P ∉ ρ' → Hf' P = none → H' P = some (.lst acc) → DqAll K Hf' ρ' acc out → Qd P H') :
    ∀ P, H1 P = none → ∃ U : Nat → Nat → Hp → Prop, (∃ m, U 0 m (upd H1 P (.lst []))) ∧ ∀ i m H, U i m H →
      (J.stop i H ∧ Qd P H) ∨ (J.go i H ∧ ∃ Nx : Hp → Prop, (∀ H', Nx H' → ∃ m', m' < m ∧ U (i + 1) m' H') ∧ ∀ x H', J.yld i H x H' → (tG K sl g) x (L2.wipe σ vs) H' fun σ2 H2 => L2.wipe σ2 vs = L2.wipe σ vs ∧ (tT K W p) σ2 H2 fun b H3 =>
        if b = true then (tE K W' f) σ2 H3 fun y H4 => ∃ acc, H4 P = some (.lst acc) ∧ acc.length < sizeLine ∧ Nx (upd H4 P (.lst (acc ++ [y]))) else Nx H3) := by
  intro P hP
  have hPf : Hf1 P = none := R1.ok.i.free hP
  have hPr : P ∉ ρ1 := R1.ok.new hP
  refine lc_it w (fun i H' => ∃ (ρ' : List Addr) (Hf' : Hp) (st' : Stor) (acc : List V) (da rs : List D), OStp ρ1 Hf1 H1 ρ' Hf' H' ∧ StOk K ρ' Hf' H' st' ∧ P ∉ ρ' ∧ Hf' P = none ∧ H' P = some (.lst acc) ∧ DqAll K Hf' ρ' acc da ∧ da.length ≤ i ∧ lcD g p f (wipeE env vs) (ds.drop i) st' = some (rs, s') ∧ out = da ++ rs)
    ⟨ρ1, Hf1, st1, [], [], out, OStp.refl.other hP, R1.ok.other hPr hPf (fun q z => by rw [hP] at z; cases z), hPr, hPf, upd_same, .nil, Nat.le_refl _, hf, rfl⟩ (fun i H' _ ⟨ρ', Hf', st', _, _, _, a, S, _⟩ => a.up.f.trans S.i) (fun i x H' H2 hi ⟨ρ', Hf', st', acc, da, rs, t, S, n1, n2, h2, h3, hl, h4, h5⟩ y => ?_) fun H' ⟨ρ', Hf', st', acc, da, rs, t, S, n1, n2, h2, h3, hl, h4, h5⟩ => ?_
  · obtain ⟨d, hd, hdr⟩ := drop_get hi
    rw [hdr] at h4
    obtain ⟨e1, hg1, h4⟩ := obind h4
    have R1' : Rel K Z ρ' Hf' H' (wipeE env vs) st' (L2.wipe σ vs) := (R1.wipe vs).step t S
    obtain ⟨Hf2, st2, hx⟩ := yq_item y hd S.i t.up
    have t2 : OStp ρ' Hf' H' ρ' Hf2 H2 := .of st2
    have S2 := S.stp st2
    obtain ⟨m1, m2, m3⟩ := t2.keeps n1 n2 h2
    refine ⟨Z, ρ', Hf2, wipeE env vs, st', d, e1, R1'.step t2 S2, hx, hg1, fun σ3 R3 pt ln => ?_⟩
    have hw : L2.wipe σ3 vs = L2.wipe σ vs := by
      rw [← wipe_wipe σ vs]
      exact wipe_same (ln.trans rfl) fun i hi => pt i fun q => hi (hsl i q)
    refine ⟨hw, ?_⟩
    cases hp : p e1 st' with
    | none =>
      rw [hp] at h4
      cases h4
    | some ob =>
      rw [hp] at h4
      cases ob with
      | err c s => cases h4
      | ok b s1 =>
        refine ⟨Z, ρ', Hf2, e1, st', _, R3, hp, fun v H4 ρ4 Hf4 t4 S4 hv => ?_⟩
        have hv' : v = b := hv
        subst hv'
        obtain ⟨k1, k2, k3⟩ := t4.keeps m1 m2 m3
        have t4' := (t.trans t2).trans t4
        cases v with
        | false => exact iteF ⟨ρ4, Hf4, s1, acc, da, rs, t4', S4, k1, k2, k3, h3.up (t2.up.trans t4.up), by omega, h4, h5⟩
        | true =>
          dsimp only at h4
          cases hfx : f e1 s1 with
          | none =>
            rw [hfx] at h4
            cases h4
          | some ox =>
            rw [hfx] at h4
            cases ox with
            | err c s => cases h4
            | ok x' s2 =>
              obtain ⟨⟨ys, sy⟩, hy, e2⟩ := map_ok h4
              injection e2 with e3 e4
              subst e3 e4
              refine iteT ⟨Z, ρ4, Hf4, e1, s1, _, R3.step t4 S4, hfx, fun v H5 ρ5 Hf5 t5 S5 d5 => ?_⟩
              obtain ⟨g1, g2, g3⟩ := t5.keeps k1 k2 k3
              have t6 := t4'.trans t5
              have ha := h3.up (t2.up.trans (t4.up.trans t5.up))
              have hi' : i < ds.length := hi
              exact ⟨acc, g3, Nat.lt_of_lt_of_le (by rw [ha.len]; omega) (by decide : 100000 ≤ sizeLine), ρ5, Hf5, s2, acc ++ [v], da ++ [x'], ys, t6.other hP, S5.other g1 g2 (fun q z => by rw [g3] at z; unfold LamX.CodeO at z; cases z), g1, g2, upd_same, ha.app (.cons d5 .nil), by rw [List.length_append, List.length_singleton]; omega, hy, by rw [h5, List.append_assoc]; rfl⟩
  · rw [List.drop_of_length_le (Nat.le_refl _)] at h4
    injection h4 with h4
    injection h4 with e3 e4
    subst e3 e4
    rw [List.append_nil] at h5
    subst h5
    exact k P acc H' ρ' Hf' t S hP n1 n2 h2 h3
variable {elt tg iter : Expr} {ifs : List Expr} {scope : Scope} {own : List (Str × Nat)} {pos : Pos} {fi : F (List D)} {g : D → En → Option En} {p : F Bool} {f : F D} {sl vs : List Nat} {Wp We : WX}
theorem l_lc (hc : X.calm = true) (hN : X.N.Nodup) (hi : PI X tg iter (tI X.K W fi)) (ok : BlkOk X.N X.env.scope scope own)
    (hg : ∀ (s : Shared) (H : Hp) (C : Addr) (cl : List (Str × Addr)) (fp : List Addr), PG (X.blk s H scope (compEnvC scope cl C X.env) fp) tg (tG X.K sl g)) (ht : ∀ (s : Shared) (H : Hp) (C : Addr) (cl : List (Str × Addr)) (fp : List Addr), PTs (X.blk s H scope (compEnvC scope cl C X.env) fp) ifs (tT X.K Wp p))
    (he : ∀ (s : Shared) (H : Hp) (C : Addr) (cl : List (Str × Addr)) (fp : List Addr), PE (X.blk s H scope (compEnvC scope cl C X.env) fp) elt (tE X.K We f)) (hvs : own.map (·.2) = vs := by rfl) (hsl : ∀ i ∈ sl, i ∈ vs := by decide) (hs : ∀ x, foldedSetIterable iter X.env x = pure x := by intro _; rfl) :
    PE X (.ListComp elt [⟨tg, iter, ifs, 0⟩] scope pos) (tL X.K W (lLc fi g p f vs)) := by
  subst hvs
  refine pe_le (pe_lc hc hN hi ok hg ht he hs) fun σ H Q ⟨Z, ρ, Hf, env, st, o, R, e, k⟩ => ?_
  refine bind_at bL R e k fun J H1 ρ1 Hf1 s1 ds t1 w R1 e1 k1 => ?_
  split at e1
  · rename_i hlen
    obtain ⟨⟨out, s'⟩, h1, rfl⟩ := map_ok e1
    exact tLc_at hsl R1 w hlen h1 fun P acc H' ρ' Hf' t S hP n1 n2 n3 n4 => k1 _ H' ρ' Hf' t S ⟨P, acc, rfl, hP, n1, n2, n3, n4⟩
  · cases e1
/-- name = [..], on one line -/
theorem s_setLc (i : Nat) {y : Str} {py spos : Pos} (hc : X.calm = true) (hN : X.N.Nodup) (hsw : swapsWith (.ListComp elt [⟨tg, iter, ifs, 0⟩] scope pos) (some (.Name y py)) spos.line X.env = pure true) (hi : PI X tg iter (tI X.K W fi)) (ok : BlkOk X.N X.env.scope scope own)
    (hg : ∀ (s : Shared) (H : Hp) (C : Addr) (cl : List (Str × Addr)) (fp : List Addr), PG (X.blk s H scope (compEnvC scope cl C X.env) fp) tg (tG X.K sl g)) (ht : ∀ (s : Shared) (H : Hp) (C : Addr) (cl : List (Str × Addr)) (fp : List Addr), PTs (X.blk s H scope (compEnvC scope cl C X.env) fp) ifs (tT X.K Wp p))
    (he : ∀ (s : Shared) (H : Hp) (C : Addr) (cl : List (Str × Addr)) (fp : List Addr), PE (X.blk s H scope (compEnvC scope cl C X.env) fp) elt (tE X.K We f)) (hy : X.N[i]? = some y := by rfl) (hyl : X.env.scope.names.lookup y = some .local := by rfl) (hvs : own.map (·.2) = vs := by rfl) (hsl : ∀ i ∈ sl, i ∈ vs := by decide) (hs : ∀ x, foldedSetIterable iter X.env x = pure x := by intro _; rfl) :
    PS X (.Assign [.Name y py] (.ListComp elt [⟨tg, iter, ifs, 0⟩] scope pos) spos) (tS X.K W (sOwn i (lLc fi g p f vs))) := by
  subst hvs
  refine ps_le (ps_setLc hc hN hy hyl hsw hi ok hg ht he hs) fun N σ H ⟨Z, ρ, Hf, env, st, o, R, e, k⟩ => ?_
  have e' : sE fi (fun ds env st => match (if ds.length < 100000 then lcD g p f (wipeE env (own.map (·.2))) ds st else none) with
      | some q => some (.next (env.set i (some (.own q.1))) q.2)
      | none => none) env st = some o := by
    revert e
    unfold sOwn lLc sE bnd
    cases fi env st with
    | none => exact fun h => h
    | some a =>
      cases a with
      | err c s => exact fun h => h
      | ok ds s =>
        dsimp only
        by_cases hl : ds.length < 100000
        · rw [if_pos hl, if_pos hl]
          cases lcD g p f (wipeE env (own.map (·.2))) ds s <;> exact fun h => h
        · rw [if_neg hl, if_neg hl]
          exact fun h => h
  refine bindS R e' k fun J H1 ρ1 Hf1 s1 ds t1 w S1 R1 e1 k1 => ?_
  split at e1
  · rename_i q hq
    split at hq
    · rename_i hlen
      cases e1
      obtain ⟨out, s'⟩ := q
      exact tLc_at hsl R1 w hlen hq fun P acc H' ρ' Hf' t S hP n1 n2 n3 n4 => k1 _ H' ρ' Hf' t.up (R1.setOwn t S i hP n1 n2 n3 n4)
    · cases hq
  · cases e1
end
end Ob

namespace Ob
open PySem PySem.Spec PyProof.Rows L2 Fi
abbrev Fn := List D → Stor → Option (Rs Sl)
def FinR (K : PySem.W.Frag) (ρ : List Addr) (Hf H : Hp) (Q : VK) (E : XK) : Rs Sl → Prop
  | .ok (.val d) st => ∀ v H' ρ' Hf', OStp ρ Hf H ρ' Hf' H' → StOk K ρ' Hf' H' st → Dq K Hf' ρ' v d → Q v H'
  | .ok (.own ds) st => ∀ v H' ρ' Hf', OStp ρ Hf H ρ' Hf' H' → StOk K ρ' Hf' H' st → rL K ρ Hf H ρ' Hf' H' v ds → Q v H'
  | .err c st => ∀ H' ρ' Hf', OStp ρ Hf H ρ' Hf' H' → StOk K ρ' Hf' H' st → E (.ref (He.ga K c)) none H'
def spO (K : PySem.W.Frag) (n : Nat) (G : Fn) : Sp := fun vs H Q E => vs.length = n ∧ ∃ (ρ : List Addr) (Hf : Hp) (ds : List D) (st : Stor) (r : Rs Sl), StOk K ρ Hf H st ∧ DqAll K Hf ρ vs ds ∧ G ds st = some r ∧ FinR K ρ Hf H Q E r
def fnO (n : Nat) (b : FS) : Fn := fun ds st => match b (entry n ds) st with
  | some (.ret d s) => some (.ok (.val d) s)
  | some (.retL d s) => some (.ok (.own d) s)
  | some (.next _ s) => some (.ok (.val (.py .none)) s)
  | some (.exc c _ s) => some (.err c s)
  | _ => none
theorem dqAll_at {K : PySem.W.Frag} {Hf : Hp} {ρ : List Addr} {vs : List V} {ds : List D} (h : DqAll K Hf ρ vs ds) (n : Nat) (i : Nat) (s : Sl) (e : (entry n ds)[i]? = some (some s)) : ∃ v, (vs.map some ++ List.replicate (n - vs.length) none)[i]? = some (some v) ∧ ∃ d, s = .val d ∧ Dq K Hf ρ v d := by
  unfold entry at e
  by_cases hi : i < ds.length
  · rw [List.getElem?_append_left (by simpa using hi), List.getElem?_map] at e
    cases q : ds[i]? with
    | none => rw [q] at e; cases e
    | some d =>
      rw [q] at e
      cases e
      obtain ⟨v, h1, h2⟩ := h.at q
      exact ⟨v, by rw [List.getElem?_append_left (by rw [List.length_map, h.len]; exact hi), List.getElem?_map, h1]; rfl, d, rfl, h2⟩
  · rw [List.getElem?_append_right (by simpa using hi), List.getElem?_replicate] at e
    split at e <;> cases e
theorem rel_start {K : PySem.W.Frag} {Hf H : Hp} {ρ : List Addr} {st : Stor} {vs : List V} {ds : List D} {N : List Str} {n : Nat} (hn : N.length = n) (S : StOk K ρ Hf H st) (h : DqAll K Hf ρ vs ds) : Rel K ⟨ρ, Hf, H⟩ ρ Hf H (entry n ds) st (L2.start N vs) := by
  subst hn
  refine ⟨.refl, S, ?_, fun i s e => ?_, fun i j x y p e1 e2 => ?_⟩
  · unfold entry L2.start
    rw [List.length_append, List.length_append, List.length_map, List.length_map, List.length_replicate, List.length_replicate, h.len]
  · obtain ⟨v, h1, d, rfl, h2⟩ := dqAll_at h _ i s e
    exact ⟨v, h1, h2⟩
  · obtain ⟨v, h1, d, e, h2⟩ := dqAll_at h _ i _ e1
    cases e
theorem body_ok {X : Cx} {b : FS} {sts : List Stmt} {N : List Str} {vs : List V} {H : Hp} {Q : VK} {E : XK} {np n : Nat} (hn : N.length = n) (h : spO X.K np (fnO n b) vs H Q E) : tS X.K (fun c d _ H => E c d H) b { nx := fun _ H' => Q .non H', rt := Q } (L2.start N vs) H := by
  obtain ⟨hl, ρ, Hf, ds, st, r, S, hd, hG, k⟩ := h
  have R := rel_start hn S hd
  unfold fnO at hG
  split at hG
  · rename_i d s hb
    cases hG
    exact ⟨_, ρ, Hf, _, st, _, R, hb, k⟩
  · rename_i d s hb
    cases hG
    exact ⟨_, ρ, Hf, _, st, _, R, hb, k⟩
  · rename_i e s hb
    cases hG
    exact ⟨_, ρ, Hf, _, st, _, R, hb, fun σ' H' ρ' Hf' u R' => k .non H' ρ' Hf' R'.z R'.ok (.py .non)⟩
  · rename_i c e s hb
    cases hG
    exact ⟨_, ρ, Hf, _, st, _, R, hb, fun σ' H' ρ' Hf' u R' => k H' ρ' Hf' R'.z R'.ok⟩
  · cases hG
/-- n positional values, the keywords ks -/
def CalK (P : Program) (w : World) (K : PySem.W.Frag) (mg : Str → Option Value) (base : Heap) (k : Nat) (f : Addr) (n : Nat) (ks : List Str) (sp : Sp) : Prop :=
  ∀ (A : Around) (outer : List Env) (s : Shared) (H : Hp) (us ws : List Value) (vs zs : List V) (Q : VK) (E : XK), Room k A → Env0 P w K mg base A outer s H → Vals vs us → Vals zs ws → vs.length = n → zs.length = ks.length → sp (vs ++ zs) H Q E →
    codeAny (model P w) A (.call (.ref f) ⟨us, ks.zip ws⟩) (CR (L2N.CX P w) outer P w H s Q E) s
section
variable {P : Program} {w : World} {K : PySem.W.Frag} {mg : Str → Option Value} {base : Heap} {j k : Nat} {f : Addr} {fd : FuncData} {ps : List Str} {sp : Sp}
theorem Cal.mono (c : Cal P w K mg base j f sp) (h : j ≤ k) : Cal P w K mg base k f sp := fun A o s H us vs Q E hr => c A o s H us vs Q E (hr.mono h)
theorem CalK.mono {n : Nat} {ks : List Str} (c : CalK P w K mg base j f n ks sp) (h : j ≤ k) : CalK P w K mg base k f n ks sp := fun A o s H us ws vs zs Q E hr => c A o s H us ws vs zs Q E (hr.mono h)
theorem cal_of (F : FnOk P w K mg base (L2N.CX P w) k f fd ps sp) (hb : Binds K fd ps []) : Cal P w K mg base k f sp := fun A outer s H us vs Q E hr e0 r h => by
  have hl : us.length = ps.length := by rw [← r.length]; exact F.len _ _ _ _ h
  have b := hb s us (e0.mod.kin.keeps fun b o e => (e0.bs b o e).1) (by rw [List.append_nil]; exact hl)
  rw [List.append_nil] at b
  exact F.run A outer s H ⟨us, []⟩ us vs Q E hr e0 b r h
end
section
variable {X : Cx} {W : WX} {k : Nat} {f : Addr} {sp : Sp} {pins : List (Addr × Obj)} {σ : L2.St} {H : Hp} {s : Shared} {Q : VK} {us ws : List Value} {vs zs : List V} {E : XK}
theorem run_cal (F : Cal X.prog X.w X.K X.mg X.base k f sp) (hr : Room k X.A) (hx : PassesAt (L2N.CX X.prog X.w) X σ E) (I : Inv X pins σ H s) (r : Vals vs us) (h : sp vs H Q E) : wpAny (model X.prog X.w) X.A (call (.ref f) us) (EP X pins σ Q) X.xe s := by
  refine wpAny_call (codeAny_mono (F X.A X.stack s H us vs Q E hr I.env0 r h) fun r s' hq => ?_)
  cases r with
  | error e => exact hx pins H s e s' I hq
  | ok fl =>
    cases fl with
    | ret u => exact I.after hq
    | next => exact False.elim hq
    | brk => exact False.elim hq
    | cont => exact False.elim hq
theorem run_mk {C : Addr} (M : Mk X.K C f) (F : Cal X.prog X.w X.K X.mg X.base k f sp) (hr : Room (k + 1) X.A) (hx : PassesAt (L2N.CX X.prog X.w) X σ E) (I : Inv X pins σ H s) (r : Vals vs us)
    (h : ∀ x dx, H x = none → H dx = none → dx ≠ x → sp (.ref x :: vs) (upd (upd H dx (.own x)) x (.ins C dx [])) (fun v H2 => v = .non ∧ Q (.ref x) H2) E) :
    wpAny (model X.prog X.w) X.A (call (.ref C) us) (EP X pins σ Q) X.xe s := by
  have hq := h (s.heap.objs.size + 1) s.heap.objs.size (I.hok.fresh (Nat.le_succ _)) (I.hok.fresh (Nat.le_refl _)) (Nat.ne_of_lt (Nat.lt_succ_self _))
  have I2 := Inv.made (C := C) I
  have r2 : Vals (V.ref (s.heap.objs.size + 1) :: vs) (Value.ref (s.heap.objs.size + 1) :: us) := .cons rfl r
  refine wpAny_call (make_map (f := f) I.kIn M.makes M.init (beq_iff_eq.mp M.fn) (codeAny_mono (F _ X.stack _ _ (Value.ref (s.heap.objs.size + 1) :: us) _ _ E (hr.make C us []) (I2.env0.make C us []) r2 hq) fun r s' hq' => ?_))
  cases r with
  | error e => exact hx pins _ _ e s' I2 hq'
  | ok fl =>
    cases fl with
    | ret u =>
      obtain ⟨v, H', I3, rv, ev, q3⟩ := I2.after hq'
      subst ev
      exact ⟨rv, ⟨V.ref (s.heap.objs.size + 1), H', I3, rfl, q3⟩⟩
    | next => exact False.elim hq'
    | brk => exact False.elim hq'
    | cont => exact False.elim hq'
theorem run_mkK {C : Addr} {n : Nat} {ks : List Str} (M : Mk X.K C f) (F : CalK X.prog X.w X.K X.mg X.base k f (n + 1) ks sp) (hr : Room (k + 1) X.A) (hx : PassesAt (L2N.CX X.prog X.w) X σ E) (I : Inv X pins σ H s) (r : Vals vs us) (rz : Vals zs ws) (l1 : vs.length = n) (l2 : zs.length = ks.length)
    (h : ∀ x dx, H x = none → H dx = none → dx ≠ x → sp (.ref x :: vs ++ zs) (upd (upd H dx (.own x)) x (.ins C dx [])) (fun v H2 => v = .non ∧ Q (.ref x) H2) E) :
    wpAny (model X.prog X.w) X.A (call (.ref C) us (ks.zip ws)) (EP X pins σ Q) X.xe s := by
  have hq := h (s.heap.objs.size + 1) s.heap.objs.size (I.hok.fresh (Nat.le_succ _)) (I.hok.fresh (Nat.le_refl _)) (Nat.ne_of_lt (Nat.lt_succ_self _))
  have I2 := Inv.made (C := C) I
  have r2 : Vals (V.ref (s.heap.objs.size + 1) :: vs) (Value.ref (s.heap.objs.size + 1) :: us) := .cons rfl r
  refine wpAny_call (make_map (f := f) I.kIn M.makes M.init (beq_iff_eq.mp M.fn) (codeAny_mono (F _ X.stack _ _ (Value.ref (s.heap.objs.size + 1) :: us) ws _ zs _ E (hr.make C us (ks.zip ws)) (I2.env0.make C us (ks.zip ws)) r2 rz (congrArg Nat.succ l1) l2 hq) fun r s' hq' => ?_))
  cases r with
  | error e => exact hx pins _ _ e s' I2 hq'
  | ok fl =>
    cases fl with
    | ret u =>
      obtain ⟨v, H', I3, rv, ev, q3⟩ := I2.after hq'
      subst ev
      exact ⟨rv, ⟨V.ref (s.heap.objs.size + 1), H', I3, rfl, q3⟩⟩
    | next => exact False.elim hq'
    | brk => exact False.elim hq'
    | cont => exact False.elim hq'
end
def goE (G : Fn) (ds : List D) (st : Stor) : Option (Rs D) := match G ds st with
  | some (.ok (.val d) s) => some (.ok d s)
  | some (.ok (.own l) s) => some (.ok (mkL l) s)
  | some (.err c s) => some (.err c s)
  | none => none
def goL (G : Fn) (ds : List D) (st : Stor) : Option (Rs (List D)) := match G ds st with
  | some (.ok (.own l) s) => some (.ok l s)
  | some (.err c s) => some (.err c s)
  | _ => none
theorem spO_E {K : PySem.W.Frag} {W : WX} {σ : L2.St} {ρ : List Addr} {Hf H : Hp} {st : Stor} {G : Fn} {n : Nat} {vs : List V} {ds : List D} {o : Rs D} {Q : VK} (S : StOk K ρ Hf H st) (h : DqAll K Hf ρ vs ds) (hn : ds.length = n) (e : goE G ds st = some o) (k : Fin rE K W σ ρ Hf H Q o) : spO K n G vs H Q (WE W σ) := by
  unfold goE at e
  split at e
  · rename_i d s q
    cases e
    exact ⟨h.len.trans hn, ρ, Hf, ds, st, _, S, h, q, k⟩
  · rename_i l s q
    cases e
    refine ⟨h.len.trans hn, ρ, Hf, ds, st, _, S, h, q, fun v H' ρ' Hf' t S' ⟨p, vs, e1, e2, e3, e4, e5, e6⟩ => ?_⟩
    subst e1
    exact k _ H' ρ' (upd Hf' p (.lst vs)) (t.show e2 e4) (show_list S' e3 e4 e5) (dq_mkL (SqL.of upd_same) (e6.up ⟨same_new e4, List.prefix_rfl⟩))
  · rename_i c s q
    cases e
    exact ⟨h.len.trans hn, ρ, Hf, ds, st, _, S, h, q, k⟩
  · cases e
theorem spO_L {K : PySem.W.Frag} {W : WX} {σ : L2.St} {ρ : List Addr} {Hf H : Hp} {st : Stor} {G : Fn} {n : Nat} {vs : List V} {ds : List D} {o : Rs (List D)} {Q : VK} (S : StOk K ρ Hf H st) (h : DqAll K Hf ρ vs ds) (hn : ds.length = n) (e : goL G ds st = some o) (k : Fin rL K W σ ρ Hf H Q o) : spO K n G vs H Q (WE W σ) := by
  unfold goL at e
  split at e
  · rename_i d s q
    cases e
    exact ⟨h.len.trans hn, ρ, Hf, ds, st, _, S, h, q, k⟩
  · rename_i c s q
    cases e
    exact ⟨h.len.trans hn, ρ, Hf, ds, st, _, S, h, q, k⟩
  · cases e
def eG (G : Fn) (n : Nat) (r : F (List D)) : F D := bnd r fun ds _ st => if ds.length = n then goE G ds st else none
def lG (G : Fn) (n : Nat) (r : F (List D)) : F (List D) := bnd r fun ds _ st => if ds.length = n then goL G ds st else none
theorem ite_some {p : Prop} [Decidable p] {α : Type} {a : Option α} {b : α} (h : (if p then a else none) = some b) : p ∧ a = some b := by
  split at h
  · exact ⟨‹p›, h⟩
  · cases h
/-- a def of the module -/
structure Kn (P : Program) (w : World) (K : PySem.W.Frag) (mg : Str → Option Value) (base : Heap) (k : Nat) (x : Str) (n : Nat) (G : Fn) : Prop where
  ex : ∃ f : Addr, Cal P w K mg base k f (spO K n G) ∧ mg x = some (.ref f) ∧ PySem.W.keepIn K (.ref f) = true
section
variable {X : Cx} {W : WX} {j k n : Nat} {G : Fn} {x m : Str} {p pos apos : Pos} {e o : Expr} {es : List Expr} {r : F (List D)} {f g : F D}
theorem call_name {t : TA} {sp : Sp} {a : Addr} (F : Cal X.prog X.w X.K X.mg X.base k a sp) (hr : Room k X.A) (tk : L2N.Takes X W) (hg : Gl X x) (hm : X.mg x = some (.ref a)) (hk : PySem.W.keepIn X.K (.ref a) = true)
    (ha : PA X (e :: es) t) (hdb : (x == ("__debug__" : Str)) = false := by decide) (he : starEach (e :: es) X.env = (false, eval e X.env) :: starEach es X.env := by rfl) (hpl : (backTo pos (starEach es X.env)).any (·.1) = false := by rfl) :
    PE X (.Call (.Name x p) (e :: es) [] pos) (fun σ H Q => t σ H fun vs H1 => sp vs H1 Q (WE W σ)) := by
  refine ⟨fun pins s σ H Q I h => ?_⟩
  refine wpAny_Call_Name_kw (ld_glob I hg hm ?_ hdb)
  refine PySem.W.callWith_K (h₀ := X.base) I.ok.mod.kin hk (thn (ha.run pos pins s σ H _ I h) fun us s1 ⟨vs, H1, I1, r, q⟩ => ⟨I1.kIn, ?_⟩) he hpl
  exact run_cal F hr (L2N.passAt tk σ) I1 r q
theorem call_name0 {sp : Sp} {a : Addr} (F : Cal X.prog X.w X.K X.mg X.base k a sp) (hr : Room k X.A) (tk : L2N.Takes X W) (hg : Gl X x) (hm : X.mg x = some (.ref a)) (hk : PySem.W.keepIn X.K (.ref a) = true)
    (hdb : (x == ("__debug__" : Str)) = false := by decide) : PE X (.Call (.Name x p) [] [] pos) (fun σ H Q => sp [] H Q (WE W σ)) := by
  refine ⟨fun pins s σ H Q I h => ?_⟩
  refine wpAny_Call_Name_kw (ld_glob I hg hm ?_ hdb)
  exact PySem.W.callWith_K0 I.kIn hk (run_cal (us := []) F hr (L2N.passAt tk σ) I .nil h)
theorem x_fn (c : Kn X.prog X.w X.K X.mg X.base j x n G) (hr : Room k X.A) (tk : L2N.Takes X W) (ha : PA X (e :: es) (tA X.K W r)) (hg : Gl X x := by rfl) (hjk : j ≤ k := by decide) (hdb : (x == ("__debug__" : Str)) = false := by decide)
    (he : starEach (e :: es) X.env = (false, eval e X.env) :: starEach es X.env := by rfl) (hpl : (backTo pos (starEach es X.env)).any (·.1) = false := by rfl) : PE X (.Call (.Name x p) (e :: es) [] pos) (tE X.K W (eG G n r)) := by
  obtain ⟨a, h1, h2, h3⟩ := c.ex
  refine pe_le (call_name h1 (hr.mono hjk) tk hg h2 h3 ha hdb he hpl) fun σ H Q ⟨Z, ρ, Hf, env, st, o, R, e, k⟩ => ?_
  refine bind_at bE R e k fun vs H1 ρ1 Hf1 s1 ds t1 r1 R1 e1 k1 => ?_
  obtain ⟨hn, e1⟩ := ite_some e1
  exact spO_E R1.ok r1 hn e1 k1
theorem l_fn (c : Kn X.prog X.w X.K X.mg X.base j x n G) (hr : Room k X.A) (tk : L2N.Takes X W) (ha : PA X (e :: es) (tA X.K W r)) (hg : Gl X x := by rfl) (hjk : j ≤ k := by decide) (hdb : (x == ("__debug__" : Str)) = false := by decide)
    (he : starEach (e :: es) X.env = (false, eval e X.env) :: starEach es X.env := by rfl) (hpl : (backTo pos (starEach es X.env)).any (·.1) = false := by rfl) : PE X (.Call (.Name x p) (e :: es) [] pos) (tL X.K W (lG G n r)) := by
  obtain ⟨a, h1, h2, h3⟩ := c.ex
  refine pe_le (call_name h1 (hr.mono hjk) tk hg h2 h3 ha hdb he hpl) fun σ H Q ⟨Z, ρ, Hf, env, st, o, R, e, k⟩ => ?_
  refine bind_at bL R e k fun vs H1 ρ1 Hf1 s1 ds t1 r1 R1 e1 k1 => ?_
  obtain ⟨hn, e1⟩ := ite_some e1
  exact spO_L R1.ok r1 hn e1 k1
theorem x_fn0 (c : Kn X.prog X.w X.K X.mg X.base j x 0 G) (hr : Room k X.A) (tk : L2N.Takes X W) (hg : Gl X x := by rfl) (hjk : j ≤ k := by decide) (hdb : (x == ("__debug__" : Str)) = false := by decide) :
    PE X (.Call (.Name x p) [] [] pos) (tE X.K W (fun _ st => goE G [] st)) := by
  obtain ⟨a, h1, h2, h3⟩ := c.ex
  refine pe_le (call_name0 h1 (hr.mono hjk) tk hg h2 h3 hdb) fun σ H Q ⟨Z, ρ, Hf, env, st, o, R, e, k⟩ => ?_
  exact spO_E R.ok .nil rfl e k
/-- a plain def, its arguments not plain by their text -/
def eP (G : List PyData → Option Fi.Sl) (n : Nat) (r : F (List D)) : F D := bnd r fun ds => lft (if ds.length = n then (pyAll ds).bind fun ps => match G ps with
  | some (.val d) => some (.py d)
  | some (.own l) => some (.py (.list l))
  | _ => none else none)
def fld (cs : List Str) (m : Str) : D → Stor → Option D := fun d st => match d with
  | .obj n => match st[n]? with
    | some (.ins c fs) => if c ∈ cs then fs.lookup m else none
    | _ => none
  | _ => none
def eFld (cs : List Str) (m : Str) (f : F D) : F D := bnd f fun d _ st => (fld cs m d st).map (.ok · st)
/-- the classes cs have no attribute m of their own -/
def NoA (K : PySem.W.Frag) (cs : List Str) (m : Str) : Prop := ∀ c ∈ cs, Cls K (He.ga K c) ∧ NoAttr K (He.ga K c) m
theorem fs_lookup {K : PySem.W.Frag} {Hf : Hp} {ρ : List Addr} {m : Str} {d : D} : ∀ {vs : List (Str × V)} {fs : List (Str × D)}, FsOk K Hf ρ vs fs → fs.lookup m = some d → ∃ v, vs.lookup m = some v ∧ Dq K Hf ρ v d
  | [], _, h, e => by cases h; cases e
  | (n, v) :: vs, _, h, e => by
    cases h with
    | cons h t =>
      rename_i q fs
      obtain ⟨n', d'⟩ := q
      obtain ⟨h1, h2⟩ := h
      cases (show n = n' from h1)
      rw [List.lookup_cons] at e ⊢
      cases z : (m == n) with
      | true =>
        rw [z] at e
        cases e
        exact ⟨v, rfl, h2⟩
      | false =>
        rw [z] at e
        exact fs_lookup t e
theorem fs_none {K : PySem.W.Frag} {Hf : Hp} {ρ : List Addr} {m : Str} : ∀ {vs : List (Str × V)} {fs : List (Str × D)}, FsOk K Hf ρ vs fs → fs.lookup m = none → vs.lookup m = none
  | [], _, h, e => rfl
  | (n, v) :: vs, _, h, e => by
    cases h with
    | cons h t =>
      rename_i q fs
      obtain ⟨n', d'⟩ := q
      obtain ⟨h1, h2⟩ := h
      cases (show n = n' from h1)
      rw [List.lookup_cons] at e ⊢
      cases z : (m == n) with
      | true =>
        rw [z] at e
        cases e
      | false =>
        rw [z] at e
        exact fs_none t e
def clsOf (d : D) (st : Stor) : Option Str := match d with
  | .obj n => match st[n]? with
    | some (.ins c _) => some c
    | _ => none
  | _ => none
theorem fld_some {K : PySem.W.Frag} {ρ : List Addr} {Hf H : Hp} {st : Stor} {cs : List Str} {m : Str} {v : V} {d z : D} (S : StOk K ρ Hf H st) (h : Dq K Hf ρ v d) (e : fld cs m d st = some z) :
    ∃ a c dx vs w, v = .ref a ∧ c ∈ cs ∧ H a = some (.ins (He.ga K c) dx vs) ∧ vs.lookup m = some w ∧ Dq K Hf ρ w z ∧ clsOf d st = some c := by
  unfold fld at e
  split at e
  · rename_i n
    split at e
    · rename_i c fs q
      obtain ⟨hc, e⟩ := ite_some e
      cases h with
      | obj ha =>
        obtain ⟨dx, vs, h1, h2⟩ := S.ob n _ _ ha q
        obtain ⟨w, h3, h4⟩ := fs_lookup h2 e
        exact ⟨_, c, dx, vs, w, rfl, hc, h1, h3, h4, by simp [clsOf, q]⟩
    · cases e
  · cases e
theorem x_fld (cs : List Str) (hC : NoA X.K cs m) (he : PE X e (tE X.K W f)) (hb : attributeBase e m X.env (eval e X.env) = eval e X.env := by rfl) : PE X (.Attribute e m pos) (tE X.K W (eFld cs m f)) := pe_le (pe_fld he hb) fun σ H Q ⟨Z, ρ, Hf, env, st, o, R, e, k⟩ => by
  refine bind_at bE R e k fun v H1 ρ1 Hf1 s1 d t1 r1 R1 e1 k1 => ?_
  obtain ⟨z, e2, rfl⟩ := map_ok e1
  obtain ⟨a, c, dx, vs, w, rfl, hc, h1, h2, h3, _⟩ := fld_some R1.ok r1 e2
  exact ⟨a, _, dx, vs, w, rfl, h1, (hC c hc).1, (hC c hc).2, h2, k1.now R1 h3⟩
abbrev Tab := List (Str × Fn)
structure Met (P : Program) (w : World) (K : PySem.W.Frag) (mg : Str → Option Value) (base : Heap) (k : Nat) (m : Str) (n : Nat) (c : Str) (G : Fn) : Prop where
  cls : Cls K (He.ga K c)
  ex : ∃ f : Addr, Meth K (He.ga K c) m f ∧ Cal P w K mg base k f (spO K (n + 1) G)
def Mets (P : Program) (w : World) (K : PySem.W.Frag) (mg : Str → Option Value) (base : Heap) (k : Nat) (m : Str) (n : Nat) (T : Tab) : Prop := ∀ p ∈ T, Met P w K mg base k m n p.1 p.2
/-- what is done for an object -/
def pick (T : Tab) (m : Str) : D → Stor → Option Fn := fun d st => match d with
  | .obj n => match st[n]? with
    | some (.ins c fs) => if (fs.lookup m).isNone then T.lookup c else none
    | _ => none
  | _ => none
def eMeth (T : Tab) (m : Str) (n : Nat) (f : F D) (r : F (List D)) : F D := bnd f fun d env st => match pick T m d st with
  | some G => bnd r (fun ds _ st => if ds.length = n then goE G (d :: ds) st else none) env st
  | none => none
theorem lookup_mem {β : Type} {x : Str} {y : β} : ∀ {l : List (Str × β)}, l.lookup x = some y → (x, y) ∈ l
  | [], h => by cases h
  | (a, b) :: r, h => by
    rw [List.lookup_cons] at h
    cases z : (x == a) with
    | true =>
      rw [z] at h
      cases h
      rw [beq_iff_eq.mp z]
      exact List.mem_cons_self ..
    | false =>
      rw [z] at h
      exact List.mem_cons_of_mem _ (lookup_mem h)
theorem pick_some {K : PySem.W.Frag} {ρ : List Addr} {Hf H : Hp} {st : Stor} {T : Tab} {m : Str} {v : V} {d : D} {G : Fn} (S : StOk K ρ Hf H st) (h : Dq K Hf ρ v d) (e : pick T m d st = some G) :
    ∃ a c dx vs, v = .ref a ∧ (c, G) ∈ T ∧ H a = some (.ins (He.ga K c) dx vs) ∧ vs.lookup m = none := by
  unfold pick at e
  split at e
  · rename_i n
    split at e
    · rename_i c fs q
      obtain ⟨hc, e⟩ := ite_some e
      cases h with
      | obj ha =>
        obtain ⟨dx, vs, h1, h2⟩ := S.ob n _ _ ha q
        exact ⟨_, c, dx, vs, rfl, lookup_mem e, h1, fs_none h2 (Option.isNone_iff_eq_none.mp hc)⟩
    · cases e
  · cases e
theorem x_meth {T : Tab} {pl : Sem Bool} (M : Mets X.prog X.w X.K X.mg X.base j m n T) (hr : Room k X.A) (tk : L2N.Takes X W) (he : PE X o (tE X.K W f)) (ha : PA X (e :: es) (tA X.K W r)) (hjk : j ≤ k := by decide)
    (hst : starEach (e :: es) X.env = (false, eval e X.env) :: starEach es X.env := by rfl) (hpl : (backTo pos (starEach es X.env)).any (·.1) = false := by rfl)
    (ht : eval (.Call (.Attribute o m apos) (e :: es) [] pos) X.env = (do
      let ov ← eval o X.env
      standAt apos.atName
      let (f, first) ← holding [ov] (getMethod ov m pl)
      callWith pos f first (backTo pos (starEach (e :: es) X.env)) (backToKw pos (keywordEach [] X.env))) := by rfl) :
    PE X (.Call (.Attribute o m apos) (e :: es) [] pos) (tE X.K W (eMeth T m n f r)) := by
  refine ⟨fun pins s σ H Q I ⟨Z, ρ, Hf, env, st, o, R, e, k⟩ => ?_⟩
  refine PySem.W.methodCall_KW (pl := pl) (thn (he.run pins s σ H _ I (bind_at bE R e k (P := fun v H1 => ∃ ρ1 Hf1 s1 d, Dq X.K Hf1 ρ1 v d ∧ Rel X.K Z ρ1 Hf1 H1 env s1 σ ∧ (match pick T m d s1 with
    | some G => bnd r (fun ds _ st => if ds.length = n then goE G (d :: ds) st else none) env s1
    | none => none) = some o ∧ Fin rE X.K W σ ρ1 Hf1 H1 Q o) fun v H1 ρ1 Hf1 s1 d t1 r1 R1 e1 k1 => ⟨ρ1, Hf1, s1, d, r1, R1, e1, k1⟩)) fun u s1 ⟨x, H1, I1, rx, ρ1, Hf1, st1, d, r1, R1, e1, k1⟩ => ?_) ht
  cases hp : pick T m d st1 with
  | none => rw [hp] at e1; cases e1
  | some G =>
    rw [hp] at e1
    obtain ⟨a, c, dx, vs, rfl, hm, ea, hl⟩ := pick_some R1.ok r1 hp
    obtain rfl : u = Value.ref a := rx
    obtain ⟨fa, hme, hcal⟩ := (M _ hm).ex
    refine getmeth_ok I1 ea (M _ hm).cls hme hl ?_
    refine PySem.W.callWith_K (first := [.ref a]) (h₀ := X.base) I.ok.mod.kin hme.kp (thn (ha.run pos pins s1 σ H1 _ I1 (bind_at bE R1 e1 k1 (P := fun vs H2 => spO X.K (n + 1) G (.ref a :: vs) H2 Q (WE W σ)) fun vs H2 ρ2 Hf2 s2 ds t2 r2 R2 e2 k2 => ?_)) fun us s2 ⟨vs, H2, I2, rv, q2⟩ => ⟨I2.kIn, ?_⟩) hst hpl
    · obtain ⟨hn, e2⟩ := ite_some e2
      exact spO_E R2.ok (.cons (Dq.up t2.up r1) r2) (congrArg Nat.succ hn) e2 k2
    · exact run_cal (us := .ref a :: us) (vs := .ref a :: vs) hcal (hr.mono hjk) (L2N.passAt tk σ) I2 (.cons rfl rv) q2
def eMeth0 (T : Tab) (m : Str) (f : F D) : F D := bnd f fun d _ st => match pick T m d st with
  | some G => goE G [d] st
  | none => none
theorem x_meth0 {T : Tab} {pl : Sem Bool} (M : Mets X.prog X.w X.K X.mg X.base j m 0 T) (hr : Room k X.A) (tk : L2N.Takes X W) (he : PE X o (tE X.K W f)) (hjk : j ≤ k := by decide)
    (ht : eval (.Call (.Attribute o m apos) [] [] pos) X.env = (do
      let ov ← eval o X.env
      standAt apos.atName
      let (f, first) ← holding [ov] (getMethod ov m pl)
      callWith pos f first (backTo pos (starEach [] X.env)) (backToKw pos (keywordEach [] X.env))) := by rfl) :
    PE X (.Call (.Attribute o m apos) [] [] pos) (tE X.K W (eMeth0 T m f)) := by
  refine ⟨fun pins s σ H Q I ⟨Z, ρ, Hf, env, st, o, R, e, k⟩ => ?_⟩
  refine PySem.W.methodCall_KW (pl := pl) (thn (he.run pins s σ H _ I (bind_at bE R e k (P := fun v H1 => ∃ ρ1 Hf1 s1 d, Dq X.K Hf1 ρ1 v d ∧ Rel X.K Z ρ1 Hf1 H1 env s1 σ ∧ (match pick T m d s1 with
    | some G => goE G [d] s1
    | none => none) = some o ∧ Fin rE X.K W σ ρ1 Hf1 H1 Q o) fun v H1 ρ1 Hf1 s1 d t1 r1 R1 e1 k1 => ⟨ρ1, Hf1, s1, d, r1, R1, e1, k1⟩)) fun u s1 ⟨x, H1, I1, rx, ρ1, Hf1, st1, d, r1, R1, e1, k1⟩ => ?_) ht
  cases hp : pick T m d st1 with
  | none => rw [hp] at e1; cases e1
  | some G =>
    rw [hp] at e1
    obtain ⟨a, c, dx, vs, rfl, hm, ea, hl⟩ := pick_some R1.ok r1 hp
    obtain rfl : u = Value.ref a := rx
    obtain ⟨fa, hme, hcal⟩ := (M _ hm).ex
    refine getmeth_ok I1 ea (M _ hm).cls hme hl ?_
    exact PySem.W.callWith_K0 (first := [.ref a]) I1.kIn hme.kp (run_cal (us := [.ref a]) (vs := [.ref a]) hcal (hr.mono hjk) (L2N.passAt tk σ) I1 (.cons rfl .nil) (spO_E R1.ok (.cons r1 .nil) rfl e1 k1))
end
end Ob

namespace Ob
open PySem PySem.Spec PyProof.Rows L2 Fi
structure Prp (P : Program) (w : World) (K : PySem.W.Frag) (mg : Str → Option Value) (base : Heap) (k : Nat) (m : Str) (c : Str) (G : Fn) : Prop where
  cls : Cls K (He.ga K c)
  ex : ∃ p g : Addr, PropOf K (He.ga K c) m p g ∧ Cal P w K mg base k g (spO K 1 G)
def Prps (P : Program) (w : World) (K : PySem.W.Frag) (mg : Str → Option Value) (base : Heap) (k : Nat) (m : Str) (T : Tab) : Prop := ∀ p ∈ T, Prp P w K mg base k m p.1 p.2
def pickP (T : Tab) : D → Stor → Option Fn := fun d st => match d with
  | .obj n => match st[n]? with
    | some (.ins c _) => T.lookup c
    | _ => none
  | _ => none
def goN (G : Fn) (ds : List D) (st : Stor) : Option (Rs D) := match goE G ds st with
  | some (.ok d s) => some (.ok d s)
  | _ => none
def eProp (T : Tab) (f : F D) : F D := bnd f fun d _ st => match pickP T d st with
  | some G => goN G [d] st
  | none => none
theorem pickP_some {K : PySem.W.Frag} {ρ : List Addr} {Hf H : Hp} {st : Stor} {T : Tab} {v : V} {d : D} {G : Fn} (S : StOk K ρ Hf H st) (h : Dq K Hf ρ v d) (e : pickP T d st = some G) :
    ∃ a c dx vs, v = .ref a ∧ (c, G) ∈ T ∧ H a = some (.ins (He.ga K c) dx vs) := by
  unfold pickP at e
  split at e
  · rename_i n
    split at e
    · rename_i c fs q
      cases h with
      | obj ha =>
        obtain ⟨dx, vs, h1, h2⟩ := S.ob n _ _ ha q
        exact ⟨_, c, dx, vs, rfl, lookup_mem e, h1⟩
    · cases e
  · cases e
theorem goN_some {G : Fn} {ds : List D} {st : Stor} {o : Rs D} (h : goN G ds st = some o) : ∃ d s, o = .ok d s ∧ goE G ds st = some (.ok d s) := by
  unfold goN at h
  split at h
  · rename_i d s q
    cases h
    exact ⟨d, s, rfl, q⟩
  · cases h
section
variable {X : Cx} {W : WX} {j k n : Nat} {G : Fn} {x m : Str} {p pos apos pos' tpos : Pos} {e o value : Expr} {es : List Expr} {r : F (List D)} {f g : F D}
theorem getprop {pins : List (Addr × Obj)} {σ : L2.St} {H : Hp} {s : Shared} {Q : VK} {b : Bool} {E' : Value → Shared → Prop} {a C dx p g : Addr} {fs : List (Str × V)} {sp : Sp} (I : Inv X pins σ H s) (ea : H a = some (.ins C dx fs)) (c : Cls X.K C) (hp : PropOf X.K C m p g)
    (F : Cal X.prog X.w X.K X.mg X.base k g sp) (hr : Room (k + 1) X.A) (h : sp [.ref a] H Q (fun _ _ _ => False)) : wpAny (model X.prog X.w) X.A (getAttr (.ref a) m b) (EP X pins σ Q) E' s := by
  obtain ⟨mA, O, _, _, _, _⟩ := ins_get I.hok ea
  obtain ⟨od, J, _⟩ := O.look
  obtain ⟨rest, hrec⟩ := hp.rec_
  have I1 := I.tok (s.toks + 1)
  have hc : (PySem.W.clsIn X.K C).isSome = true := by
    obtain ⟨cd, hc, _⟩ := PySem.W.any_some c.hd
    rw [hc]
    rfl
  refine PySem.W.get_bind I.kIn J (PySem.W.plainGet_of (c.get m)).1 (PySem.W.findObj_data hc hp.at_ hp.get hp.tak) (PySem.W.plainGet_of (c.get m)).2 (wpAny_call (PySem.W.prop_get (s := { s with toks := s.toks + 1 }) I.kIn hrec ?_))
  refine codeAny_mono (F X.A.in1 X.stack { s with toks := s.toks + 1 } H [.ref a] [.ref a] Q _ hr.in1 I1.env0.in1 (.cons rfl .nil) h) fun r s' hq => ?_
  cases r with
  | error er =>
    obtain ⟨_, _, _, _, _, _, _, _, _, _, _, _, z⟩ := hq
    exact z.elim
  | ok fl =>
    cases fl with
    | ret u =>
      obtain ⟨v, H', I3, rv, q3⟩ := I1.after hq
      show wpAny _ _ (handedOut u) _ _ _
      rw [PySem.W.handedOut_of (handed_of rv)]
      exact wpAny_pure ⟨v, H', I3, rv, q3⟩
    | next => exact False.elim hq
    | brk => exact False.elim hq
    | cont => exact False.elim hq
theorem x_prop {T : Tab} (M : Prps X.prog X.w X.K X.mg X.base j m T) (hr : Room k X.A) (he : PE X e (tE X.K W f)) (hjk : j + 1 ≤ k := by decide) (hab : attributeBase e m X.env (eval e X.env) = eval e X.env := by rfl) : PE X (.Attribute e m pos) (tE X.K W (eProp T f)) := by
  refine ⟨fun pins s σ H Q I ⟨Z, ρ, Hf, env, st, o, R, e, k⟩ => ?_⟩
  refine attr_of hab (thn (he.run pins s σ H _ I (bind_at bE R e k (P := fun v H1 => ∃ ρ1 Hf1 s1 d, Dq X.K Hf1 ρ1 v d ∧ Rel X.K Z ρ1 Hf1 H1 env s1 σ ∧ (match pickP T d s1 with
    | some G => goN G [d] s1
    | none => none) = some o ∧ Fin rE X.K W σ ρ1 Hf1 H1 Q o) fun v H1 ρ1 Hf1 s1 d t1 r1 R1 e1 k1 => ⟨ρ1, Hf1, s1, d, r1, R1, e1, k1⟩)) fun u s1 ⟨x, H1, I1, rx, ρ1, Hf1, st1, d, r1, R1, e1, k1⟩ => ?_)
  cases hp : pickP T d st1 with
  | none => rw [hp] at e1; cases e1
  | some G =>
    rw [hp] at e1
    obtain ⟨a, c, dx, vs, rfl, hm, ea⟩ := pickP_some R1.ok r1 hp
    obtain rfl : u = Value.ref a := rx
    obtain ⟨p, ga, hpr, hcal⟩ := (M _ hm).ex
    obtain ⟨z, sz, rfl, e2⟩ := goN_some e1
    exact getprop I1 ea (M _ hm).cls hpr hcal (hr.mono hjk) (spO_E (W := W0) (σ := σ) R1.ok (.cons r1 .nil) rfl e2 k1)
def made (G : Fn) (c : Str) (ds : List D) (st : Stor) : Option (Rs D) := match G (.obj st.length :: ds) (st ++ [.ins c []]) with
  | some (.ok (.val (.py .none)) s) => some (.ok (.obj st.length) s)
  | some (.err e s) => some (.err e s)
  | _ => none
theorem spO_M {K : PySem.W.Frag} {W : WX} {σ : L2.St} {ρ : List Addr} {Hf H : Hp} {st : Stor} {G : Fn} {n : Nat} {c : Str} {vs : List V} {ds : List D} {o : Rs D} {Q : VK} (S : StOk K ρ Hf H st) (h : DqAll K Hf ρ vs ds) (hn : ds.length = n) (e : made G c ds st = some o) (k : Fin rE K W σ ρ Hf H Q o) :
    ∀ x dx, H x = none → H dx = none → dx ≠ x → spO K (n + 1) G (.ref x :: vs) (upd (upd H dx (.own x)) x (.ins (He.ga K c) dx [])) (fun v H2 => v = .non ∧ Q (.ref x) H2) (WE W σ) := fun x dx hx hd ne => by
  have t : OStp ρ Hf H (ρ ++ [x]) Hf (upd (upd H dx (.own x)) x (.ins (He.ga K c) dx [])) := .push S.i hx (made_keeps hx hd)
  have S1 := S.make (c := c) hx hd
  have hself : Dq K Hf (ρ ++ [x]) (.ref x) (.obj st.length) := .obj (by rw [← S.len, List.getElem?_append_right (Nat.le_refl _), Nat.sub_self]; rfl)
  have ha : DqAll K Hf (ρ ++ [x]) (.ref x :: vs) (.obj st.length :: ds) := .cons hself (h.up t.up)
  unfold made at e
  split at e
  · rename_i s q
    cases e
    refine ⟨congrArg Nat.succ (h.len.trans hn), _, Hf, _, _, _, S1, ha, q, fun v H' ρ' Hf' t' S' d => ⟨?_, ?_⟩⟩
    · exact d.dp.non_eq
    · exact k _ H' ρ' Hf' (t.trans t') S' (hself.up t'.up)
  · rename_i c s q
    cases e
    exact ⟨congrArg Nat.succ (h.len.trans hn), _, Hf, _, _, _, S1, ha, q, fun H' ρ' Hf' t' S' => k H' ρ' Hf' (t.trans t') S'⟩
  · cases e
/-- a class of the module that is called with n values -/
structure Mkr (P : Program) (w : World) (K : PySem.W.Frag) (mg : Str → Option Value) (base : Heap) (k : Nat) (c : Str) (n : Nat) (G : Fn) : Prop where
  g : mg c = some (.ref (He.ga K c))
  ex : ∃ f, Mk K (He.ga K c) f ∧ Cal P w K mg base k f (spO K (n + 1) G)
structure MkrK (P : Program) (w : World) (K : PySem.W.Frag) (mg : Str → Option Value) (base : Heap) (k : Nat) (c : Str) (n : Nat) (ks : List Str) (G : Fn) : Prop where
  g : mg c = some (.ref (He.ga K c))
  ex : ∃ f, Mk K (He.ga K c) f ∧ CalK P w K mg base k f (n + 1) ks (spO K (n + ks.length + 1) G)
def eMake (G : Fn) (c : Str) (n : Nat) (r : F (List D)) : F D := bnd r fun ds _ st => if ds.length = n then made G c ds st else none
theorem x_make {c : Str} (M : Mkr X.prog X.w X.K X.mg X.base j c n G) (hr : Room k X.A) (tk : L2N.Takes X W) (ha : PA X (e :: es) (tA X.K W r)) (hg : Gl X c := by rfl) (hjk : j + 1 ≤ k := by decide) (hdb : (c == ("__debug__" : Str)) = false := by decide)
    (he : starEach (e :: es) X.env = (false, eval e X.env) :: starEach es X.env := by rfl) (hpl : (backTo pos (starEach es X.env)).any (·.1) = false := by rfl) : PE X (.Call (.Name c p) (e :: es) [] pos) (tE X.K W (eMake G c n r)) := by
  obtain ⟨f, hM, hF⟩ := M.ex
  refine ⟨fun pins s σ H Q I ⟨Z, ρ, Hf, env, st, o, R, e, k⟩ => ?_⟩
  refine wpAny_Call_Name_kw (ld_glob I hg M.g ?_ hdb)
  refine PySem.W.callWith_K (h₀ := X.base) I.ok.mod.kin hM.kp (thn (ha.run pos pins s σ H _ I (bind_at bE R e k (P := fun vs H1 => ∀ x dx, H1 x = none → H1 dx = none → dx ≠ x → spO X.K (n + 1) G (.ref x :: vs) (upd (upd H1 dx (.own x)) x (.ins (He.ga X.K c) dx [])) (fun v H2 => v = .non ∧ Q (.ref x) H2) (WE W σ)) fun vs H1 ρ1 Hf1 s1 ds t1 r1 R1 e1 k1 => ?_)) fun us s1 ⟨vs, H1, I1, rv, q⟩ => ⟨I1.kIn, ?_⟩) he hpl
  · obtain ⟨hn, e1⟩ := ite_some e1
    exact spO_M R1.ok r1 hn e1 k1
  · exact run_mk hM hF (hr.mono hjk) (L2N.passAt tk σ) I1 rv q
/-- the keywords' values -/
theorem k_nil : PK X [] (tA X.K W aNil) := ⟨fun pos pins s σ H Q I ⟨Z, ρ, Hf, env, st, o, R, e, k⟩ => by
  obtain ⟨z, h1, rfl⟩ := lft_some e
  cases h1
  exact pk_nil.run pos pins s σ H Q I (k.now R .nil)⟩
theorem k_cons {nm : Option Str} {kpos : Pos} {kws : List Keyword} (ha : PE X e (tE X.K W f)) (hr : PK X kws (tA X.K W r)) : PK X (⟨nm, e, kpos⟩ :: kws) (tA X.K W (aCons f r)) := ⟨fun pos pins s σ H Q I ⟨Z, ρ, Hf, env, st, o, R, e, k⟩ => by
  refine (pk_cons ha hr).run pos pins s σ H Q I ?_
  refine bind_at bA R e k fun x H1 ρ1 Hf1 s1 dx t1 r1 R1 e1 k1 => ?_
  refine bind_at bA R1 e1 k1 fun xs H2 ρ2 Hf2 s2 ds t2 r2 R2 e2 k2 => ?_
  obtain ⟨z, h1, rfl⟩ := lft_some e2
  cases h1
  exact k2.now R2 (.cons (Dq.up t2.up r1) r2)⟩
def eMakeK (G : Fn) (c : Str) (n m : Nat) (r q : F (List D)) : F D := bnd r fun ds => bnd q fun ws _ st => if ds.length = n ∧ ws.length = m then made G c (ds ++ ws) st else none
theorem x_makeK {c : Str} {ks : List Str} {kws : List Keyword} {q : F (List D)} {m : Nat} (M : MkrK X.prog X.w X.K X.mg X.base j c n ks G) (hr : Room k X.A) (tk : L2N.Takes X W) (ha : PA X (e :: es) (tA X.K W r)) (hkw : PK X kws (tA X.K W q)) (hm : ks.length = m := by rfl) (hg : Gl X c := by rfl) (hjk : j + 1 ≤ k := by decide)
    (hall : (backToKw pos (keywordEach kws X.env)).all (·.1.isSome) = true := by rfl) (hks : (backToKw pos (keywordEach kws X.env)).filterMap (·.1) = ks := by rfl)
    (hdb : (c == ("__debug__" : Str)) = false := by decide) (he : starEach (e :: es) X.env = (false, eval e X.env) :: starEach es X.env := by rfl)
    (hpl : ((backTo pos (starEach (e :: es) X.env)).any (·.1) || (backToKw pos (keywordEach kws X.env)).any (·.1.isNone)) = false := by rfl) : PE X (.Call (.Name c p) (e :: es) kws pos) (tE X.K W (eMakeK G c n m r q)) := by
  obtain ⟨f, hM, hF⟩ := M.ex
  subst hm
  refine ⟨fun pins s σ H Q I ⟨Z, ρ, Hf, env, st, o, R, e, k⟩ => ?_⟩
  refine wpAny_Call_Name_kw (ld_glob I hg M.g ?_ hdb)
  let Post : List V → List V → Hp → Prop := fun vs zs H1 => vs.length = n ∧ zs.length = ks.length ∧ ∀ x dx, H1 x = none → H1 dx = none → dx ≠ x → spO X.K (n + ks.length + 1) G (.ref x :: vs ++ zs) (upd (upd H1 dx (.own x)) x (.ins (He.ga X.K c) dx [])) (fun v H2 => v = .non ∧ Q (.ref x) H2) (WE W σ)
  refine PySem.W.callWith_KW (h₀ := X.base) I.ok.mod.kin hM.kp hall (thn (ha.run pos pins s σ H _ I (bind_at bE R e k (P := fun vs H1 => tA X.K W q σ H1 fun zs H2 => Post vs zs H2) fun vs H1 ρ1 Hf1 s1 ds t1 r1 R1 e1 k1 => ?_)) fun us s1 ⟨vs, H1, I1, rv, qq⟩ => ?_) hpl he
  · refine bind_at bE R1 e1 k1 fun zs H2 ρ2 Hf2 s2 ws t2 r2 R2 e2 k2 => ?_
    obtain ⟨⟨hn, hw⟩, e2⟩ := ite_some e2
    refine ⟨(DqAll.len r1).trans hn, (DqAll.len r2).trans hw, spO_M R2.ok ((DqAll.up t2.up r1).app r2) ?_ e2 k2⟩
    rw [List.length_append, hn, hw]
  · refine thn (hkw.run pos pins s1 σ H1 _ I1 qq) fun ws s2 ⟨zs, H2, I2, rz, l1, l2, q2⟩ => ⟨I2.kIn, ?_⟩
    rw [hks]
    exact run_mkK hM hF (hr.mono hjk) (L2N.passAt tk σ) I2 rv rz l1 l2 q2
def putD (m : Str) (d : D) : List (Str × D) → List (Str × D)
  | [] => [(m, d)]
  | (x, y) :: r => if x = m then (x, d) :: r else (x, y) :: putD m d r
theorem fs_put {K : PySem.W.Frag} {Hf : Hp} {ρ : List Addr} {m : Str} {v : V} {d : D} (h : Dq K Hf ρ v d) : ∀ {vs : List (Str × V)} {fs : List (Str × D)}, FsOk K Hf ρ vs fs → FsOk K Hf ρ (putF m v vs) (putD m d fs)
  | [], _, q => by cases q; exact .cons ⟨rfl, h⟩ .nil
  | (n, w) :: vs, _, q => by
    cases q with
    | cons q t =>
      rename_i z fs
      obtain ⟨n', d'⟩ := z
      obtain ⟨h1, h2⟩ := q
      cases (show n = n' from h1)
      unfold putF putD
      by_cases e : n = m
      · rw [if_pos e, if_pos e]
        exact .cons ⟨rfl, h⟩ t
      · rw [if_neg e, if_neg e]
        exact .cons ⟨rfl, h2⟩ (fs_put h t)
def setFld (cs : List Str) (m : Str) (d y : D) (st : Stor) : Option Stor := match d with
  | .obj n => match st[n]? with
    | some (.ins c fs) => if c ∈ cs ∧ fs.length < 1000 then some (st.set n (.ins c (putD m y fs))) else none
    | _ => none
  | _ => none
theorem setFld_some {K : PySem.W.Frag} {Z : Zt} {ρ : List Addr} {Hf H : Hp} {env : En} {st st' : Stor} {σ : L2.St} {cs : List Str} {m : Str} {v w : V} {d y : D} (R : Rel K Z ρ Hf H env st σ) (h : Dq K Hf ρ v d) (hy : Dq K Hf ρ w y) (e : setFld cs m d y st = some st') :
    ∃ a c dx vs n fs, v = .ref a ∧ d = .obj n ∧ st[n]? = some (.ins c fs) ∧ c ∈ cs ∧ H a = some (.ins (He.ga K c) dx vs) ∧ vs.length < 1000 ∧ Rel K Z ρ Hf (upd H a (.ins (He.ga K c) dx (putF m w vs))) env st' σ := by
  unfold setFld at e
  split at e
  · rename_i n
    split at e
    · rename_i c fs q
      obtain ⟨⟨hc, hl⟩, e⟩ := if_some e
      subst e
      cases h with
      | obj ha =>
        obtain ⟨dx, vs, h1, h2⟩ := R.ok.ob n _ _ ha q
        refine ⟨_, c, dx, vs, n, fs, rfl, rfl, q, hc, h1, by rw [Paired.length h2]; exact hl, ?_⟩
        exact R.step (R.ok.setStp ha) (R.ok.set ha ⟨dx, _, upd_same, fs_put hy h2⟩)
    · cases e
  · cases e
def sFld (cs : List Str) (m : Str) (v o : F D) : FS := sE v fun y => sE o fun d env st => (setFld cs m d y st).map (.next env ·)
theorem s_fld (cs : List Str) (hC : NoA X.K cs m) (hv : PE X value (tE X.K W g)) (ho : PE X o (tE X.K W f)) (hs : swapsWith value (some (.Attribute o m pos')) pos.line X.env = pure false := by rfl) :
    PS X (.Assign [.Attribute o m pos'] value pos) (tS X.K W (sFld cs m g f)) := ps_le (ps_fld ho hv hs) fun N σ H ⟨Z, ρ, Hf, env, st, o, R, hf, k⟩ => by
  refine bindS R hf k fun w H1 ρ1 Hf1 s1 y t1 r1 S1 R1 e1 k1 => ?_
  refine bindS R1 e1 k1 fun v H2 ρ2 Hf2 s2 d t2 r2 S2 R2 e2 k2 => ?_
  obtain ⟨st', e3, rfl⟩ := map_ok e2
  obtain ⟨a, c, dx, vs, n, fs, rfl, rfl, _, hc, h1, h2, R3⟩ := setFld_some R2 r2 (Dq.up t2.up r1) e3
  exact ⟨a, _, dx, vs, rfl, h1, (hC c hc).1, (hC c hc).2, h2, k2 σ _ ρ2 Hf2 .refl R3⟩
def sFldAug (cs : List Str) (m : Str) (g : Int → Int → Int) (o v : F D) : FS := sE o fun d env st => match fld cs m d st with
  | some (.py (.int a)) => sE v (fun y env s2 => match y with
    | .py (.int b) => if clsOf d st = clsOf d s2 then (setFld cs m d (.py (.int (g a b))) s2).map (.next env ·) else none
    | _ => none) env st
  | _ => none
theorem s_fldAug (cs : List Str) {op : Operator} {gi : Int → Int → Int} {rd : V → V → Hp → VK → Prop} (hC : NoA X.K cs m) (ho : PE X o (tE X.K W f)) (hv : PE X value (tE X.K W g)) (hop : InOp X op rd) (hrd : rd = fun x y H Q => ∃ i j, x = .int i ∧ y = .int j ∧ Q (.int (gi i j)) H := by rfl) :
    PS X (.AugAssign (.Attribute o m tpos) op value pos) (tS X.K W (sFldAug cs m gi f g)) := ps_le (ps_fldaug ho hv hop) fun N σ H ⟨Z, ρ, Hf, env, st, o, R, hf, k⟩ => by
  subst hrd
  refine bindS R hf k fun v H1 ρ1 Hf1 s1 d t1 r1 S1 R1 e1 k1 => ?_
  split at e1
  · rename_i ia hia
    obtain ⟨a, c, dx, vs, w, rfl, hc, h1, h2, h3, h4⟩ := fld_some R1.ok r1 hia
    cases h3.dp.int_eq
    refine ⟨a, _, dx, vs, _, rfl, h1, (hC c hc).1, (hC c hc).2, h2, ?_⟩
    refine bindS R1 e1 k1 fun y H2 ρ2 Hf2 s2 dy t2 r2 S2 R2 e2 k2 => ?_
    split at e2
    · rename_i ib
      obtain ⟨hcl, e2⟩ := ite_some e2
      cases (Dq.dp r2).int_eq
      refine ⟨ia, ib, rfl, rfl, ?_⟩
      obtain ⟨st', e3, rfl⟩ := map_ok e2
      obtain ⟨a', c', dx', vs', n, fs, ea, rfl, hst, hc', g1, g2, R3⟩ := setFld_some (w := .int (gi ia ib)) R2 (Dq.up t2.up r1) (.py (.int _)) e3
      cases ea
      have hcc : c' = c := by
        rw [h4, show clsOf (.obj n) s2 = some c' by simp [clsOf, hst]] at hcl
        exact (Option.some.inj hcl).symm
      subst hcc
      exact ⟨dx', vs', g1, g2, k2 σ _ ρ2 Hf2 .refl R3⟩
    · cases e2
  · cases e1
def sRaise (c : Str) : FS := fun env st => some (.exc c env st)
structure Err (K : PySem.W.Frag) (mg : Str → Option Value) (c : Str) : Prop where
  g : mg c = some (.ref (He.ga K c))
  x : PySem.W.excIn K (He.ga K c) He.veBase "ValueError.__new__" = true ∧ PySem.W.keepIn K (.ref (He.ga K c)) = true ∧ PySem.W.subIn K (.ref (He.ga K c)) (.type "BaseException") = some true ∧ PySem.W.typeIn K (.ref (He.ga K c)) = some (.type "type")
theorem s_raise {c mm : Str} {jj : Nat} {p2 cpos : Pos} (E : Err X.K X.mg c) (hc : X.calm = true) (tk : L2N.Takes X W) (hg : Gl X c := by rfl) (hdb : (c == ("__debug__" : Str)) = false := by decide) :
    PS X (.Raise (some (.Call (.Name c p) [.Constant (.str mm) jj p2] [] cpos)) none pos) (tS X.K W (sRaise c)) :=
  ps_le (L2N.ps_raise hc tk (L2N.pmk_own PySem.F.excBase_ValueError E.x.1 E.g E.x.2.1 (raises_own E.x.2.2.1 E.x.2.2.2) hg hdb)) fun N σ H ⟨Z, ρ, Hf, env, st, o, R, hf, k⟩ => by
    cases hf
    exact k σ H ρ Hf .refl R
/-- what is not reached -/
def sNo : FS := fun _ _ => none
end
end Ob

namespace Ob
open PySem PySem.Spec PyProof.Rows L2 Fi
structure IsC (K : PySem.W.Frag) (mg : Str → Option Value) (C : Str) (T : List (Str × Bool)) : Prop where
  g : mg C = some (.ref (He.ga K C))
  own : ∀ p ∈ T, Cls K (He.ga K p.1) ∧ PySem.W.findIn K (.ref (He.ga K p.1)) "__class__" = some (some (.builtin "object.__class__")) ∧ PySem.W.mroIn K (He.ga K p.1) (.type "object") = some true ∧ PySem.W.kitOne K (.ref (He.ga K p.1)) (.ref (He.ga K C)) = some p.2
  cg : PySem.W.specialIn K (.builtin "object.__class__") "__get__" = some (some (.builtin "getset_descriptor.__get__"))
  tk : PySem.W.takesIn K (.builtin "object.__class__") = some true
  ty : ∀ t ∈ tys, PySem.W.kitOne K (.type t) (.ref (He.ga K C)) = some false
def isC (T : List (Str × Bool)) : D → Stor → Option Bool := fun d st => match d with
  | .py p => if tyD p ∈ tys then some false else none
  | .tup _ => some false
  | .lst _ => some false
  | .obj n => match st[n]? with
    | some (.ins c _) => T.lookup c
    | some (.lst _) => some false
    | _ => none
  | .cls _ => none
def eIsC (T : List (Str × Bool)) (f : F D) : F D := bnd f fun d _ st => (isC T d st).map fun b => .ok (.py (.bool b)) st
theorem tyX_L {K : PySem.W.Frag} {H : Hp} {a : Addr} {xs : List V} (hs : SqL K H a xs) : TyX K H (.ref a) (.type "list") := by
  rcases hs with h | ⟨o, its, n, hk, hc, _⟩
  · rcases h with h | ⟨o, h⟩
    · exact .base (.lst h)
    · exact .base (.frz h)
  · exact .kList hk hc
theorem tyX_T {K : PySem.W.Frag} {H : Hp} {a : Addr} {xs : List V} (hs : SqT K H a xs) : TyX K H (.ref a) (.type "tuple") := by
  rcases hs with h | ⟨o, its, n, hk, hc, _⟩
  · rcases h with h | ⟨o, h⟩
    · exact .base (.tup h)
    · exact .fTuple h
  · exact .kTuple hk hc
theorem isC_ok {K : PySem.W.Frag} {mg : Str → Option Value} {C : Str} {T : List (Str × Bool)} {ρ : List Addr} {Hf H : Hp} {st : Stor} {v : V} {d : D} {b : Bool} (c : IsC K mg C T) (S : StOk K ρ Hf H st) (h : Dq K Hf ρ v d) (e : isC T d st = some b) :
    ∃ t, TyX K H v t ∧ PySem.W.kitOne K t (.ref (He.ga K C)) = some b := by
  cases h with
  | py h =>
    obtain ⟨h1, h2⟩ := if_some (show (if tyD _ ∈ tys then some false else none) = some b from e)
    subst h2
    exact ⟨_, tyX_of (Dp_up S.i h), c.ty _ h1⟩
  | tup h t =>
    cases e
    exact ⟨_, tyX_T (sqT_up S.i h), c.ty _ (by decide)⟩
  | lst h t =>
    cases e
    exact ⟨_, tyX_L (S.i.seq h), c.ty _ (by decide)⟩
  | @obj a n ha =>
    have e' : (match st[n]? with
      | some (.ins c _) => T.lookup c
      | some (.lst _) => some false
      | _ => none) = some b := e
    cases q : st[n]? with
    | none => rw [q] at e'; cases e'
    | some o =>
      rw [q] at e'
      cases o with
      | tab q => cases e'
      | dct q => cases e'
      | lst l =>
        cases e'
        obtain ⟨vs, h1, _⟩ := S.ob n _ _ ha q
        exact ⟨_, .base (.lst h1), c.ty _ (by decide)⟩
      | ins cc fs =>
        obtain ⟨dx, vs, h1, _⟩ := S.ob n _ _ ha q
        obtain ⟨a1, a2, a3, a4⟩ := c.own _ (lookup_mem e')
        exact ⟨_, .base (.ins h1 a1 a2 c.cg c.tk a3), a4⟩
  | cls => cases e
section
variable {X : Cx} {W : WX} {j k n : Nat} {x m : Str} {p p2 pos apos : Pos} {e o : Expr} {es : List Expr} {f : F D}
theorem x_isC {C : Str} {T : List (Str × Bool)} (c : IsC X.K X.mg C T) (hg : Gl X "isinstance") (hm : X.mg "isinstance" = none) (he : PE X e (tE X.K W f)) (hg2 : Gl X C := by rfl) (hdb2 : (C == ("__debug__" : Str)) = false := by decide)
    (hs : starEach [e, .Name C p2] X.env = (false, eval e X.env) :: starEach [.Name C p2] X.env := by rfl) (hs2 : starEach [.Name C p2] X.env = (false, eval (.Name C p2) X.env) :: starEach [] X.env := by rfl) (hpl : (backTo pos (starEach [.Name C p2] X.env)).any (·.1) = false := by rfl) :
    PE X (.Call (.Name "isinstance" p) [e, .Name C p2] [] pos) (tE X.K W (eIsC T f)) := by
  have ht : PE X (.Name C p2) (tC (.ref (He.ga X.K C))) := ⟨fun _ _ _ H _ I h => ld_glob I hg2 c.g ⟨.ref _, H, I, rfl, h⟩ hdb2⟩
  refine pe_le (pe_callB call_isi hg hm boot_isinstance (pa_cons he (pa_cons ht pa_nil hs2) hs) (by decide) (by decide) hs hpl) fun σ H Q ⟨Z, ρ, Hf, env, st, o, R, e, k⟩ => ?_
  refine bind_at bE R e k fun v H1 ρ1 Hf1 s1 d t1 r1 R1 e1 k1 => ?_
  obtain ⟨b, e2, rfl⟩ := map_ok e1
  obtain ⟨t, h1, h2⟩ := isC_ok c R1.ok r1 e2
  exact ⟨v, _, t, _, b, rfl, .own _, h1, h2, k1.now R1 (.py (.bl b))⟩
structure ClsC (K : PySem.W.Frag) (mg : Str → Option Value) (C m : Str) (i : Int) : Prop where
  g : mg C = some (.ref (He.ga K C))
  ex : ∃ mc u, ClX.CRead K (He.ga K C) mc ∧ ClX.CVal K (He.ga K C) mc m (.int i) u
theorem x_cval {C : Str} {i : Int} (c : ClsC X.K X.mg C m i) (hg : Gl X C := by rfl) (hdb : (C == ("__debug__" : Str)) = false := by decide) (hb : attributeBase (.Name C p) m X.env (eval (.Name C p) X.env) = eval (.Name C p) X.env := by rfl) :
    PE X (.Attribute (.Name C p) m pos) (Fi.tE X.K (Fi.eC (.int i))) := by
  obtain ⟨mc, u, h1, h2⟩ := c.ex
  have ht : PE X (.Name C p) (tC (.ref (He.ga X.K C))) := ⟨fun _ _ _ H _ I h => ld_glob I hg c.g ⟨.ref _, H, I, rfl, h⟩ hdb⟩
  refine pe_le (ClX.pe_cval ht hb) fun σ H Q ⟨Z, Hf, env, d, R, hf, k⟩ => ?_
  cases hf
  exact ⟨_, mc, .int i, u, rfl, h1, h2, k _ H Hf (.refl R.st.i) (.int i)⟩
/-- C.m is a static method whose def is a function on data -/
structure Stat (P : Program) (w : World) (K : PySem.W.Frag) (mg : Str → Option Value) (base : Heap) (k : Nat) (C m : Str) (n : Nat) (G : List PyData → Option Fi.Sl) : Prop where
  g : mg C = some (.ref (He.ga K C))
  ex : ∃ (mc : Value) (p f : Addr) (rest : List Value) (fd : FuncData) (ps : List Str), ClX.CRead K (He.ga K C) mc ∧ PySem.W.findCls K (.ref (He.ga K C)) mc m = some (.get (.builtin "staticmethod.__get__") (.ref p) .none (.ref (He.ga K C))) ∧ PySem.W.recIn K p "staticmethod" = some (.ref f :: rest) ∧
    FnOk P w K mg base CX0 k f fd ps (spD K n G) ∧ PySem.W.keepIn K (.ref f) = true ∧ Binds K fd ps []
theorem stat_get {mc : Value} {C p f : Addr} {rest : List Value} {pins : List (Addr × Obj)} {σ : L2.St} {H : Hp} {s : Shared} {pl : Sem Bool} {A : Around} {E : Value → Shared → Prop} {Q : Value × List Value → Shared → Prop} (I : Inv X pins σ H s) (r : ClX.CRead X.K C mc)
    (e : PySem.W.findCls X.K (.ref C) mc m = some (.get (.builtin "staticmethod.__get__") (.ref p) .none (.ref C))) (hp : PySem.W.recIn X.K p "staticmethod" = some (.ref f :: rest)) (h : ∀ s', Inv X pins σ H s' → Q (.ref f, []) s') : wpAny (model X.prog X.w) A (getMethod (.ref C) m pl) Q E s :=
  PySem.W.method_cls I.kIn r.ga (PySem.W.cls_bind I.kIn r.rd e (wpAny_call (PySem.W.sm_get (s := { s with toks := s.toks + 1 }) I.kIn hp (PySem.W.handed_on rfl (h _ (I.tok _))))))
theorem x_stat {C : Str} {G : List PyData → Option Fi.Sl} {r : FL} {pl : Sem Bool} (c : Stat X.prog X.w X.K X.mg X.base j C m (es.length + 1) G) (hr : Room k X.A) (ha : PA X (e :: es) (Fi.tA X.K r)) (hln : ∀ env ds, r env = some ds → ds.length = es.length + 1) (hg : Gl X C := by rfl) (hjk : j ≤ k := by decide) (hdb : (C == ("__debug__" : Str)) = false := by decide)
    (hst : starEach (e :: es) X.env = (false, eval e X.env) :: starEach es X.env := by rfl) (hpl : (backTo pos (starEach es X.env)).any (·.1) = false := by rfl)
    (ht : eval (.Call (.Attribute (.Name C p) m apos) (e :: es) [] pos) X.env = (do
      let ov ← eval (.Name C p) X.env
      standAt apos.atName
      let (f, first) ← holding [ov] (getMethod ov m pl)
      callWith pos f first (backTo pos (starEach (e :: es) X.env)) (backToKw pos (keywordEach [] X.env))) := by rfl) :
    PE X (.Call (.Attribute (.Name C p) m apos) (e :: es) [] pos) (Fi.tE X.K (eCallF G r)) := by
  obtain ⟨mc, pp, f, rest, fd, ps, h1, h2, h3, h4, h5, h6⟩ := c.ex
  refine ⟨fun pins s σ H Q I ⟨Z, Hf, env, d, R, hf, k⟩ => ?_⟩
  have hn : PE X (.Name C p) (tC (.ref (He.ga X.K C))) := ⟨fun _ _ _ H _ I h => ld_glob I hg c.g ⟨.ref _, H, I, rfl, h⟩ hdb⟩
  refine PySem.W.methodCall_KW (pl := pl) (thn (hn.run pins s σ H (fun x H1 => x = .ref (He.ga X.K C) ∧ H1 = H) I ⟨rfl, rfl⟩) fun u s1 ⟨x, H1, I1, rx, ex, eH⟩ => ?_) ht
  subst ex eH
  obtain rfl : u = Value.ref (He.ga X.K C) := rx
  refine stat_get I1 h1 h2 h3 fun s2 I2 => ?_
  obtain ⟨ds, hr1, hf⟩ := Option_bind_some hf
  have hq : Fi.tA X.K r σ H1 (fun vs H2 => spD X.K (es.length + 1) G (vs ++ []) H2 Q (fun _ _ _ => False)) := by
    refine ⟨Z, Hf, env, ds, R, hr1, fun vs H2 Hf2 s2 d2 => ?_⟩
    show spD X.K (es.length + 1) G (vs ++ []) H2 Q (fun _ _ _ => False)
    rw [List.append_nil]
    split at hf
    · rename_i dd q
      cases hf
      exact ⟨d2.len.trans (hln env ds hr1), Hf2, ds, _, s2.i, d2, q, fun v H' Hf' s3 d3 => k v H' Hf' (s2.trans s3) d3⟩
    · rename_i l q
      cases hf
      refine ⟨d2.len.trans (hln env ds hr1), Hf2, ds, _, s2.i, d2, q, fun p vs H' Hf' s3 n1 n2 n3 d3 => ?_⟩
      exact k _ H' (upd Hf' p (.lst vs)) (s2.trans (s3.show n1 n2 n3)) (.lst (SqL.of upd_same) (DpAll_up (same_new n2) d3))
    · cases hf
  refine PySem.W.callWith_K (first := []) (h₀ := X.base) I.ok.mod.kin h5 (thn (ha.run pos pins s2 σ H1 _ I2 hq) fun us s3 ⟨vs, H2, I3, rv, q2⟩ => ⟨I3.kIn, ?_⟩) hst hpl
  exact run_fn h4 (hr.mono hjk) h6 .nil (fun _ _ _ _ _ _ _ z => False.elim z) I3 rv q2
end
end Ob

namespace Ob
open PySem PySem.Spec PyProof.Rows L2 Fi
abbrev wpC {α : Type} (X : Cx) (c : Code) (t : Sem α) (Q : α → Shared → Prop) (s : Shared) : Prop := _root_.PySem.wpAt (model X.prog X.w) X.A c t Q X.xe s
structure PEA (X : Cx) (c : Code) (e : Expr) (t : TE) : Prop where
  run : ∀ (pins : List (Addr × Obj)) (s : Shared) (σ : L2.St) (H : Hp) (Q : VK), Inv X pins σ H s → t σ H Q → wpC X c (eval e X.env) (EP X pins σ Q) s
structure PAA (X : Cx) (c : Code) (es : List Expr) (t : TA) : Prop where
  run : ∀ (pos : Pos) (pins : List (Addr × Obj)) (s : Shared) (σ : L2.St) (H : Hp) (Q : List V → Hp → Prop), Inv X pins σ H s → t σ H Q → wpC X c (spliced (backTo pos (starEach es X.env))) (AP X pins σ Q) s
structure PSA (X : Cx) (c : Code) (st : Stmt) (t : TS) : Prop where
  run : ∀ (pins : List (Addr × Obj)) (s : Shared) (σ : L2.St) (H : Hp) (D : Ends), Inv X pins σ H s → t D σ H → wpC X c (exec st X.env) (SP X pins D) s
structure PSsA (X : Cx) (c : Code) (st : List Stmt) (t : TS) : Prop where
  run : ∀ (pins : List (Addr × Obj)) (s : Shared) (σ : L2.St) (H : Hp) (D : Ends), Inv X pins σ H s → t D σ H → wpC X c (execs st X.env) (SP X pins D) s
section
variable {X : Cx} {c : Code} {W : WX} {e a b : Expr} {es : List Expr} {pos apos : Pos} {st : Stmt} {rest : List Stmt} {t u : TS} {te ta tb : TE} {tq : TA}
theorem thA {α : Type} {m : Sem α} {Q Q' : α → Shared → Prop} {s : Shared} (h : wpC X c m Q s) (hQ : ∀ a s, Q a s → Q' a s) : wpC X c m Q' s := _root_.PySem.wpAt_mono h hQ fun _ _ x => x
theorem ofAny {α : Type} {m : Sem α} {Q : α → Shared → Prop} {s : Shared} (h : wpAny (model X.prog X.w) X.A m Q X.xe s) : wpC X c m Q s := _root_.PySem.wpAt_of_wpAny h
theorem ea_of (h : PE X e te) : PEA X c e te := ⟨fun pins s σ H Q I q => ofAny (h.run pins s σ H Q I q)⟩
theorem aa_of (h : PA X es tq) : PAA X c es tq := ⟨fun pos pins s σ H Q I q => ofAny (h.run pos pins s σ H Q I q)⟩
theorem sa_of (h : PS X st t) : PSA X c st t := ⟨fun pins s σ H D I q => ofAny (h.run pins s σ H D I q)⟩
theorem ssa_of (h : PSs X rest t) : PSsA X c rest t := ⟨fun pins s σ H D I q => ofAny (h.run pins s σ H D I q)⟩
theorem ea_le {t' : TE} (h : PEA X c e te) (hm : ∀ σ H Q, t' σ H Q → te σ H Q) : PEA X c e t' := ⟨fun pins s σ H Q I q => h.run pins s σ H Q I (hm σ H Q q)⟩
theorem aa_le {t' : TA} (h : PAA X c es tq) (hm : ∀ σ H Q, t' σ H Q → tq σ H Q) : PAA X c es t' := ⟨fun pos pins s σ H Q I q => h.run pos pins s σ H Q I (hm σ H Q q)⟩
theorem sa_le {t' : TS} (h : PSA X c st t) (hm : ∀ D σ H, t' D σ H → t D σ H) : PSA X c st t' := ⟨fun pins s σ H D I q => h.run pins s σ H D I (hm D σ H q)⟩
theorem ssa_le {t' : TS} (h : PSsA X c rest t) (hm : ∀ D σ H, t' D σ H → t D σ H) : PSsA X c rest t' := ⟨fun pins s σ H D I q => h.run pins s σ H D I (hm D σ H q)⟩
theorem ssa_cons (h1 : PSA X c st t) (h2 : PSsA X c rest u) : PSsA X c (st :: rest) (L2.tSeq t u) := by
  refine ⟨fun pins s σ H D I h => ?_⟩
  refine PySem.ks_wpAt_execs_cons (thA (h1.run pins s σ H { D with nx := u D } I h) fun f s1 q => ?_)
  cases f with
  | next =>
    obtain ⟨σ', H', I', q⟩ := q
    exact h2.run pins s1 σ' H' D I' q
  | ret v => exact q
  | brk => exact q
  | cont => exact q
theorem ssa_one (h1 : PSA X c st t) : PSsA X c [st] t := by
  have h := ssa_cons h1 (ssa_of (c := c) (pss_nil (X := X)))
  exact ⟨fun pins s σ H D I q => h.run pins s σ H D I q⟩
theorem sa_ret (he : PEA X c e te) : PSA X c (.Return (some e) pos) (L2.tRet te) := by
  refine ⟨fun pins s σ H D I h => ?_⟩
  exact PySem.ks_wpAt_Return_some (thA (he.run pins s σ H _ I h) fun v s1 ⟨x, H1, I1, r1, q1⟩ => ⟨x, σ, H1, I1, r1, q1⟩)
theorem sa_expr (he : PEA X c e te) (hi : interactive X.env = false := by rfl) (hs : swapsWith e none pos.line X.env = pure false := by rfl) : PSA X c (.Expr e pos) (fun D σ H => te σ H fun _ H1 => D.nx σ H1) := by
  refine ⟨fun pins s σ H D I h => ?_⟩
  exact PySem.ks_wpAt_Expr_any (thA (he.run pins s σ H _ I h) fun v s1 ⟨x, H1, I1, r1, q1⟩ => ⟨σ, H1, I1, q1⟩) hi hs
theorem sa_set {i : Nat} {x : Str} {pos' : Pos} (hN : X.N.Nodup) (hi : X.N[i]? = some x) (hx : Loc X.env.scope x) (he : PEA X c e te) (hs : swapsWith e (some (.Name x pos')) pos.line X.env = pure false := by rfl)
    (hf : X.fn x = true ∨ X.env.scope.names.lookup x = some .local := by first | exact .inl rfl | exact .inr rfl | assumption) : PSA X c (.Assign [.Name x pos'] e pos) (fun D σ H => te σ H fun v H1 => D.nx (σ.set i (some v)) H1) := by
  refine ⟨fun pins s σ H D I h => ?_⟩
  exact PySem.ks_wpAt_Assign_Name (thA (he.run pins s σ H _ I h) fun v s1 ⟨x, H1, I1, r1, q1⟩ => store_ok I1 hN hi hx r1 (fun s2 I2 => ⟨_, H1, I2, q1⟩) hf) hs
theorem ea_bin {op : Operator} {r : R2} (ho : OpR X (binaryOp op) r) (ha : PEA X c a ta) (hb : PEA X c b tb) : PEA X c (.BinOp a op b pos) (tOp r ta tb) := by
  refine ⟨fun pins s σ H Q I h => ?_⟩
  refine PySem.ks_wpAt_BinOp2 (thA (ha.run pins s σ H _ I h) fun v s1 ⟨x, H1, I1, r1, q1⟩ => thA (hb.run pins s1 σ H1 _ I1 q1) fun u s2 ⟨y, H2, I2, r2, q2⟩ => ?_)
  exact ho pins s2 σ H2 x y v u Q I2 r1 r2 q2
theorem ea_if {cc : Expr} {tc : TT} (hc : PT X cc tc) (ha : PEA X c a ta) (hb : PEA X c b tb) : PEA X c (.IfExp cc a b pos) (L2.tIf tc ta tb) := by
  refine ⟨fun pins s σ H Q I h => ?_⟩
  rw [arm_eval_IfExp]
  refine _root_.PySem.wpAt_bind (ofAny (thn (hc.run pins s σ H _ I h) fun d s1 ⟨H1, I1, q1⟩ => ?_))
  cases d with
  | true => exact ha.run pins s1 σ H1 Q I1 q1
  | false => exact hb.run pins s1 σ H1 Q I1 q1
end
end Ob

namespace Ob
open PySem PySem.Spec PyProof.Rows L2 Fi
section
variable {X : Cx} {c : Code} {W : WX} {e a b : Expr} {es : List Expr} {pos apos : Pos} {te : TE} {tq : TA}
theorem aa_cons (he : PEA X c e te) (hr : PAA X c es tq) (hs : starEach (e :: es) X.env = (false, eval e X.env) :: starEach es X.env := by rfl) : PAA X c (e :: es) (L2.tCons te tq) := by
  refine ⟨fun pos pins s σ H Q I h => ?_⟩
  rw [hs]
  show wpC X c (spliced ((false, eval e X.env) :: backTo pos (starEach es X.env))) _ s
  rw [spliced]
  refine _root_.PySem.wpAt_bind (thA (he.run pins s σ H _ I h) fun u s1 ⟨x, H1, I1, r1, q1⟩ => ?_)
  simp only [Bool.false_eq_true, if_false]
  refine _root_.PySem.wpAt_bind (ofAny (wpAny_pure (_root_.PySem.wpAt_bind (PySem.ks_wpAt_holding (thA (hr.run pos pins s1 σ H1 _ I1 q1) fun us s2 ⟨xs, H2, I2, r2, q2⟩ => ofAny (wpAny_pure ?_))))))
  exact ⟨x :: xs, H2, I2, .cons r1 r2, q2⟩
theorem ea_callB {x : Str} {id : String} {r : List V → Hp → VK → Prop} {p : Pos} (hc : CallR X (.builtin id) r) (hg : Gl X x) (hm : X.mg x = none) (hv : bootBuiltins x = some (.builtin id)) (ha : PAA X c (e :: es) tq) (hn : x ≠ "__name__" := by decide) (hdb : (x == ("__debug__" : Str)) = false := by decide)
    (he : starEach (e :: es) X.env = (false, eval e X.env) :: starEach es X.env := by rfl) (hpl : (backTo pos (starEach es X.env)).any (·.1) = false := by rfl) : PEA X c (.Call (.Name x p) (e :: es) [] pos) (tCB r tq) := by
  refine ⟨fun pins s σ H Q I h => ?_⟩
  rw [arm_eval_Call_Name']
  refine _root_.PySem.wpAt_bind (ofAny (ld_blt I hg hm hv ?_ hn hdb))
  have hpl2 : (backTo pos (starEach (e :: es) X.env)).any (·.1) = false := by
    rw [he]
    show (false || (backTo pos (starEach es X.env)).any (·.1)) = false
    rw [hpl]
    rfl
  have hev : wpC X c (evalArgs (.builtin id) true (backTo pos (starEach (e :: es) X.env)) []) (fun a s1 => ∃ vs H1, Inv X pins σ H1 s1 ∧ Vals vs a.pos ∧ a.kw = [] ∧ r vs H1 Q) s := by
    have h1 := ha.run pos pins s σ H _ I h
    rw [he] at h1 ⊢
    unfold evalArgs
    show wpC X c (spliced ((false, eval e X.env) :: backTo pos (starEach es X.env)) >>= _) _ s
    refine _root_.PySem.wpAt_bind (thA h1 fun us s1 ⟨vs, H1, I1, r1, q1⟩ => ofAny ?_)
    refine wpAny_bind (wpAny_pure ?_)
    refine wpAny_holding ?_
    exact wpAny_bind (wpAny_pure (wpAny_bind (wpAny_pure (wpAny_pure ⟨vs, H1, I1, r1, rfl, q1⟩))))
  show wpC X c (callWith pos (.builtin id) [] (backTo pos (starEach (e :: es) X.env)) []) _ _
  unfold callWith
  refine _root_.PySem.wpAt_bind (PySem.ks_wpAt_holding (thA hev fun a s1 ⟨vs, H1, I1, r1, hk, q1⟩ => ofAny ?_))
  refine wpAny_bind (wpAny_standAt ?_)
  simp only [hpl2, List.any_nil, Bool.or_false]
  refine wpAny_bind (wpAny_pure ?_)
  rw [hk]
  exact wpAny_bind (wpAny_mono (hc pins s1 σ H1 vs a.pos Q I1 r1 q1) (fun v s2 hv => wpAny_bind (wpAny_holding (wpAny_point (wpAny_pure hv)))) fun _ _ x => x)
end
/-- the def that runs closes over the class at D; its first parameter is slot 0 -/
structure SupX (X : Cx) (Dc : Addr) : Prop where
  ks : X.env.kindOf "super" = some .globalImplicit
  kc : X.env.kindOf "__class__" = some .free
  fn : ∃ (f : Addr) (oc : Value) (od : Option Addr) (fd : FuncData) (osl : Array (Option Value)) (ar : Arg), X.env.func = some f ∧ X.K.lookup f = some ⟨oc, od, .func fd, osl⟩ ∧ (fd.params.posonlyargs ++ fd.params.args).head? = some ar ∧ X.N[0]? = some ar.arg ∧ X.env.scope.names.lookup ar.arg = some .local
  cd : ∃ (cda : Addr) (ccl : Value) (cdd : Option Addr) (vs : Array Value) (ccs : Array (Option Value)) (file : Str) (tf : Tok), X.env.code = .ref cda ∧ X.K.lookup cda = some ⟨ccl, cdd, .fields vs, ccs⟩ ∧ vs[2]? = some (.str file tf) ∧ ((X.prog.main.file : Str) == file) = true
  top : (X.prog.main.scope.names.lookup ("super" : Str)).isSome = false
  cell : ∃ (cc : Addr) (cl : Value) (cld : Option Addr) (csl : Array (Option Value)), X.env.cells.lookup ("__class__" : Str) = some cc ∧ X.K.lookup cc = some ⟨cl, cld, .cell (some (.ref Dc)), csl⟩
  cls : ∃ cdD, PySem.W.clsIn X.K Dc = some cdD
  sup : X.mg "super" = none
  opq : PySem.W.nsIn X.K cStatics "thirdparty.any" = some none
section
variable {X : Cx} {body : List Stmt} {pins : List (Addr × Obj)} {σ : L2.St} {H : Hp} {s : Shared} {Dc C dx x : Addr} {vs : List (Str × V)} {m : Str} {p0 p1 : Pos} {whole : Sem Value}
/-- super(), as the base of an attribute: a record, pinned -/
theorem sup_base {Q : Value → Shared → Prop} (S : SupX X Dc) (I : Inv X pins σ H s) (h0 : σ[0]? = some (some (.ref x))) (hx : H x = some (.ins C dx vs)) (hsub : PySem.W.mroIn X.K C (.ref Dc) = some true) (hat : (m == ("__class__" : Str)) = false)
    (h : ∀ so s1, Inv X ((so, PySem.W.ks_superObj Dc x C) :: pins) σ H s1 → Q (.ref so) s1) : wpC X (.func body X.env) (attributeBase (.Call (.Name "super" p0) [] [] p1) m X.env whole) Q s := by
  obtain ⟨f, oc, od, fd, osl, ar, f1, f2, f3, f4, f5⟩ := S.fn
  obtain ⟨cda, ccl, cdd, cvs, ccs, file, tf, c1, c2, c3, c4⟩ := S.cd
  obtain ⟨cc, cl, cld, csl, e1, e2⟩ := S.cell
  obtain ⟨cdD, hD⟩ := S.cls
  obtain ⟨mA, O, _, _, _, _⟩ := ins_get I.hok hx
  obtain ⟨od2, J, _⟩ := O.look
  obtain ⟨oD, hD1, hD2⟩ : ∃ oD, s.heap.get? Dc = some oD ∧ oD.data = .cls cdD := by
    unfold PySem.W.clsIn at hD
    split at hD
    · rename_i q
      cases hD
      exact ⟨_, I.kIn _ _ q, rfl⟩
    · cases hD
  obtain ⟨mm, hn, hl⟩ := I.loc
  obtain ⟨u, ru, lk⟩ := hl 0 ar.arg (.ref x) f4 h0 (.inl f5)
  cases (show u = Value.ref x from ru)
  have hv : mm ar.arg = some (.ref x) := by
    rcases lk with ⟨_, q⟩ | ⟨q, _⟩
    · exact q
    · rcases q with q | q
      · rw [show X.env.kindOf ar.arg = some .local from f5] at q; cases q
      · rw [show X.env.kindOf ar.arg = some .local from f5] at q; cases q
  refine PySem.ks_wpAt_super_base S.ks S.kc hat f1 (I.kIn _ _ f2) rfl f3 c1 (I.kIn _ _ c2) rfl c3 c4 S.top ?_
  have hb := I.ok.mod.blt
  obtain ⟨mb, b1, b2⟩ := hb
  refine PySem.W.ks_loadName_global I.ok.kind S.ks (PySem.Calls.loadGlobal_builtin (by rw [I.ok.glob]; exact I.ok.mod.glob.keeps I.bk) S.sup (by rw [I.ok.blt]; exact b1.keeps I.bk) ((b2 _ (by decide)).trans (show bootBuiltins "super" = some (.type "super") by first | decide +kernel | rfl)) ⟨rfl, ?_⟩)
  refine wpAny_loadName_free I.ok.kind S.kc e1 ⟨_, I.kIn _ _ e2, rfl⟩ ?_
  refine wpAny_loadName_local I.ok.kind f5 hn hv ?_
  refine PySem.ks_wpAny_isType_cls hD1 hD2 ⟨rfl, ?_⟩
  obtain ⟨hh, g, d, t, os⟩ := s
  refine PySem.ks_wpAny_call_super hD1 hD2 J.at_ J.cls (fun c e => ?_) (PySem.W.looks_mroIn I.kIn hsub) (fun h' e k => ?_)
  · have := J.no
    unfold PySem.W.notCls at this
    rw [e] at this
    exact Bool.noConfusion this
  · exact h _ _ (ClX.pin_new I k (Nat.le_refl _) e (fun v z => nomatch z))
/-- .. its method: bound, pinned in its place -/
theorem sup_meth {A : Around} {E : Value → Shared → Prop} {so f2 : Addr} {pl : Sem Bool} {Q : Value × List Value → Shared → Prop} (I : Inv X ((so, PySem.W.ks_superObj Dc x C) :: pins) σ H s) (hx : H x = some (.ins C dx vs)) (ho : PySem.W.nsIn X.K cStatics "thirdparty.any" = some none)
    (hm : PySem.W.ks_superIn X.K C Dc m = some (some (.ref f2))) (ht : PySem.W.typeIn X.K (.ref f2) = some (.type "function")) (hn : (m == ("__class__" : Str)) = false)
    (h : ∀ q s1, X.base.get? q = none → Inv X ((q, PySem.W.methodObj (.ref f2) (.ref x)) :: pins) σ H s1 → Q (.ref q, []) s1) : wpAny (model X.prog X.w) A (getMethod (.ref so) m pl) Q E s := by
  obtain ⟨mA, O, _, _, _, _⟩ := ins_get I.hok hx
  obtain ⟨od2, J, _⟩ := O.look
  have hso := ClX.pin_at I
  cases hc : PySem.W.clsIn X.K C with
  | none => unfold PySem.W.ks_superIn at hm; rw [hc] at hm; cases hm
  | some cd =>
    unfold PySem.W.ks_superIn at hm
    rw [hc] at hm
    obtain ⟨of, hof, hofc⟩ : ∃ of, s.heap.get? f2 = some of ∧ of.cls = .type "function" := by
      have ht' : (X.K.lookup f2).map (·.cls) = some (.type "function") := ht
      cases z : X.K.lookup f2 with
      | none => rw [z] at ht'; cases ht'
      | some of => rw [z] at ht'; exact ⟨of, I.kIn _ _ z, Option.some.inj ht'⟩
    have ne := PySem.W.ks_ne I.kIn J hc
    have bn := ClX.base_none (ClX.unpin I) (Nat.le_refl _)
    have I2 := ClX.pin_new (h' := s.heap.push { cls := .type "method", data := .fields #[.ref f2, .ref x] }) (o := PySem.W.methodObj (.ref f2) (.ref x)) (t' := s.toks + 1) (ClX.unpin I) (fun b u e => Heap.get?_push_of_some _ e) (Nat.le_refl _) (Heap.get?_push_at rfl rfl) (fun v z => nomatch z)
    have X2 := I.kIn
    obtain ⟨hh, g, d, t, os⟩ := s
    refine PySem.ks_wpAny_getMethod_super hso (PySem.W.looks_opaque X2 ho) (l₀ := cd.mro) ?_ rfl X2 hm hof hofc ne hn ?_
    · exact fun A Q E s k q => wpAny_bind ((PySem.W.looks_clsIn X2 hc) A _ E s k (wpAny_pure q))
    · exact h _ _ bn I2
end
/-- what super().m is for an object of the class c -/
structure SupM (P : Program) (w : World) (K : PySem.W.Frag) (mg : Str → Option Value) (base : Heap) (k : Nat) (Dc : Addr) (m : Str) (n : Nat) (c : Str) (G : Fn) : Prop where
  sub : PySem.W.mroIn K (He.ga K c) (.ref Dc) = some true
  ex : ∃ f2, PySem.W.ks_superIn K (He.ga K c) Dc m = some (some (.ref f2)) ∧ PySem.W.typeIn K (.ref f2) = some (.type "function") ∧ PySem.W.fnIn K f2 = true ∧ Cal P w K mg base k f2 (spO K (n + 1) G)
def SupMs (P : Program) (w : World) (K : PySem.W.Frag) (mg : Str → Option Value) (base : Heap) (k : Nat) (Dc : Addr) (m : Str) (n : Nat) (T : Tab) : Prop := ∀ p ∈ T, SupM P w K mg base k Dc m n p.1 p.2
def eSup (T : Tab) (n : Nat) (r : F (List D)) : F D := fun (env : En) (st : Stor) => match env[0]? with
  | some (some (Sl.val d)) => match pickP T d st with
    | some G => bnd r (fun ds _ st => if ds.length = n then goE G (d :: ds) st else none) env st
    | none => none
  | _ => none
def eSup0 (T : Tab) : F D := fun (env : En) (st : Stor) => match env[0]? with
  | some (some (Sl.val d)) => match pickP T d st with
    | some G => goE G [d] st
    | none => none
  | _ => none
section
variable {X : Cx} {W : WX} {body : List Stmt} {Dc : Addr} {T : Tab} {m : Str} {n j k : Nat} {p0 p1 apos pos : Pos} {e : Expr} {es : List Expr} {r : F (List D)}
theorem run_met {pins : List (Addr × Obj)} {σ : L2.St} {H : Hp} {s : Shared} {q g x : Addr} {sp : Sp} {E : XK} {Q : VK} {us : List Value} {vs : List V} (F : Cal X.prog X.w X.K X.mg X.base k g sp) (hr : Room k X.A) (hx : PassesAt (L2N.CX X.prog X.w) X σ E) (I : Inv X ((q, PySem.W.methodObj (.ref g) (.ref x)) :: pins) σ H s)
    (r : Vals vs us) (h : sp (.ref x :: vs) H Q E) : wpAny (model X.prog X.w) X.A (call (.ref q) us) (EP X pins σ Q) X.xe s := by
  refine wpAny_call (PySem.W.method_call (ClX.pin_at I) (codeAny_mono (F X.A X.stack s H (.ref x :: us) (.ref x :: vs) Q E hr I.env0 (.cons rfl r) h) fun r s' hq => ?_))
  cases r with
  | error e => exact hx _ H s e s' I hq
  | ok fl =>
    cases fl with
    | ret u => exact ClX.unpinE (I.after hq)
    | next => exact False.elim hq
    | brk => exact False.elim hq
    | cont => exact False.elim hq
theorem xa_sup {pl : Sem Bool} (S : SupX X Dc) (M : SupMs X.prog X.w X.K X.mg X.base j Dc m n T) (hr : Room k X.A) (tk : L2N.Takes X W) (ha : PA X (e :: es) (tA X.K W r)) (hjk : j ≤ k := by decide) (hat : (m == ("__class__" : Str)) = false := by decide)
    (hst : starEach (e :: es) X.env = (false, eval e X.env) :: starEach es X.env := by rfl) (hpl : (backTo pos (starEach es X.env)).any (·.1) = false := by rfl)
    (he : eval (.Call (.Attribute (.Call (.Name "super" p0) [] [] p1) m apos) (e :: es) [] pos) X.env = (do
      let ov ← attributeBase (.Call (.Name "super" p0) [] [] p1) m X.env (eval (.Call (.Name "super" p0) [] [] p1) X.env)
      standAt apos.atName
      let (f, first) ← holding [ov] (getMethod ov m pl)
      callWith pos f first (backTo pos (starEach (e :: es) X.env)) []) := by rfl) :
    PEA X (.func body X.env) (.Call (.Attribute (.Call (.Name "super" p0) [] [] p1) m apos) (e :: es) [] pos) (tE X.K W (eSup T n r)) := by
  refine ⟨fun pins s σ H Q I ⟨Z, ρ, Hf, env, st, o, R, e, k⟩ => ?_⟩
  unfold eSup at e
  split at e
  · rename_i d hd
    split at e
    · rename_i G hG
      obtain ⟨v, h0, hv⟩ := R.sl 0 _ hd
      obtain ⟨a, c, dx, vs, rfl, hm, ea⟩ := pickP_some R.ok hv hG
      obtain ⟨f2, g1, g2, g3, hcal⟩ := (M _ hm).ex
      refine PySem.ks_wpAt_MethodCall (pl := pl) (sup_base S I h0 ea (M _ hm).sub hat fun so s1 I1 => ?_) he
      refine sup_meth I1 ea S.opq g1 g2 hat fun q s2 bn I2 => ?_
      refine ClX.callwith_cm I2 bn g3 (thn (ha.run pos _ s2 σ H _ I2 (bind_at bE R e k (P := fun vs H2 => spO X.K (n + 1) G (.ref a :: vs) H2 Q (WE W σ)) fun vs H2 ρ2 Hf2 s2 ds t2 r2 R2 e2 k2 => ?_)) fun us s3 ⟨vs, H2, I3, rv, q2⟩ => ⟨⟨ClX.pin_at I3, I3.kIn⟩, ?_⟩) hst hpl
      · obtain ⟨hn, e2⟩ := ite_some e2
        exact spO_E R2.ok (.cons (Dq.up t2.up hv) r2) (congrArg Nat.succ hn) e2 k2
      · exact run_met hcal (hr.mono hjk) (L2N.passAt tk σ) I3 rv q2
    · cases e
  · cases e
theorem xa_sup0 {pl : Sem Bool} (S : SupX X Dc) (M : SupMs X.prog X.w X.K X.mg X.base j Dc m 0 T) (hr : Room k X.A) (tk : L2N.Takes X W) (hjk : j ≤ k := by decide) (hat : (m == ("__class__" : Str)) = false := by decide)
    (he : eval (.Call (.Attribute (.Call (.Name "super" p0) [] [] p1) m apos) [] [] pos) X.env = (do
      let ov ← attributeBase (.Call (.Name "super" p0) [] [] p1) m X.env (eval (.Call (.Name "super" p0) [] [] p1) X.env)
      standAt apos.atName
      let (f, first) ← holding [ov] (getMethod ov m pl)
      callWith pos f first (backTo pos (starEach [] X.env)) []) := by rfl) :
    PEA X (.func body X.env) (.Call (.Attribute (.Call (.Name "super" p0) [] [] p1) m apos) [] [] pos) (tE X.K W (eSup0 T)) := by
  refine ⟨fun pins s σ H Q I ⟨Z, ρ, Hf, env, st, o, R, e, k⟩ => ?_⟩
  unfold eSup0 at e
  split at e
  · rename_i d hd
    split at e
    · rename_i G hG
      obtain ⟨v, h0, hv⟩ := R.sl 0 _ hd
      obtain ⟨a, c, dx, vs, rfl, hm, ea⟩ := pickP_some R.ok hv hG
      obtain ⟨f2, g1, g2, g3, hcal⟩ := (M _ hm).ex
      refine PySem.ks_wpAt_MethodCall (pl := pl) (sup_base S I h0 ea (M _ hm).sub hat fun so s1 I1 => ?_) he
      refine sup_meth I1 ea S.opq g1 g2 hat fun q s2 bn I2 => ?_
      refine PySem.W.callWith_M0 (K := X.K) (first := []) ⟨ClX.pin_at I2, I2.kIn⟩ g3 ?_
      exact run_met (us := []) (vs := []) hcal (hr.mono hjk) (L2N.passAt tk σ) I2 .nil (spO_E R.ok (.cons hv .nil) rfl e k)
    · cases e
  · cases e
end
end Ob

namespace Ob
open PySem PySem.Spec PyProof.Rows L2 Fi
section
variable {X : Cx} {c : Code} {W : WX} {e a b : Expr} {es : List Expr} {pos : Pos} {f g h : F D} {r : F (List D)} {p : F Bool} {s1 : Stmt} {rest : List Stmt} {u v : FS}
theorem xa_bin {op : Operator} {G : PyData → PyData → Option PyData} (ho : OpD X (binaryOp op) G) (ha : PEA X c a (tE X.K W f)) (hb : PEA X c b (tE X.K W g)) : PEA X c (.BinOp a op b pos) (tE X.K W (e2 G f g)) := ea_le (ea_bin ho ha hb) fun _ _ _ q => tOp_of q
theorem xa_if {t : Expr} (ht : PT X t (tT X.K W p)) (ha : PEA X c a (tE X.K W f)) (hb : PEA X c b (tE X.K W g)) : PEA X c (.IfExp t a b pos) (tE X.K W (eIf p f g)) := ea_le (ea_if ht ha hb) fun σ H Q ⟨Z, ρ, Hf, env, st, o, R, e, k⟩ => by
  refine bind_at bE R e k fun x H1 ρ1 Hf1 s1 dx t1 r1 R1 e1 k1 => ?_
  cases (show x = dx from r1)
  cases x with
  | true => exact iteT ⟨Z, ρ1, Hf1, env, s1, o, R1, e1, k1⟩
  | false => exact iteF ⟨Z, ρ1, Hf1, env, s1, o, R1, e1, k1⟩
theorem aa_consO (ha : PEA X c e (tE X.K W f)) (hr : PAA X c es (tA X.K W r)) (hs : starEach (e :: es) X.env = (false, eval e X.env) :: starEach es X.env := by rfl) : PAA X c (e :: es) (tA X.K W (aCons f r)) :=
  aa_le (aa_cons ha hr hs) fun σ H Q ⟨Z, ρ, Hf, env, st, o, R, e, k⟩ => by
    refine bind_at bA R e k fun x H1 ρ1 Hf1 s1 dx t1 r1 R1 e1 k1 => ?_
    refine bind_at bA R1 e1 k1 fun xs H2 ρ2 Hf2 s2 ds t2 r2 R2 e2 k2 => ?_
    obtain ⟨z, h1, rfl⟩ := lft_some e2
    cases h1
    exact k2.now R2 (.cons (Dq.up t2.up r1) r2)
theorem xa_callB {G : List PyData → Option PyData} {x : Str} {id : String} {pp : Pos} (hc : CallD X (.builtin id) G) (hg : Gl X x) (hm : X.mg x = none) (hv : bootBuiltins x = some (.builtin id)) (ha : PAA X c (e :: es) (tA X.K W r)) (hn : x ≠ "__name__" := by decide) (hdb : (x == ("__debug__" : Str)) = false := by decide)
    (he : starEach (e :: es) X.env = (false, eval e X.env) :: starEach es X.env := by rfl) (hpl : (backTo pos (starEach es X.env)).any (·.1) = false := by rfl) : PEA X c (.Call (.Name x pp) (e :: es) [] pos) (tE X.K W (eCall G r)) :=
  ea_le (ea_callB hc hg hm hv ha hn hdb he hpl) fun _ _ _ w => tCB_of w
theorem sA_ret (he : PEA X c e (tE X.K W h)) : PSA X c (.Return (some e) pos) (tS X.K W (sRet h)) := sa_le (sa_ret he) fun N σ H ⟨Z, ρ, Hf, env, st, o, R, hf, k⟩ => by
  refine bindS R hf k fun v H1 ρ1 Hf1 s1 a t1 r1 S1 R1 e1 k1 => ?_
  cases e1
  exact k1 v H1 ρ1 Hf1 R1.z S1 r1
theorem sA_drop (he : PEA X c e (tE X.K W h)) (hi : interactive X.env = false := by rfl) (hs : swapsWith e none pos.line X.env = pure false := by rfl) : PSA X c (.Expr e pos) (tS X.K W (sDrop h)) := sa_le (sa_expr he hi hs) fun N σ H ⟨Z, ρ, Hf, env, st, o, R, hf, k⟩ => by
  refine bindS R hf k fun v H1 ρ1 Hf1 s1 a t1 r1 S1 R1 e1 k1 => ?_
  cases e1
  exact k1 σ H1 ρ1 Hf1 .refl R1
theorem sA_set (i : Nat) {x : Str} {pos' : Pos} (hN : X.N.Nodup) (he : PEA X c e (tE X.K W h)) (hi : X.N[i]? = some x := by rfl) (hx : Loc X.env.scope x := by first | exact Or.inl rfl | exact Or.inr rfl) (hs : swapsWith e (some (.Name x pos')) pos.line X.env = pure false := by rfl)
    (hf : X.fn x = true ∨ X.env.scope.names.lookup x = some .local := by first | exact .inl rfl | exact .inr rfl | assumption) : PSA X c (.Assign [.Name x pos'] e pos) (tS X.K W (sSet i h)) := sa_le (sa_set hN hi hx he hs hf) fun N σ H ⟨Z, ρ, Hf, env, st, o, R, hf, k⟩ => by
  refine bindS R hf k fun v H1 ρ1 Hf1 s1 a t1 r1 S1 R1 e1 k1 => ?_
  cases e1
  exact k1 _ H1 ρ1 Hf1 .refl (R1.set i r1)
theorem ssA_cons (h1 : PSA X c s1 (tS X.K W u)) (h2 : PSsA X c rest (tS X.K W v)) : PSsA X c (s1 :: rest) (tS X.K W (sSeq u v)) := ssa_le (ssa_cons h1 h2) fun N σ H ⟨Z, ρ, Hf, env, st, o, R, hf, k⟩ => by
  unfold sSeq at hf
  cases q : u env st with
  | none =>
    rw [q] at hf
    cases hf
  | some o1 =>
    rw [q] at hf
    cases o1 with
    | next e1 s1 => exact ⟨Z, ρ, Hf, env, st, .next e1 s1, R, q, fun σ' H' ρ' Hf' u R' => ⟨Z, ρ', Hf', e1, s1, o, R', hf, k.up u⟩⟩
    | brk e1 s1 =>
      cases hf
      exact ⟨Z, ρ, Hf, env, st, _, R, q, k⟩
    | cont e1 s1 =>
      cases hf
      exact ⟨Z, ρ, Hf, env, st, _, R, q, k⟩
    | ret d s1 =>
      cases hf
      exact ⟨Z, ρ, Hf, env, st, _, R, q, k⟩
    | retL d s1 =>
      cases hf
      exact ⟨Z, ρ, Hf, env, st, _, R, q, k⟩
    | exc c e1 s1 =>
      cases hf
      exact ⟨Z, ρ, Hf, env, st, _, R, q, k⟩
end
theorem fin_takes {P : Program} {w : World} {K : PySem.W.Frag} {mg : Str → Option Value} {base : Heap} {N : List Str} {qual : Str} {scope : Scope} {f : Addr} {cdv : Value} {A : Around} {outer : List Env} {s : Shared} {H : Hp} {E : XK} :
    L2N.Takes (cxOf (L2N.CX P w) P w K mg base N qual scope f cdv A outer s H E) (fun cls d _ H => E cls d H) := L2N.takes_of rfl rfl rfl rfl
theorem fin_passes {P : Program} {w : World} {K : PySem.W.Frag} {mg : Str → Option Value} {base : Heap} {N : List Str} {qual : Str} {scope : Scope} {f : Addr} {cdv : Value} {A : Around} {outer : List Env} {s : Shared} {H : Hp} {E : XK} :
    PassesOwn (model P w) (cxOf (L2N.CX P w) P w K mg base N qual scope f cdv A outer s H E).A (cxOf (L2N.CX P w) P w K mg base N qual scope f cdv A outer s H E).env (cxOf (L2N.CX P w) P w K mg base N qual scope f cdv A outer s H E).xe := passes_of (X := cxOf (L2N.CX P w) P w K mg base N qual scope f cdv A outer s H E) rfl
/-- a def by its body -/
theorem def_ok {P : Program} {w : World} {K : PySem.W.Frag} {mg : Str → Option Value} {base : Heap} {x qual : Str} {params : Arguments} {body : List Stmt} {scope : Scope} {dvs : List V} {kws : List (Str × V)} {f : Addr} {fd : FuncData} {N ps : List Str} {b : FS} {n np k : Nat}
    (hF : FunD K x qual params body scope dvs kws f fd) (S : FnScope N ps scope) (hn : N.length = n) (hp : ps.length = np)
    (hb : ∀ (cdv : Value) (A : Around) (outer : List Env) (s : Shared) (H : Hp) (E : XK), Room k (A.deeper (envOfC qual scope s.heap.objs.size f cdv)) → L2N.Takes (cxOf (L2N.CX P w) P w K mg base N qual scope f cdv A outer s H E) (fun cls d _ H => E cls d H) →
      PSs (cxOf (L2N.CX P w) P w K mg base N qual scope f cdv A outer s H E) body (tS K (fun cls d _ H => E cls d H) b)) :
    FnOk P w K mg base (L2N.CX P w) (k + 1) f fd ps (spO K np (fnO n b)) := by
  refine hF.ok S (fun vs H Q E h => ?_) (fun cdv A outer s H vs Q E hr h => ?_)
  · rw [h.1, hp]
  · exact ⟨_, hb cdv A outer s H E hr fin_takes, body_ok (X := cxOf (L2N.CX P w) P w K mg base N qual scope f cdv A outer s H E) (sts := body) hn h⟩
structure ScS (N ps : List Str) (sc : Scope) : Prop where
  kind : sc.kind = .function
  co : sc.isCoroutine = false
  gen : sc.isGenerator = false
  nd : N.Nodup
  pre : N.take ps.length = ps
  par : ∀ x ∈ ps, sc.names.lookup x = some .local
  nocell : ∀ x ∈ sc.names, x.2 ≠ .cell
  free : ∀ x ∈ sc.names, x.2 = .free → x.1 = "__class__"
def cxS (P : Program) (w : World) (K : PySem.W.Frag) (mg : Str → Option Value) (base : Heap) (N : List Str) (qual : Str) (scope : Scope) (f : Addr) (cd : Value) (cc : Addr) (A : Around) (outer : List Env) (s : Shared) (H : Hp) (E : XK) : Cx where
  prog := P
  w := w
  K := K
  mg := mg
  base := base
  A := A.deeper (PySem.W.ksEnv qual scope s.heap.objs.size f cd cc)
  N := N
  s_0 := s
  H_0 := H
  env := PySem.W.ksEnv qual scope s.heap.objs.size f cd cc
  outer := outer
  stack := PySem.W.ksEnv qual scope s.heap.objs.size f cd cc :: outer
  ex := []
  calm := true
  fn := fun _ => false
  pn := []
  xe := fun e s' => wpAny (model P w) (A.deeper (PySem.W.ksEnv qual scope s.heap.objs.size f cd cc)) (leaving (PySem.W.ksEnv qual scope s.heap.objs.size f cd cc) e) (fun _ s'' => L2N.CX P w outer H s E e s'') (fun e' s'' => L2N.CX P w outer H s E e' s'') s'
theorem rev_lookup {ps : List Str} {us : List Value} {i : Nat} {x : Str} {u : Value} (nd : ps.Nodup) (hp : ps[i]? = some x) (hu : us[i]? = some u) : (ps.zip us).reverse.lookup x = some u := by
  have key : ∀ (l : List (Str × Value)), (∀ v', (x, v') ∈ l → v' = u) → (x, u) ∈ l → l.lookup x = some u := by
    intro l
    induction l with
    | nil => intro _ h; cases h
    | cons q r ih =>
      intro hn hm
      obtain ⟨a, b⟩ := q
      rw [List.lookup_cons]
      cases z : (x == a) with
      | true =>
        have e := beq_iff_eq.mp z
        subst e
        rw [hn b (List.mem_cons_self ..)]
      | false =>
        rcases List.mem_cons.mp hm with e | hm
        · injection e with e1 e2
          rw [e1, beq_self_eq_true] at z
          cases z
        · exact ih (fun v' h => hn v' (List.mem_cons_of_mem _ h)) hm
  have hm : (x, u) ∈ ps.zip us := by
    apply List.mem_of_getElem? (i := i)
    rw [List.getElem?_zip_eq_some]
    exact ⟨hp, hu⟩
  refine key _ (fun v' h => ?_) (List.mem_reverse.mpr hm)
  obtain ⟨j, hj, e⟩ := List.mem_iff_getElem.mp (List.mem_reverse.mp h)
  have e1 : (ps.zip us)[j]? = some (x, v') := by rw [List.getElem?_eq_getElem hj, e]
  rw [List.getElem?_zip_eq_some] at e1
  obtain ⟨i1, j1⟩ := List.getElem?_eq_some_iff.mp hp
  obtain ⟨i2, j2⟩ := List.getElem?_eq_some_iff.mp e1.1
  have := nodup_inj nd i1 i2 (j1.trans j2.symm)
  subst this
  rw [hu] at e1
  exact (Option.some.inj e1.2).symm
theorem inv_startS {P : Program} {w : World} {K : PySem.W.Frag} {mg : Str → Option Value} {base : Heap} {N ps : List Str} {qual : Str} {scope : Scope} {f cc : Addr} {cd : Value} {A : Around} {outer : List Env} {s : Shared} {H : Hp} {E : XK} {us : List Value} {vs : List V} {h0 : Heap} {tk : Nat}
    {cl : Value} {cld : Option Addr} {csl : Array (Option Value)} {v0 : Option Value} {pins : List (Addr × Obj)} (S : ScS N ps scope) (hd : A.handled = none) (e0 : Env0 P w K mg base A outer s H) (hl : vs.length = ps.length) (r : Vals vs us) (hc : K.lookup cc = some ⟨cl, cld, .cell v0, csl⟩)
    (hns : h0.Ns s.heap.objs.size (fun x => (ps.zip us).reverse.lookup x)) (hk : ∀ b o, s.heap.get? b = some o → h0.get? b = some o)
    (hp : ∀ p ∈ pins, s.heap.get? p.1 = some p.2 ∧ H p.1 = none ∧ p.1 ∉ frs outer ∧ ∀ v, p.2.data ≠ .cell v) :
    Inv (cxS P w K mg base N qual scope f cd cc A outer s H E) pins (L2.start N vs) H { s with heap := h0, toks := tk } := by
  have hpl : ps.length ≤ N.length := by have := congrArg List.length S.pre; rw [List.length_take] at this; omega
  have hkc : (cxS P w K mg base N qual scope f cd cc A outer s H E).K.In base := e0.mod.kin
  have hcb : base.get? cc = some ⟨cl, cld, .cell v0, csl⟩ := e0.mod.kin _ _ hc
  have hcell : ∀ x c, (cxS P w K mg base N qual scope f cd cc A outer s H E).env.cells.lookup x = some c → x = ("__class__" : Str) ∧ c = cc := fun x c e => by
    have e' : List.lookup x [(("__class__" : Str), cc)] = some c := e
    rw [List.lookup_cons] at e'
    cases z : (x == ("__class__" : Str)) with
    | true =>
      rw [z] at e'
      cases e'
      exact ⟨beq_iff_eq.mp z, rfl⟩
    | false =>
      rw [z] at e'
      cases e'
  refine ⟨⟨e0.mod, S.kind, rfl, rfl, Nat.le_refl _, fun y z c h1 h2 => by rw [(hcell y c h1).1, (hcell z c h2).1], fun y hy => ?_, fun y c z _ => (by cases z), fun _ => hd, Around.frames_deeper e0.frames, .inr ⟨rfl, rfl⟩, (fun b z => by cases z), e0.bs, e0.bsz, (fun b _ _ z => by cases z), (fun b z => by cases z), e0.funs, e0.frf⟩,
    rfl, e0.bare, Un.kept hk, ⟨_, hns, fun i y v h1 h2 h3 => ?_⟩, fun y c h => ?_, e0.hok.fresh (Nat.le_refl _), fun y c h => ?_, fun p hp' => ?_, e0.hok.kept hk, ?_⟩
  · have hy : scope.names.lookup y = some .cell ∨ scope.names.lookup y = some .free := hy
    rcases hy with hy | hy
    · exact absurd rfl (S.nocell _ (PySem.mem_of_lookup hy))
    · have := S.free _ (PySem.mem_of_lookup hy) rfl
      refine ⟨cc, ?_⟩
      show List.lookup y [(("__class__" : Str), cc)] = some cc
      rw [show y = "__class__" from this]
      rfl
  · have hi : i < vs.length := by
      unfold L2.start at h2
      by_cases hi : i < vs.length
      · exact hi
      · rw [List.getElem?_append_right (by simpa using hi)] at h2
        rw [List.getElem?_replicate] at h2
        split at h2 <;> cases h2
    have ha : vs[i]? = some v := by
      unfold L2.start at h2
      rw [List.getElem?_append_left (by simpa using hi), List.getElem?_map] at h2
      cases e : vs[i]? with
      | none => rw [e] at h2; cases h2
      | some a => rw [e] at h2; cases h2; rfl
    obtain ⟨u, hu, rv⟩ := r.get ha
    have hp : ps[i]? = some y := by
      rw [← S.pre, List.getElem?_take_of_lt (by omega)]; exact h1
    have ndP : ps.Nodup := by rw [← S.pre]; exact S.nd.sublist (List.take_sublist _ _)
    exact ⟨u, rv, .inl ⟨S.par y (List.mem_of_getElem? hp), rev_lookup ndP hp hu⟩⟩
  · obtain ⟨rfl, rfl⟩ := hcell y c h
    exact ⟨v0, _, hk _ _ (e0.bs _ _ hcb).1, rfl⟩
  · obtain ⟨rfl, rfl⟩ := hcell y c h
    exact (e0.bs _ _ hcb).2
  · obtain ⟨a1, a2, a3, a4⟩ := hp p hp'
    exact ⟨hk _ _ a1, a2, Nat.ne_of_lt (Heap.lt_size a1), a3, a4⟩
  · unfold L2.start
    show _ = N.length
    rw [List.length_append, List.length_map, List.length_replicate]
    omega
end Ob

namespace Ob
open PySem PySem.Spec PyProof.Rows L2 Fi
theorem cxUpN {P : Program} {w : World} : StX.CXUp (L2N.CX P w) := by
  rintro outer s H s2 H2 E e s' un kp ho ⟨a, B, H', cls, d, ea, fl, hok, ub, na, os, ag, he⟩
  refine ⟨a, B, H', cls, d, ea, fl, hok, ⟨fun b o q n hb => ub.keep b o (kp b o q) (un.free b o q n (by simp)) hb, fun b o q hb => ub.slot b o (kp b o q) hb, fun b o q n => ub.free b o (kp b o q) (un.free b o q n (by simp)),
    fun b o q hb => ub.there b o (kp b o q) hb, fun b xs q => ub.tups b xs (un.tups b xs q), fun b o xs q => ub.frzs b o xs (un.frzs b o xs q), fun b ps q => ?_⟩, na, os.trans ho, ag, he⟩
  obtain ⟨m1, e1⟩ := un.tbls b ps q
  obtain ⟨m2, e2⟩ := ub.tbls b _ e1
  exact ⟨m1 ++ m2, by rw [e2, Array.append_assoc]⟩
theorem fileIn_ok {K : PySem.W.Frag} {cdv : Value} {file : Str} (h : fileIn K cdv file = true) : ∃ (cda : Addr) (ccl : Value) (cdd : Option Addr) (vs : Array Value) (ccs : Array (Option Value)) (tf : Tok), cdv = .ref cda ∧ K.lookup cda = some ⟨ccl, cdd, .fields vs, ccs⟩ ∧ vs[2]? = some (.str file tf) := by
  unfold fileIn at h
  split at h
  · rename_i c
    split at h
    · rename_i a1 a2 vs a4 q
      split at h
      · rename_i f tf q2
        cases of_decide_eq_true h
        exact ⟨c, _, _, vs, _, tf, rfl, q, q2⟩
      · cases h
    · cases h
  · cases h
/-- a def as it stands behind the top, that closes over the class at Dc -/
structure FunS (K : PySem.W.Frag) (file x qual : Str) (params : Arguments) (body : List Stmt) (scope : Scope) (dvs : List V) (kws : List (Str × V)) (Dc f : Addr) (fd : FuncData) : Prop where
  ex : ∃ (oc : Value) (od : Option Addr) (dV kV doc pm : Value) (an : Option Addr) (cdv ct : Value) (osl : Array (Option Value)) (cc : Addr) (cl : Value) (cld : Option Addr) (csl : Array (Option Value)),
    fd = PySem.W.ksFn x qual params body scope dV kV doc pm an cdv ct cc ∧ K.lookup f = some ⟨oc, od, .func fd, osl⟩ ∧ PySem.W.codeIn K cdv qual = true ∧ fileIn K cdv file = true ∧ DflV K dV dvs ∧ KwdV K kV kws ∧ K.lookup cc = some ⟨cl, cld, .cell (some (.ref Dc)), csl⟩
  kp : PySem.W.keepIn K (.ref f) = true
/-- what super() leans on beside -/
structure SupF (P : Program) (K : PySem.W.Frag) (mg : Str → Option Value) (file : Str) (Dc : Addr) : Prop where
  file : (P.main.file : Str) = file
  top : (P.main.scope.names.lookup ("super" : Str)).isSome = false
  cls : ∃ cdD, PySem.W.clsIn K Dc = some cdD
  sup : mg "super" = none
  opq : PySem.W.nsIn K cStatics "thirdparty.any" = some none
section
variable {P : Program} {w : World} {K : PySem.W.Frag} {mg : Str → Option Value} {base : Heap} {file x qual : Str} {params : Arguments} {body : List Stmt} {scope : Scope} {dvs : List V} {kws : List (Str × V)} {Dc f : Addr} {fd : FuncData} {N ps : List Str} {b : FS} {n np k : Nat} {ar : Arg}
theorem takesS {cdv : Value} {cc : Addr} {A : Around} {outer : List Env} {s : Shared} {H : Hp} {E : XK} : L2N.Takes (cxS P w K mg base N qual scope f cdv cc A outer s H E) (fun cls d _ H => E cls d H) := L2N.takes_of rfl rfl rfl rfl
theorem supX_of (F : FunS K file x qual params body scope dvs kws Dc f fd) (SF : SupF P K mg file Dc) (hks : scope.names.lookup ("super" : Str) = some .globalImplicit) (hkc : scope.names.lookup ("__class__" : Str) = some .free) (har : (params.posonlyargs ++ params.args).head? = some ar) (hN : N[0]? = some ar.arg) (hl : scope.names.lookup ar.arg = some .local)
    {oc : Value} {od : Option Addr} {dV kV doc pm : Value} {an : Option Addr} {cdv ct : Value} {osl : Array (Option Value)} {cc : Addr} {cl : Value} {cld : Option Addr} {csl : Array (Option Value)} (lk : K.lookup f = some ⟨oc, od, .func (PySem.W.ksFn x qual params body scope dV kV doc pm an cdv ct cc), osl⟩) (hfl : fileIn K cdv file = true) (hc : K.lookup cc = some ⟨cl, cld, .cell (some (.ref Dc)), csl⟩)
    {A : Around} {outer : List Env} {s : Shared} {H : Hp} {E : XK} : SupX (cxS P w K mg base N qual scope f cdv cc A outer s H E) Dc := by
  obtain ⟨cda, ccl, cdd, vs, ccs, tf, rfl, c2, c3⟩ := fileIn_ok hfl
  exact ⟨hks, hkc, ⟨f, _, _, _, _, ar, rfl, lk, har, hN, hl⟩, ⟨cda, _, _, vs, _, file, tf, rfl, c2, c3, by rw [show (cxS P w K mg base N qual scope f (.ref cda) cc A outer s H E).prog.main.file = file from SF.file]; exact beq_self_eq_true _⟩, SF.top, ⟨cc, _, _, _, rfl, hc⟩, SF.cls, SF.sup, SF.opq⟩
/-- what the body's derivation is given -/
abbrev BodyS (P : Program) (w : World) (K : PySem.W.Frag) (mg : Str → Option Value) (base : Heap) (N : List Str) (qual : Str) (scope : Scope) (f Dc : Addr) (body : List Stmt) (k : Nat) (b : FS) : Prop :=
  ∀ (cdv : Value) (cc : Addr) (A : Around) (outer : List Env) (s : Shared) (H : Hp) (E : XK), Room k (A.deeper (PySem.W.ksEnv qual scope s.heap.objs.size f cdv cc)) → L2N.Takes (cxS P w K mg base N qual scope f cdv cc A outer s H E) (fun cls d _ H => E cls d H) → SupX (cxS P w K mg base N qual scope f cdv cc A outer s H E) Dc →
    PSsA (cxS P w K mg base N qual scope f cdv cc A outer s H E) (.func body (cxS P w K mg base N qual scope f cdv cc A outer s H E).env) body (tS K (fun cls d _ H => E cls d H) b)
/-- the body runs, whatever was bound -/
theorem run_body (S : ScS N ps scope) (hn : N.length = n) {cdv : Value} {cc : Addr} {A : Around} {outer : List Env} {s s2 : Shared} {H : Hp} {E : XK} {Q : VK} {us : List Value} {vs : List V} {h0 : Heap} {tk : Nat} {cl : Value} {cld : Option Addr} {csl : Array (Option Value)} {v0 : Option Value} {pins : List (Addr × Obj)}
    (hr : Room (k + 1) A) (e0 : Env0 P w K mg base A outer s2 H) (un : Un (frs outer) [] H H s.heap s2.heap) (kp : ∀ b o, s.heap.get? b = some o → s2.heap.get? b = some o) (ho : s2.os = s.os) (hl : vs.length = ps.length) (r : Vals vs us) (hc : K.lookup cc = some ⟨cl, cld, .cell v0, csl⟩)
    (hns : h0.Ns s2.heap.objs.size (fun x => (ps.zip us).reverse.lookup x)) (hk : ∀ b o, s2.heap.get? b = some o → h0.get? b = some o) (hp : ∀ p ∈ pins, s2.heap.get? p.1 = some p.2 ∧ H p.1 = none ∧ p.1 ∉ frs outer ∧ ∀ v, p.2.data ≠ .cell v)
    (ht : ∀ s1, Inv (cxS P w K mg base N qual scope f cdv cc A outer s2 H E) pins (L2.start N vs) H s1 → wpC (cxS P w K mg base N qual scope f cdv cc A outer s2 H E) (.func body (PySem.W.ksEnv qual scope s2.heap.objs.size f cdv cc)) (execs body (PySem.W.ksEnv qual scope s2.heap.objs.size f cdv cc)) (SP (cxS P w K mg base N qual scope f cdv cc A outer s2 H E) pins { nx := fun _ H' => Q .non H', rt := Q }) s1) :
    _root_.PySem.wpAt (model P w) (A.deeper (PySem.W.ksEnv qual scope s2.heap.objs.size f cdv cc)) (.func body (PySem.W.ksEnv qual scope s2.heap.objs.size f cdv cc)) (execs body (PySem.W.ksEnv qual scope s2.heap.objs.size f cdv cc)) (fun fl s' => CR (L2N.CX P w) outer P w H s Q E (.ok (.ret (match fl with | .ret v => v | _ => .none))) s')
      (fun e s' => wpAny (model P w) (A.deeper (PySem.W.ksEnv qual scope s2.heap.objs.size f cdv cc)) (leaving (PySem.W.ksEnv qual scope s2.heap.objs.size f cdv cc) e) (fun _ s'' => CR (L2N.CX P w) outer P w H s Q E (.error e) s'') (fun e' s'' => CR (L2N.CX P w) outer P w H s Q E (.error e') s'') s') { s2 with heap := h0, toks := tk } := by
  have I := inv_startS (P := P) (w := w) (mg := mg) (base := base) (qual := qual) (f := f) (cd := cdv) (E := E) (tk := tk) (pins := pins) S hr.hd e0 hl r hc hns hk hp
  have hx : ∀ e s', L2N.CX P w outer H s2 E e s' → L2N.CX P w outer H s E e s' := fun e s' z => cxUpN outer s H s2 H E e s' un kp ho z
  refine _root_.PySem.wpAt_mono (ht _ I) (fun fl s' hs => ?_) fun e s' hs => ?_
  · have fin : ∀ {σ' : L2.St} {H' : Hp} {v' : V} {u' : Value}, Inv (cxS P w K mg base N qual scope f cdv cc A outer s2 H E) pins σ' H' s' → RelV v' u' → Q v' H' → CE outer P w H s Q u' s' :=
      fun {σ' H' v' u'} J rv' q => ⟨v', H', J.os.trans ho, J.bare, un.trans J.base, J.hok, rv', q⟩
    cases fl with
    | ret u' =>
      obtain ⟨v', σ', H', J, rv', q⟩ := hs
      exact fin J rv' q
    | next =>
      obtain ⟨σ', H', J, q⟩ := hs
      exact fin (v' := V.non) (u' := Value.none) J rfl q
    | brk =>
      obtain ⟨_, _, _, q⟩ := hs
      exact False.elim q
    | cont =>
      obtain ⟨_, _, _, q⟩ := hs
      exact False.elim q
  · exact wpAny_mono hs (fun _ s'' z => hx e s'' z) fun e' s'' z => hx e' s'' z
theorem clo_ok (F : FunS K file x qual params body scope dvs kws Dc f fd) (SF : SupF P K mg file Dc) (S : ScS N ps scope) (hn : N.length = n) (hpl : ps.length = np) (hks : scope.names.lookup ("super" : Str) = some .globalImplicit) (hkc : scope.names.lookup ("__class__" : Str) = some .free)
    (har : (params.posonlyargs ++ params.args).head? = some ar) (hN : N[0]? = some ar.arg) (hlo : scope.names.lookup ar.arg = some .local) (hb : BodyS P w K mg base N qual scope f Dc body k b) : FnOk P w K mg base (L2N.CX P w) (k + 1) f fd ps (spO K np (fnO n b)) := by
  refine ⟨fun vs H Q E h => by rw [h.1, hpl], fun A outer s H args us vs Q E hr e0 hbd r hsp => ?_⟩
  have hl : vs.length = ps.length := by rw [hsp.1, hpl]
  obtain ⟨oc, od, dV, kV, doc, pm, an, cdv, ct, osl, cc, cl, cld, csl, rfl, lk, hcd, hfl, _, _, hc⟩ := F.ex
  have KX : K.In s.heap := e0.mod.kin.keeps fun b o e => (e0.bs b o e).1
  have lim : s.heap.NoLimit := e0.mod.nolimit.keeps fun b o e => (e0.bs b o e).1
  refine codeAny_call_function hr.depth (KX _ _ lk) rfl S.co S.gen rfl (PySem.W.codeRec_of KX hcd) (hbd _ _ _ _ ?_)
  refine wpAny_newFunctionEnv S.nocell (fun y hy => S.par y.1 (List.of_mem_zip hy).1) (fun h0 hns hsb => ⟨lim.fresh _ hsb, PySem.ks_codeAny_funcAt ?_⟩) S.kind
  have hk : ∀ b o, s.heap.get? b = some o → h0.get? b = some o := fun b o e => hsb.extBut b o (Nat.ne_of_lt (Heap.lt_size e)) (Heap.get?_push_of_some _ e)
  exact run_body (pins := []) S hn hr e0 (Un.kept fun _ _ e => e) (fun _ _ e => e) rfl hl r hc hns hk (fun p hp => by cases hp) fun s1 I => (hb cdv cc A outer s H E (hr.deeper _) takesS (supX_of F SF hks hkc har hN hlo lk hfl hc)).run [] s1 _ _ _ I (body_ok (X := cxS P w K mg base N qual scope f cdv cc A outer s H E) (sts := body) hn hsp)
theorem FunS.bindsN (F : FunS K file x qual params body scope [] kws Dc f fd)
    (h : ∀ (kV doc pm : Value) (an : Option Addr) (cdv ct : Value) (us : List Value), us.length = ps.length → bindArgs (PySem.W.fnOf x qual params body scope .none kV doc pm an cdv ct) ⟨us, []⟩ = pure (ps.zip us)) : Binds K fd ps [] := by
  obtain ⟨oc, od, dV, kV, doc, pm, an, cdv, ct, osl, cc, cl, cld, csl, rfl, lk, hcd, hfl, hD, hK, hc⟩ := F.ex
  rcases hD with ⟨_, rfl⟩ | ⟨e, _⟩
  · exact .all (h kV doc pm an cdv ct)
  · exact absurd rfl e
end
end Ob

namespace Ob
open PySem PySem.Spec PyProof.Rows L2 Fi
theorem dict_sub : isSubtype (.type "dict") (.type "dict") = pure true := by rw [isSubtype_type]; kernel_rfl
theorem dict_iter : typeLookup (.type "dict") "__iter__" = pure (some (.builtin "dict.__iter__")) := by rw [typeLookup_type, builtinLookup_eq_fast]; kernel_rfl
abbrev dctO (es : Array DictEntry) (n : Nat) : Obj := { cls := .type "dict", data := .dict es n }
section
variable {M : Model} {A : Around} {E : Value → Shared → Prop} {h : Heap} {g : Array GenState} {d : Drawn} {t : Nat} {os : OsState}
theorem merge0 {d' m : Addr} {n n' : Nat} {Q : Unit → Shared → Prop} (hm : h.get? m = some (dctO #[] n)) (hd : h.get? d' = some (dctO #[] n')) (ne : (m == sysModules) = false) (q : Q () ⟨h, g, d, t, os⟩) :
    wpAny M A (mergeMapping d' (.ref m) true) Q E ⟨h, g, d, t, os⟩ := by
  have hT : (⟨h, g, d, t, os⟩ : Shared).TypeIs (.ref m) "dict" := ⟨_, hm, rfl⟩
  have s1 := dict_sub
  have s2 := dict_iter
  unfold mergeMapping
  wp_walk
  exact q
theorem merge1 {d' m : Addr} {n : Nat} {hs : Int} {tk : Tok} {x : Str} {v : Value} {Q : Unit → Shared → Prop} (hm : h.get? m = some (dctO #[⟨hs, .str x tk, v⟩] n)) (hd : h.get? d' = some (dctO #[] 0)) (ne : (m == sysModules) = false) (ne2 : m ≠ d')
    (q : ∀ h', h'.get? d' = some (dctO #[⟨hs, .str x tk, v⟩] 1) → (∀ b o, b ≠ d' → h.get? b = some o → h'.get? b = some o) → Q () ⟨h', g, d, t, os⟩) :
    wpAny M A (mergeMapping d' (.ref m) true) Q E ⟨h, g, d, t, os⟩ := by
  have hT : (⟨h, g, d, t, os⟩ : Shared).TypeIs (.ref m) "dict" := ⟨_, hm, rfl⟩
  have s1 := dict_sub
  have s2 := dict_iter
  have nf := Ne.symm ne2
  have hfi : Array.findIdx? (fun y : DictEntry => y.key.isStr x) #[] = none := by simp
  unfold mergeMapping
  repeat (first | wp_step | rw [hfi])
  exact q _ (Heap.get?_update_self _ hd rfl) fun b o hb e => (Heap.get?_update_ne _ _ _ _ hb).trans e
theorem kwIn0 {f : Value} {d' : Addr} {n : Nat} {Q : List (Str × Value) → Shared → Prop} (hd : h.get? d' = some (dctO #[] n)) (q : Q [] ⟨h, g, d, t, os⟩) : wpAny M A (keywordsIn f d') Q E ⟨h, g, d, t, os⟩ := by
  unfold keywordsIn
  wp_walk
  exact q
theorem kwIn1 {f : Value} {d' : Addr} {n : Nat} {hs : Int} {tk : Tok} {x : Str} {v : Value} {Q : List (Str × Value) → Shared → Prop} (hd : h.get? d' = some (dctO #[⟨hs, .str x tk, v⟩] n)) (q : Q [(x, v)] ⟨h, g, d, t, os⟩) : wpAny M A (keywordsIn f d') Q E ⟨h, g, d, t, os⟩ := by
  unfold keywordsIn
  wp_walk
  exact q
section
variable {x : Sem Value} {m : Addr}
/-- what x is: a look at m -/
abbrev LooksAt (M : Model) (A : Around) (h : Heap) (g : Array GenState) (d : Drawn) (os : OsState) (x : Sem Value) (m : Addr) : Prop :=
  ∀ (h' : Heap) (t' : Nat), (∀ b o, h.get? b = some o → h'.get? b = some o) → ∀ (Q : Value → Shared → Prop) (E : Value → Shared → Prop), (∀ t'', Q (.ref m) ⟨h', g, d, t'', os⟩) → wpAny M A x Q E ⟨h', g, d, t', os⟩
theorem merged0 {f : Value} {n : Nat} {Q : Addr → Shared → Prop} (hm : h.get? m = some (dctO #[] n)) (ne : (m == sysModules) = false) (hx : LooksAt M A h g d os x m)
    (q : ∀ t', Q h.objs.size ⟨h.push (dctO #[] 0), g, d, t', os⟩) : wpAny M A (mergedKeywords f [(none, x)]) Q E ⟨h, g, d, t, os⟩ := by
  have hk : ∀ b o, h.get? b = some o → (h.push (dctO #[] 0)).get? b = some o := fun b o e => Heap.get?_push_of_some _ e
  have hd : (h.push (dctO #[] 0)).get? h.objs.size = some (dctO #[] 0) := Heap.get?_push_at rfl rfl
  unfold mergedKeywords
  refine wpAny_bind (wpAny_alloc ?_)
  refine wpAny_bind (wpAny_holding ?_)
  wp_walk
  refine hx _ _ hk _ _ fun t1 => ?_
  refine wpAny_bind (wpAny_onRaise (wpAny_holding (wpAny_tryCatch (wpAny_onRaise (merge0 (hk _ _ hm) hd ne ?_)))))
  wp_walk
  exact q _
theorem merged1 {f : Value} {n : Nat} {hs : Int} {tk : Tok} {y : Str} {v : Value} {Q : Addr → Shared → Prop} (hm : h.get? m = some (dctO #[⟨hs, .str y tk, v⟩] n)) (ne : (m == sysModules) = false) (hx : LooksAt M A h g d os x m)
    (q : ∀ h' t', h'.get? h.objs.size = some (dctO #[⟨hs, .str y tk, v⟩] 1) → (∀ b o, h.get? b = some o → h'.get? b = some o) → Q h.objs.size ⟨h', g, d, t', os⟩) : wpAny M A (mergedKeywords f [(none, x)]) Q E ⟨h, g, d, t, os⟩ := by
  have hk : ∀ b o, h.get? b = some o → (h.push (dctO #[] 0)).get? b = some o := fun b o e => Heap.get?_push_of_some _ e
  have hd : (h.push (dctO #[] 0)).get? h.objs.size = some (dctO #[] 0) := Heap.get?_push_at rfl rfl
  have hne : m ≠ h.objs.size := Nat.ne_of_lt (Heap.lt_size hm)
  unfold mergedKeywords
  refine wpAny_bind (wpAny_alloc ?_)
  refine wpAny_bind (wpAny_holding ?_)
  wp_walk
  refine hx _ _ hk _ _ fun t1 => ?_
  refine wpAny_bind (wpAny_onRaise (wpAny_holding (wpAny_tryCatch (wpAny_onRaise (merge1 (hk _ _ hm) hd ne hne fun h' e1 e2 => ?_)))))
  wp_walk
  exact q h' _ e1 fun b o e => e2 b o (Nat.ne_of_lt (Heap.lt_size e)) (hk b o e)
/-- the arguments of f(e, .., **more) -/
theorem evalKw {f : Value} {e0 : Sem Value} {rest : List (Bool × Sem Value)} {kw : List (Str × Value)} {s : Shared} {Q : Args → Shared → Prop}
    (hsp : wpAny M A (spliced ((false, e0) :: rest)) (fun us s1 => ∀ Q' : Addr → Shared → Prop, (∀ d' s2, (∀ Q'' : List (Str × Value) → Shared → Prop, Q'' kw s2 → wpAny M A (keywordsIn f d') Q'' E s2) → Q ⟨us, kw⟩ s2 → Q' d' s2) → wpAny M A (mergedKeywords f [(none, x)]) Q' E s1) E s) :
    wpAny M A (evalArgs f true ((false, e0) :: rest) [(none, x)]) Q E s := by
  unfold evalArgs
  show wpAny M A (spliced ((false, e0) :: rest) >>= _) Q E s
  refine wpAny_bind (wpAny_mono hsp (fun us s' h' => ?_) fun _ _ x => x)
  refine wpAny_bind (wpAny_pure (wpAny_holding ?_))
  dsimp only [List.all_cons, List.all_nil, Option.isSome]
  refine wpAny_bind (h' _ fun d' s2 k q => ?_)
  refine wpAny_bind (wpAny_pure ?_)
  refine wpAny_bind (wpAny_holding (k _ (wpAny_pure ?_)))
  exact q
end
end
end Ob

namespace Ob
open PySem PySem.Spec PyProof.Rows L2 Fi
theorem atom_dp {K : PySem.W.Frag} {H : Hp} {p : PyData} {z : V} (h : atomV p = some z) : Dp K H z p := by
  cases p <;> cases h <;> constructor
theorem atom_eq {K : PySem.W.Frag} {H : Hp} {p : PyData} {v z : V} (d : Dp K H v p) (h : atomV p = some z) : v = z := by
  cases d <;> cases h <;> rfl
/-- the dict of more -/
def MrO (m : Mr) (ws : List Value) (o : Obj) : Prop := match m with
  | .no => ws = [] ∧ ∃ n, o = dctO #[] n
  | .fl _ => ∃ v hs tk n, ws = [v] ∧ o = dctO #[⟨hs, .str "floor" tk, v⟩] n
theorem callWithS {M : Model} {A : Around} {E : Value → Shared → Prop} {s : Shared} {K : PySem.W.Frag} {pos : Pos} {q g : Addr} {self : Value} {args : List (Bool × Sem Value)} {x : Sem Value} {Q : Value → Shared → Prop} (hf : PySem.W.fnIn K g = true)
    (h : wpAny M A (evalArgs (.ref q) true args [(none, x)]) (fun a s₁ => PySem.W.MethP K q g self s₁.heap ∧ wpAny M A (call (.ref q) a.pos a.kw) Q E s₁) E s) : wpAny M A (callWith pos (.ref q) [] args [(none, x)]) Q E s := by
  unfold callWith
  refine wpAny_bind (wpAny_holding (wpAny_mono h (fun a s₁ h₁ => wpAny_bind (wpAny_standAt ?_)) fun _ _ x => x))
  have tail : ∀ {t : Sem Value}, wpAny M A t Q E s₁ → wpAny M A (t >>= fun r => holding [r] point >>= fun _ => pure r) Q E s₁ :=
    fun ht => wpAny_bind (wpAny_mono ht (fun r s₂ hr => wpAny_bind (wpAny_holding (wpAny_point (wpAny_pure hr)))) fun _ _ x => x)
  have hst : (args.any (·.1) || [((none : Option Str), x)].any (·.1.isNone)) = true := by
    rw [show [((none : Option Str), x)].any (·.1.isNone) = true from rfl, Bool.or_true]
  simp only [hst]
  have L : PySem.W.Looks M s₁.heap (keeperOf (.ref q)) .boundFrame := by
    unfold PySem.W.fnIn at hf
    split at hf
    · rename_i e
      refine (PySem.W.Looks.ld (part := none) h₁.1.1).andThen ?_
      exact (PySem.W.Looks.ld (part := none) (h₁.1.2 _ _ e)).andThen .now
    · cases hf
  refine wpAny_bind (L.here ?_)
  exact tail (PyProof.Rows.wpAny_operate' h₁.2)
def eSupK (T : Tab) (n : Nat) (mr : Mr) (r : F (List D)) : F D := fun (env : En) (st : Stor) => match env[0]? with
  | some (some (Sl.val d)) => match pickP T d st with
    | some G => bnd r (fun ds _ st => if ds.length = n then goE G (d :: (ds ++ mr.list)) st else none) env st
    | none => none
  | _ => none
structure SupMK (P : Program) (w : World) (K : PySem.W.Frag) (mg : Str → Option Value) (base : Heap) (k : Nat) (Dc : Addr) (m : Str) (n : Nat) (mr : Mr) (c : Str) (G : Fn) : Prop where
  sub : PySem.W.mroIn K (He.ga K c) (.ref Dc) = some true
  ex : ∃ f2, PySem.W.ks_superIn K (He.ga K c) Dc m = some (some (.ref f2)) ∧ PySem.W.typeIn K (.ref f2) = some (.type "function") ∧ PySem.W.fnIn K f2 = true ∧ CalK P w K mg base k f2 (n + 1) mr.ks (spO K (n + mr.list.length + 1) G)
def SupMKs (P : Program) (w : World) (K : PySem.W.Frag) (mg : Str → Option Value) (base : Heap) (k : Nat) (Dc : Addr) (m : Str) (n : Nat) (mr : Mr) (T : Tab) : Prop := ∀ p ∈ T, SupMK P w K mg base k Dc m n mr p.1 p.2
/-- a positional call is one of no keywords -/
theorem calK_of {P : Program} {w : World} {K : PySem.W.Frag} {mg : Str → Option Value} {base : Heap} {k : Nat} {f : Addr} {sp : Sp} (c : Cal P w K mg base k f sp) (n : Nat) : CalK P w K mg base k f n [] sp := fun A outer s H us ws vs zs Q E hr e0 r rz l1 l2 h => by
  have : zs = [] := List.eq_nil_of_length_eq_zero l2
  subst this
  cases rz
  rw [List.append_nil] at h
  exact c A outer s H us vs Q E hr e0 r h
theorem getAttr_super {prog : Program} {w : World} {A : Around} {E : Value → Shared → Prop} {h : Heap} {g : Array GenState} {d : Drawn} {t : Nat} {os : OsState} {so D x C f : Addr} {of : Obj} {l₀ l : List Value} {K : PySem.W.Frag} {name : Str} {Q : Value × List Value → Shared → Prop}
    (hso : h.get? so = some { cls := .type "super", dict := none, data := .fields #[.ref D, .ref x, .ref C], slots := #[] }) (hno : PySem.W.Looks (model prog w) h (opaqueClassAbove (.ref C)) none)
    (hC : PySem.W.Looks (model prog w) h (mroOf (.ref C)) l₀) (hl : (l₀.dropWhile (· != .ref D)).drop 1 = l) (X : K.In h)
    (hf : PySem.W.alongIn K name l = some (some (.ref f))) (hfo : h.get? f = some of) (hfc : of.cls = .type "function") (hxC : x ≠ C) (hn : (name == ("__class__" : Str)) = false)
    (hq : Q (.ref h.objs.size, []) ⟨h.push { cls := .type "method", data := .fields #[.ref f, .ref x] }, g, d, t + 1, os⟩) :
    wpAny (model prog w) A (do pure (← getAttr (.ref so) name true, [])) Q E ⟨h, g, d, t, os⟩ := by
  have hT : ∀ t', (⟨h, g, d, t', os⟩ : Shared).TypeIs (.ref so) "super" := fun _ => ⟨_, hso, rfl⟩
  unfold getAttr getAttrBy
  refine wpAny_bind (wpAny_bind (wpAny_mkText (wpAny_holding (wpAny_bind (wpAny_typeOf (hT _) (wpAny_bind (wpAny_of_eq F.ks_slot_super_ga.lookup ?_)))))))
  show wpAny _ _ (getAttrByItsOwn (.ref so) (.str name t) (.type "super") (.builtin "super.__getattribute__") true true) _ _ _
  unfold getAttrByItsOwn hookBefore callGetattribute boundAndCalled
  refine wpAny_bind (wpAny_of_eq (show (if onTheHeap (.type "super") then typeLookup (.type "super") "__getattr__" else pure none) = pure none from rfl) ?_)
  refine wpAny_bind (wpAny_attempt (wpAny_holding ?_))
  show wpAny _ _ (bindSpecial (.builtin "super.__getattribute__") (.ref so) >>= _) _ _ _
  refine wpAny_bind (wpAny_of_eq (F.ks_slot_super_ga.bind _) ?_)
  refine wpAny_mono (Q := fun v s' => v = .ref h.objs.size ∧ s' = ⟨h.push { cls := .type "method", data := .fields #[.ref f, .ref x] }, g, d, t + 1, os⟩) (E := fun _ _ => False)
    (wpAny_call_entry F.ks_slot_super_ga (hT _) F.ks_entry_super_ga (ks_wpAny_super_ga hso hno hC hl X hf hfo hfc hxC hn ⟨_, rfl, rfl, rfl⟩) (F.ks_gaArgs_super _ _)) (fun v s' hv => ?_) fun _ _ z => z.elim
  obtain ⟨rfl, rfl⟩ := hv
  exact wpAny_pure (wpAny_pure hq)
theorem sup_attr {X : Cx} {Dc x C : Addr} {pins : List (Addr × Obj)} {σ : L2.St} {H : Hp} {s : Shared} {m : Str} {dx : Addr} {vs : List (Str × V)} {A : Around} {E : Value → Shared → Prop} {so f2 : Addr} {Q : Value × List Value → Shared → Prop} (I : Inv X ((so, PySem.W.ks_superObj Dc x C) :: pins) σ H s) (hx : H x = some (.ins C dx vs)) (ho : PySem.W.nsIn X.K cStatics "thirdparty.any" = some none)
    (hm : PySem.W.ks_superIn X.K C Dc m = some (some (.ref f2))) (ht : PySem.W.typeIn X.K (.ref f2) = some (.type "function")) (hn : (m == ("__class__" : Str)) = false)
    (h : ∀ q s1, X.base.get? q = none → Inv X ((q, PySem.W.methodObj (.ref f2) (.ref x)) :: pins) σ H s1 → Q (.ref q, []) s1) : wpAny (model X.prog X.w) A (do pure (← getAttr (.ref so) m true, [])) Q E s := by
  obtain ⟨mA, O, _, _, _, _⟩ := ins_get I.hok hx
  obtain ⟨od2, J, _⟩ := O.look
  have hso := ClX.pin_at I
  cases hc : PySem.W.clsIn X.K C with
  | none => unfold PySem.W.ks_superIn at hm; rw [hc] at hm; cases hm
  | some cd =>
    unfold PySem.W.ks_superIn at hm
    rw [hc] at hm
    obtain ⟨of, hof, hofc⟩ : ∃ of, s.heap.get? f2 = some of ∧ of.cls = .type "function" := by
      have ht' : (X.K.lookup f2).map (·.cls) = some (.type "function") := ht
      cases z : X.K.lookup f2 with
      | none => rw [z] at ht'; cases ht'
      | some of => rw [z] at ht'; exact ⟨of, I.kIn _ _ z, Option.some.inj ht'⟩
    have ne := PySem.W.ks_ne I.kIn J hc
    have bn := ClX.base_none (ClX.unpin I) (Nat.le_refl _)
    have I2 := ClX.pin_new (h' := s.heap.push { cls := .type "method", data := .fields #[.ref f2, .ref x] }) (o := PySem.W.methodObj (.ref f2) (.ref x)) (t' := s.toks + 1) (ClX.unpin I) (fun b u e => Heap.get?_push_of_some _ e) (Nat.le_refl _) (Heap.get?_push_at rfl rfl) (fun v z => nomatch z)
    have X2 := I.kIn
    obtain ⟨hh, g, d, t, os⟩ := s
    refine getAttr_super hso (PySem.W.looks_opaque X2 ho) (l₀ := cd.mro) ?_ rfl X2 hm hof hofc ne hn ?_
    · exact fun A Q E s k q => wpAny_bind ((PySem.W.looks_clsIn X2 hc) A _ E s k (wpAny_pure q))
    · exact h _ _ bn I2
section
variable {X : Cx} {W : WX} {body : List Stmt} {Dc md : Addr} {mo : Obj} {T : Tab} {m : Str} {n j k i : Nat} {p0 p1 apos pos mp kp : Pos} {e : Expr} {es : List Expr} {r : F (List D)} {mr : Mr} {ws : List Value} {zs : List V}
theorem run_metK {pins : List (Addr × Obj)} {σ : L2.St} {H : Hp} {s : Shared} {q g x : Addr} {sp : Sp} {E : XK} {Q : VK} {us : List Value} {vs : List V} {ks : List Str} (F : CalK X.prog X.w X.K X.mg X.base k g (n + 1) ks sp) (hr : Room k X.A) (hx : PassesAt (L2N.CX X.prog X.w) X σ E) (I : Inv X ((q, PySem.W.methodObj (.ref g) (.ref x)) :: pins) σ H s)
    (r : Vals vs us) (rz : Vals zs ws) (l1 : vs.length = n) (l2 : zs.length = ks.length) (h : sp (.ref x :: vs ++ zs) H Q E) : wpAny (model X.prog X.w) X.A (call (.ref q) us (ks.zip ws)) (EP X pins σ Q) X.xe s := by
  refine wpAny_call (PySem.W.method_call (ClX.pin_at I) (codeAny_mono (F X.A X.stack s H (.ref x :: us) ws (.ref x :: vs) zs Q E hr I.env0 (.cons rfl r) rz (congrArg Nat.succ l1) l2 h) fun r s' hq => ?_))
  cases r with
  | error e => exact hx _ H s e s' I hq
  | ok fl =>
    cases fl with
    | ret u => exact ClX.unpinE (I.after hq)
    | next => exact False.elim hq
    | brk => exact False.elim hq
    | cont => exact False.elim hq
/-- the name more, looked at while objects are added -/
theorem looks_more {pins : List (Addr × Obj)} {σ : L2.St} {H : Hp} {s : Shared} {x : Str} {mp : Pos} (I : Inv X pins σ H s) (hN : X.N[i]? = some x) (hl : X.env.scope.names.lookup x = some .local) (h4 : σ[i]? = some (some (.ref md))) (hd : (x == ("__debug__" : Str)) = false := by decide) :
    LooksAt (model X.prog X.w) X.A s.heap s.gens s.drawn s.os (eval (.Name x mp) X.env) md := fun h' t' hk Q E q => by
  obtain ⟨mm, hn, hlk⟩ := I.loc
  obtain ⟨u, ru, lk⟩ := hlk i x (.ref md) hN h4 (.inl hl)
  cases (show u = Value.ref md from ru)
  have hv : mm x = some (.ref md) := by
    rcases lk with ⟨_, q⟩ | ⟨q, _⟩
    · exact q
    · rcases q with q | q
      · rw [show X.env.kindOf x = some .local from hl] at q; cases q
      · rw [show X.env.kindOf x = some .local from hl] at q; cases q
  exact wpAny_Name (wpAny_loadName_local I.ok.kind hl (hn.keeps hk) hv (q _)) hd
theorem xa_supK {x : Str} (S : SupX X Dc) (M : SupMKs X.prog X.w X.K X.mg X.base j Dc m n mr T) (hr : Room k X.A) (tk : L2N.Takes X W) (ha : PA X (e :: es) (tA X.K W r)) (hpn : (md, mo) ∈ X.pn) (hmo : MrO mr ws mo) (hzs : mr.vs zs) (rz : Vals zs ws) (hmd : (md == sysModules) = false)
    (hN : X.N[i]? = some x) (hlo : X.env.scope.names.lookup x = some .local) (hdb : (x == ("__debug__" : Str)) = false) (hjk : j ≤ k) (hat : (m == ("__class__" : Str)) = false)
    (hst : starEach (e :: es) X.env = (false, eval e X.env) :: starEach es X.env) (hkw : backToKw pos (keywordEach [⟨none, .Name x mp, kp⟩] X.env) = [(none, do let v ← eval (.Name x mp) X.env; standAt pos; pure v)])
    (he : eval (.Call (.Attribute (.Call (.Name "super" p0) [] [] p1) m apos) (e :: es) [⟨none, .Name x mp, kp⟩] pos) X.env = (do
      let ov ← attributeBase (.Call (.Name "super" p0) [] [] p1) m X.env (eval (.Call (.Name "super" p0) [] [] p1) X.env)
      standAt apos.atName
      let (f, first) ← holding [ov] (do pure (← getAttr ov m true, []))
      callWith pos f first (backTo pos (starEach (e :: es) X.env)) (backToKw pos (keywordEach [⟨none, .Name x mp, kp⟩] X.env)))) :
    PEA X (.func body X.env) (.Call (.Attribute (.Call (.Name "super" p0) [] [] p1) m apos) (e :: es) [⟨none, .Name x mp, kp⟩] pos) (fun σ H Q => σ[i]? = some (some (.ref md)) ∧ tE X.K W (eSupK T n mr r) σ H Q) := by
  refine ⟨fun pins s σ H Q I ⟨h4, Z, ρ, Hf, env, st, o, R, e, k⟩ => ?_⟩
  unfold eSupK at e
  split at e
  · rename_i d hd
    split at e
    · rename_i G hG
      obtain ⟨v, h0, hv⟩ := R.sl 0 _ hd
      obtain ⟨a, c, dx, vs, rfl, hm, ea⟩ := pickP_some R.ok hv hG
      obtain ⟨f2, g1, g2, g3, hcal⟩ := (M _ hm).ex
      have hlz : zs.length = mr.ks.length := by
        cases mr with
        | no => cases (show zs = [] from hzs); rfl
        | fl p =>
          obtain ⟨z, _, rfl⟩ := hzs
          rfl
      rw [he]
      refine _root_.PySem.wpAt_bind (thA (sup_base S I h0 ea (M _ hm).sub hat fun so s1 I1 => ?_) fun ov s1 q => q)
      refine ofAny (wpAny_bind (wpAny_standAt (wpAny_bind (wpAny_holding (sup_attr I1 ea S.opq g1 g2 hat fun q s2 bn I2 => ?_)))))
      show wpAny _ _ (callWith pos (.ref q) [] _ _) _ _ _
      rw [hkw]
      refine callWithS (K := X.K) (self := .ref a) g3 ?_
      have hpa := ha.run pos _ s2 σ H _ I2 (bind_at bE R e k (P := fun vs H2 => vs.length = n ∧ spO X.K (n + mr.list.length + 1) G (.ref a :: vs ++ zs) H2 Q (WE W σ)) fun vs H2 ρ2 Hf2 s2 ds t2 r2 R2 e2 k2 => ?_)
      · rw [hst] at hpa ⊢
        refine evalKw (kw := mr.ks.zip ws) (thn hpa fun us s3 ⟨vs, H3, I3, rv, hn, q3⟩ => fun Q' hQ' => ?_)
        have hfin : ∀ s4, Inv X ((q, PySem.W.methodObj (.ref f2) (.ref a)) :: pins) σ H3 s4 → (PySem.W.MethP X.K q f2 (.ref a) s4.heap ∧ wpAny (model X.prog X.w) X.A (call (.ref q) us (mr.ks.zip ws)) (EP X pins σ Q) X.xe s4) := fun s4 I4 =>
          ⟨⟨ClX.pin_at I4, I4.kIn⟩, run_metK hcal (hr.mono hjk) (L2N.passAt tk σ) I4 rv rz hn hlz q3⟩
        have hpin := (I3.pin _ (List.mem_append_left _ hpn)).1
        have lk : LooksAt (model X.prog X.w) X.A s3.heap s3.gens s3.drawn s3.os (do let v ← eval (.Name x mp) X.env; standAt pos; pure v) md := fun h' t' hk Q E q' =>
          wpAny_bind (looks_more I3 hN hlo h4 hdb h' t' hk _ _ fun t'' => wpAny_bind (wpAny_standAt (wpAny_pure (q' t''))))
        cases mr with
        | no =>
          obtain ⟨rfl, nn, rfl⟩ := hmo
          have kept : ∀ b u, s3.heap.get? b = some u → (s3.heap.push (dctO #[] 0)).get? b = some u := fun b u e => Heap.get?_push_of_some _ e
          have I4 := fun t' => I3.kept (t' := t') (h' := s3.heap.push (dctO #[] 0)) kept
          obtain ⟨hh, g, d, t, os⟩ := s3
          exact merged0 hpin hmd lk fun t' => hQ' _ _ (fun Q'' q'' => kwIn0 (Heap.get?_push_at rfl rfl) q'') (hfin _ (I4 t'))
        | fl p =>
          obtain ⟨vv, hs, tk', nn, rfl, rfl⟩ := hmo
          have I4 := fun h' t' kept => I3.kept (t' := t') (h' := h') kept
          obtain ⟨hh, g, d, t, os⟩ := s3
          exact merged1 hpin hmd lk fun h' t' e1 e2 => hQ' _ _ (fun Q'' q'' => kwIn1 e1 q'') (hfin _ (I4 h' t' e2))
      · obtain ⟨hn, e2⟩ := ite_some e2
        refine ⟨(DqAll.len r2).trans hn, ?_⟩
        have hz : DqAll X.K Hf2 ρ2 zs mr.list := by
          cases mr with
          | no => cases (show zs = [] from hzs); exact .nil
          | fl p =>
            obtain ⟨z, h1, rfl⟩ := hzs
            exact .cons (.py (atom_dp h1)) .nil
        refine spO_E R2.ok (.cons (Dq.up t2.up hv) (DqAll.app r2 hz)) ?_ e2 k2
        rw [List.length_cons, List.length_append, hn]
    · cases e
  · cases e
end
end Ob

namespace Ob
open PySem PySem.Spec PyProof.Rows L2 Fi
structure ParM (p : Arguments) : Prop where
  po : p.posonlyargs = []
  ar : p.args.map (·.arg) = (["self", "name", "cap", "level"] : List Str)
  ko : p.kwonlyargs = []
  va : p.vararg = none
  ka : ∃ a, p.kwarg = some a ∧ a.arg = "more"
section
variable {M : Model} {A : Around} {E : Value → Shared → Prop} {h : Heap} {g : Array GenState} {d : Drawn} {t : Nat} {os : OsState}
theorem bind_more0 {fd : FuncData} {T : Addr} {o : Obj} {dv : Value} {n : Nat} {a b c e : Value} {Q : List (Str × Value) → Shared → Prop} (hp : ParM fd.params) (hD : fd.defaults = .ref T) (hT : h.get? T = some o) (ho : o.data = .seq #[dv] n)
    (q : Q [("self", a), ("name", b), ("cap", c), ("level", e), ("more", .ref h.objs.size)] ⟨h.push (dctO #[] 0), g, d, t, os⟩) : wpAny M A (bindArgs fd ⟨[a, b, c, e], []⟩) Q E ⟨h, g, d, t, os⟩ := by
  obtain ⟨ka, k1, k2⟩ := hp.ka
  obtain ⟨oc, od, dt, sl⟩ := o
  dsimp only at ho
  subst ho
  unfold bindArgs
  simp only [hp.po, hp.ar, hp.ko, hp.va, k1, hD, List.map_nil, List.nil_append]
  refine wpAny_bind ?_
  wp_walk
  rw [k2]
  exact q
theorem ask_any {Q : _ → Shared → Prop} {s : Shared} (q : ∀ w, Q w s) : wpAny M A ask Q E s := fun _ _ _ => q _
theorem bind_more1 {fd : FuncData} {T : Addr} {o : Obj} {dv : Value} {n : Nat} {a b c e v : Value} {Q : List (Str × Value) → Shared → Prop} (hp : ParM fd.params) (hD : fd.defaults = .ref T) (hT : h.get? T = some o) (ho : o.data = .seq #[dv] n)
    (q : ∀ h' t' hs tk, h'.get? h.objs.size = some (dctO #[⟨hs, .str "floor" tk, v⟩] 1) → (∀ b o, h.get? b = some o → h'.get? b = some o) → Q [("self", a), ("name", b), ("cap", c), ("level", e), ("more", .ref h.objs.size)] ⟨h', g, d, t', os⟩) :
    wpAny M A (bindArgs fd ⟨[a, b, c, e], [("floor", v)]⟩) Q E ⟨h, g, d, t, os⟩ := by
  obtain ⟨ka, k1, k2⟩ := hp.ka
  obtain ⟨oc, od, dt, sl⟩ := o
  dsimp only at ho
  subst ho
  unfold bindArgs
  simp only [hp.po, hp.ar, hp.ko, hp.va, k1, hD, List.map_nil, List.nil_append]
  refine wpAny_bind ?_
  repeat (first | wp_step | (with_reducible refine ask_any fun _ => ?_))
  rw [k2]
  exact q _ _ _ t (Heap.get?_update_self _ (Heap.get?_push_at rfl rfl) rfl) fun b o e => (Heap.get?_update_ne _ _ _ _ (Nat.ne_of_lt (Heap.lt_size e))).trans (Heap.get?_push_of_some _ e)
end
section
variable {X : Cx} {c : Code} {W : WX} {e : Expr} {pos : Pos} {h : F D} {s1 : Stmt} {rest : List Stmt} {u v : FS} {C : L2.St → Prop}
theorem sC_drop (he : PEA X c e (fun σ H Q => C σ ∧ tE X.K W h σ H Q)) (hi : interactive X.env = false := by rfl) (hs : swapsWith e none pos.line X.env = pure false := by rfl) : PSA X c (.Expr e pos) (fun N σ H => C σ ∧ tS X.K W (sDrop h) N σ H) := sa_le (sa_expr he hi hs) fun N σ H ⟨hc, Z, ρ, Hf, env, st, o, R, hf, k⟩ => by
  refine ⟨hc, bindS R hf k fun v H1 ρ1 Hf1 s1 a t1 r1 S1 R1 e1 k1 => ?_⟩
  cases e1
  exact k1 σ H1 ρ1 Hf1 .refl R1
theorem ssC_cons (h1 : PSA X c s1 (fun N σ H => C σ ∧ tS X.K W u N σ H)) (h2 : PSsA X c rest (tS X.K W v)) : PSsA X c (s1 :: rest) (fun N σ H => C σ ∧ tS X.K W (sSeq u v) N σ H) := ssa_le (ssa_cons h1 h2) fun N σ H ⟨hc, Z, ρ, Hf, env, st, o, R, hf, k⟩ => by
  refine ⟨hc, ?_⟩
  unfold sSeq at hf
  cases q : u env st with
  | none =>
    rw [q] at hf
    cases hf
  | some o1 =>
    rw [q] at hf
    cases o1 with
    | next e1 s1 => exact ⟨Z, ρ, Hf, env, st, .next e1 s1, R, q, fun σ' H' ρ' Hf' u R' => ⟨Z, ρ', Hf', e1, s1, o, R', hf, k.up u⟩⟩
    | brk e1 s1 =>
      cases hf
      exact ⟨Z, ρ, Hf, env, st, _, R, q, k⟩
    | cont e1 s1 =>
      cases hf
      exact ⟨Z, ρ, Hf, env, st, _, R, q, k⟩
    | ret d s1 =>
      cases hf
      exact ⟨Z, ρ, Hf, env, st, _, R, q, k⟩
    | retL d s1 =>
      cases hf
      exact ⟨Z, ρ, Hf, env, st, _, R, q, k⟩
    | exc c e1 s1 =>
      cases hf
      exact ⟨Z, ρ, Hf, env, st, _, R, q, k⟩
end
abbrev psM : List Str := ["self", "name", "cap", "level", "more"]
/-- what the body's derivation is given -/
abbrev BodyM (P : Program) (w : World) (K : PySem.W.Frag) (mg : Str → Option Value) (base : Heap) (qual : Str) (scope : Scope) (f Dc : Addr) (body : List Stmt) (k : Nat) (mr : Mr) (b : FS) : Prop :=
  ∀ (cdv : Value) (cc : Addr) (A : Around) (outer : List Env) (s : Shared) (H : Hp) (E : XK) (md : Addr) (mo : Obj) (xe : Value → Shared → Prop) (ws : List Value) (zs : List V), Room k (A.deeper (PySem.W.ksEnv qual scope s.heap.objs.size f cdv cc)) →
    L2N.Takes ((cxS P w K mg base psM qual scope f cdv cc A outer s H E).tr [(md, mo)] xe) (fun cls d _ H => E cls d H) → SupX ((cxS P w K mg base psM qual scope f cdv cc A outer s H E).tr [(md, mo)] xe) Dc → MrO mr ws mo → mr.vs zs → Vals zs ws → (md == sysModules) = false →
    PSsA ((cxS P w K mg base psM qual scope f cdv cc A outer s H E).tr [(md, mo)] xe) (.func body (cxS P w K mg base psM qual scope f cdv cc A outer s H E).env) body (fun N σ H => σ[4]? = some (some (.ref md)) ∧ tS K (fun cls d _ H => E cls d H) b N σ H)
section
variable {P : Program} {w : World} {K : PySem.W.Frag} {mg : Str → Option Value} {base : Heap} {file x qual : Str} {params : Arguments} {body : List Stmt} {scope : Scope} {kws : List (Str × V)} {Dc f : Addr} {fd : FuncData} {b : FS} {k : Nat} {mr : Mr}
theorem env0_kept {A : Around} {outer : List Env} {s s2 : Shared} {H : Hp} (e0 : Env0 P w K mg base A outer s H) (kp : ∀ b o, s.heap.get? b = some o → s2.heap.get? b = some o) (hs : s.heap.objs.size ≤ s2.heap.objs.size) (hg : s2.gens = s.gens) : Env0 P w K mg base A outer s2 H :=
  ⟨e0.frames, e0.mod, fun b o e => ⟨kp b o (e0.bs b o e).1, (e0.bs b o e).2⟩, Nat.le_trans e0.bsz hs, Heap.FunFrames.of_keeps (fun b x e _ => ⟨x, kp b x e, rfl⟩) e0.funs, e0.frf, e0.hok.kept kp, by rw [hg]; exact e0.bare⟩
/-- the body behind a binding that made the dict md -/
theorem more_run (F : FunS K file x qual params body scope [.int 0] kws Dc f fd) (SF : SupF P K mg file Dc) (S : ScS psM psM scope) (hks : scope.names.lookup ("super" : Str) = some .globalImplicit) (hkc : scope.names.lookup ("__class__" : Str) = some .free) (hpar : ParM params)
    (hb : BodyM P w K mg base qual scope f Dc body k mr b) {A : Around} {outer : List Env} {s : Shared} {H : Hp} {us ws : List Value} {vs zs : List V} {Q : VK} {E : XK} {ρ : List Addr} {Hf : Hp} {ds : List D} {st : Stor} {r : Rs Sl} (hr : Room (k + 1) A) (e0 : Env0 P w K mg base A outer s H) (rv : Vals vs us) (rz : Vals zs ws) (hl : vs.length = 4) (hz : mr.vs zs)
    (SO : StOk K ρ Hf H st) (hds : DqAll K Hf ρ vs ds) (hG : fnO 5 b ds st = some r) (hfin : FinR K ρ Hf H Q E r) : codeAny (model P w) A (.call (.ref f) ⟨us, mr.ks.zip ws⟩) (CR (L2N.CX P w) outer P w H s Q E) s := by
  obtain ⟨oc, od, dV, kV, doc, pm, an, cdv, ct, osl, cc, cl, cld, csl, rfl, lk, hcd, hfl, hD, _, hc⟩ := F.ex
  have KX : K.In s.heap := e0.mod.kin.keeps fun b o e => (e0.bs b o e).1
  have lim : s.heap.NoLimit := e0.mod.nolimit.keeps fun b o e => (e0.bs b o e).1
  obtain ⟨ar0, har⟩ : ∃ ar, (params.posonlyargs ++ params.args).head? = some ar ∧ ar.arg = "self" := by
    rw [hpar.po, List.nil_append]
    have := hpar.ar
    cases h : params.args with
    | nil => rw [h] at this; cases this
    | cons a l => rw [h] at this; exact ⟨a, rfl, (List.cons.inj this).1⟩
  obtain ⟨T, o, dv, n, rfl, lT, oT⟩ : ∃ T o dv n, dV = .ref T ∧ K.lookup T = some o ∧ o.data = .seq #[dv] n := by
    rcases hD with ⟨e, _⟩ | ⟨_, T, o, its, n, e, lT, oT, rT⟩
    · cases e
    · match its, rT with
      | [u], _ => exact ⟨T, o, u, n, e, lT, by rw [oT]⟩
  obtain ⟨u1, u2, u3, u4, rfl⟩ : ∃ a b c d, us = [a, b, c, d] := by
    have := rv.length
    match us, (this.symm.trans hl) with
    | [a, b, c, d], _ => exact ⟨a, b, c, d, rfl⟩
  refine codeAny_call_function hr.depth (KX _ _ lk) rfl S.co S.gen rfl (PySem.W.codeRec_of KX hcd) ?_
  have big := StX.env0_big e0
  -- whatever was bound
  have go : ∀ (h2 : Heap) (t2 : Nat) (mo : Obj), h2.get? s.heap.objs.size = some mo → (∀ b o, s.heap.get? b = some o → h2.get? b = some o) → MrO mr ws mo → (∀ v, mo.data ≠ .cell v) →
      wpAny (model P w) A.in1 (newFunctionEnv scope mainGlobals [(("__class__" : Str), cc)] [("self", u1), ("name", u2), ("cap", u3), ("level", u4), ("more", .ref s.heap.objs.size)] (qual ++ ".<locals>.") (some f) cdv none builtinsNs)
        (fun env s₂ => s₂.heap.NoLimit ∧ codeAny (model P w) A (.func body env) (CR (L2N.CX P w) outer P w H s Q E) s₂) (fun e s' => CR (L2N.CX P w) outer P w H s Q E (.error e) s') ⟨h2, s.gens, s.drawn, t2, s.os⟩ := by
    intro h2 t2 mo hmo kp hM hcell
    have hsz : s.heap.objs.size < h2.objs.size := Heap.lt_size hmo
    have hn : H s.heap.objs.size = none := e0.hok.fresh (Nat.le_refl _)
    have e2 : Env0 P w K mg base A outer ⟨h2, s.gens, s.drawn, t2, s.os⟩ H := env0_kept e0 kp (Nat.le_of_lt hsz) rfl
    have hnf : s.heap.objs.size ∉ frs outer := fun hm => by
      obtain ⟨_, ox, hx, _⟩ := e0.funs.mem hm
      exact absurd (Heap.lt_size hx) (Nat.lt_irrefl _)
    refine wpAny_newFunctionEnv S.nocell (fun y hy => S.par y.1 ?_) (fun h0 hns hsb => ⟨?_, PySem.ks_codeAny_funcAt ?_⟩) S.kind
    · have hy' : y ∈ List.zip psM [u1, u2, u3, u4, Value.ref s.heap.objs.size] := hy
      exact (List.of_mem_zip hy').1
    · exact (lim.keeps kp).fresh _ hsb
    · have hk : ∀ b o, h2.get? b = some o → h0.get? b = some o := fun b o e => hsb.extBut b o (Nat.ne_of_lt (Heap.lt_size e)) (Heap.get?_push_of_some _ e)
      have rv2 : Vals (vs ++ [V.ref s.heap.objs.size]) ([u1, u2, u3, u4] ++ [Value.ref s.heap.objs.size]) := rv.append (.cons rfl .nil)
      refine run_body (N := psM) (ps := psM) (n := 5) (pins := [(s.heap.objs.size, mo)]) S rfl hr e2 (Un.kept kp) kp rfl (by rw [List.length_append, hl]; rfl) rv2 hc hns hk (fun p hp => ?_) fun s1 I => ?_
      · cases List.mem_singleton.mp hp
        exact ⟨hmo, hn, hnf, hcell⟩
      · let X := cxS P w K mg base psM qual scope f cdv cc A outer ⟨h2, s.gens, s.drawn, t2, s.os⟩ H E
        have SX : SupX X Dc := supX_of F SF hks hkc har.1 (by rw [har.2]; rfl) (by rw [har.2]; exact S.par _ (by decide)) lk hfl hc
        have hrun := (hb cdv cc A outer ⟨h2, s.gens, s.drawn, t2, s.os⟩ H E s.heap.objs.size mo X.xe ws zs (hr.deeper _) (L2N.takes_of rfl rfl rfl rfl) ⟨SX.ks, SX.kc, SX.fn, SX.cd, SX.top, SX.cell, SX.cls, SX.sup, SX.opq⟩ hM hz rz (by rw [beq_eq_false_iff_ne]; exact Nat.ne_of_gt big)).run [] s1 (L2.start psM (vs ++ [V.ref s.heap.objs.size])) H
          { nx := fun _ H' => Q .non H', rt := Q } (I.toTry X.xe) ⟨?_, ?_⟩
        · refine _root_.PySem.wpAt_mono hrun (fun fl s' hs => ?_) fun _ _ z => z
          cases fl with
          | ret u' =>
            obtain ⟨v', σ', H', J, rv', q⟩ := hs
            exact ⟨v', σ', H', J.ofTry I.ok, rv', q⟩
          | next =>
            obtain ⟨σ', H', J, q⟩ := hs
            exact ⟨σ', H', J.ofTry I.ok, q⟩
          | brk =>
            obtain ⟨_, _, _, q⟩ := hs
            exact False.elim q
          | cont =>
            obtain ⟨_, _, _, q⟩ := hs
            exact False.elim q
        · unfold L2.start
          rw [List.map_append, List.append_assoc, List.getElem?_append_right (by rw [List.length_map, hl]; exact Nat.le_refl _), List.length_map, hl]
          rfl
        · -- the fifth slot is not looked at
          have R0 := rel_start (N := psM) (n := 5) rfl SO hds
          have R : Rel K ⟨ρ, Hf, H⟩ ρ Hf H (entry 5 ds) st (L2.start psM (vs ++ [V.ref s.heap.objs.size])) := by
            have hdl : ds.length = 4 := hds.len.symm.trans hl
            refine ⟨R0.z, R0.ok, ?_, fun i x e => ?_, fun i j x y p e1 e2 => ?_⟩
            · unfold entry L2.start
              simp [hl, hdl]
            · have hi : i < 4 := by
                by_cases hi : i < 4
                · exact hi
                · unfold entry at e
                  rw [List.getElem?_append_right (by rw [List.length_map, hdl]; omega), List.getElem?_replicate] at e
                  split at e <;> cases e
              obtain ⟨v, h1, h2⟩ := R0.sl i x e
              refine ⟨v, ?_, h2⟩
              unfold L2.start at h1 ⊢
              rw [List.getElem?_append_left (by rw [List.length_map, hl]; exact hi), List.getElem?_map] at h1
              rw [List.map_append, List.append_assoc, List.getElem?_append_left (by rw [List.length_map, hl]; exact hi), List.getElem?_map]
              exact h1
            · obtain ⟨v, h1, d, e, h2⟩ := dqAll_at hds _ i _ e1
              cases e
          unfold fnO at hG
          split at hG
          · rename_i d s hb
            cases hG
            exact ⟨_, ρ, Hf, _, st, _, R, hb, hfin⟩
          · rename_i d s hb
            cases hG
            exact ⟨_, ρ, Hf, _, st, _, R, hb, hfin⟩
          · rename_i e s hb
            cases hG
            exact ⟨_, ρ, Hf, _, st, _, R, hb, fun σ' H' ρ' Hf' u R' => hfin .non H' ρ' Hf' R'.z R'.ok (.py .non)⟩
          · rename_i c e s hb
            cases hG
            exact ⟨_, ρ, Hf, _, st, _, R, hb, fun σ' H' ρ' Hf' u R' => hfin H' ρ' Hf' R'.z R'.ok⟩
          · cases hG
  cases mr with
  | no =>
    cases (show zs = [] from hz)
    cases rz
    exact bind_more0 (h := s.heap) (g := s.gens) (d := s.drawn) (t := s.toks) (os := s.os) (fd := PySem.W.ksFn x qual params body scope (.ref T) kV doc pm an cdv ct cc) hpar rfl (KX _ _ lT) oT (go _ _ _ (Heap.get?_push_at rfl rfl) (fun b o e => Heap.get?_push_of_some _ e) ⟨rfl, 0, rfl⟩ (fun v z => nomatch z))
  | fl p =>
    obtain ⟨z, hz1, rfl⟩ := hz
    cases rz with
    | cons r1 r2 =>
      cases r2
      rename_i u
      exact bind_more1 (h := s.heap) (g := s.gens) (d := s.drawn) (t := s.toks) (os := s.os) (fd := PySem.W.ksFn x qual params body scope (.ref T) kV doc pm an cdv ct cc) hpar rfl (KX _ _ lT) oT fun h' t' hs tk e1 e2 => go h' t' _ e1 e2 ⟨u, hs, tk, 1, rfl, rfl⟩ (fun v z => nomatch z)
/-- called without keywords; with a floor -/
theorem more_cal0 (F : FunS K file x qual params body scope [.int 0] kws Dc f fd) (SF : SupF P K mg file Dc) (S : ScS psM psM scope) (hks : scope.names.lookup ("super" : Str) = some .globalImplicit) (hkc : scope.names.lookup ("__class__" : Str) = some .free) (hpar : ParM params)
    (hb : BodyM P w K mg base qual scope f Dc body k .no b) : Cal P w K mg base (k + 1) f (spO K 4 (fnO 5 b)) := fun A outer s H us vs Q E hr e0 r h => by
  obtain ⟨hl, ρ, Hf, ds, st, rr, SO, hd, hG, hfin⟩ := h
  exact more_run (mr := .no) (ws := []) (zs := []) F SF S hks hkc hpar hb hr e0 r .nil hl rfl SO hd hG hfin
def fnK (b : Mr → FS) : Fn := fun ds st => match ds with
  | [a, b', c, d, .py p] => if (atomV p).isSome then fnO 5 (b (.fl p)) [a, b', c, d] st else none
  | _ => none
theorem more_cal1 {b : Mr → FS} (F : FunS K file x qual params body scope [.int 0] kws Dc f fd) (SF : SupF P K mg file Dc) (S : ScS psM psM scope) (hks : scope.names.lookup ("super" : Str) = some .globalImplicit) (hkc : scope.names.lookup ("__class__" : Str) = some .free) (hpar : ParM params)
    (hb : ∀ p, BodyM P w K mg base qual scope f Dc body k (.fl p) (b (.fl p))) : CalK P w K mg base (k + 1) f 4 ["floor"] (spO K 5 (fnK b)) := fun A outer s H us ws vs zs Q E hr e0 r rz l1 l2 h => by
  obtain ⟨hl, ρ, Hf, ds, st, rr, SO, hd, hG, hfin⟩ := h
  unfold fnK at hG
  split at hG
  · rename_i a b' c d p
    obtain ⟨ha, hG⟩ := ite_some hG
    obtain ⟨z, hz⟩ := Option.isSome_iff_exists.mp ha
    obtain ⟨z1, rfl⟩ : ∃ z1, zs = [z1] := by
      match zs, l2 with
      | [z1], _ => exact ⟨z1, rfl⟩
    have hd4 : DqAll K Hf ρ vs [a, b', c, d] ∧ Dq K Hf ρ z1 (.py p) := by
      match vs, l1 with
      | [v1, v2, v3, v4], _ =>
        cases hd with
        | cons x1 hd => cases hd with
          | cons x2 hd => cases hd with
            | cons x3 hd => cases hd with
              | cons x4 hd => cases hd with
                | cons x5 hd => exact ⟨.cons x1 (.cons x2 (.cons x3 (.cons x4 .nil))), x5⟩
    have ez : z1 = z := atom_eq hd4.2.dp hz
    subst ez
    exact more_run (mr := .fl p) F SF S hks hkc hpar (hb p) hr e0 r rz l1 ⟨z1, hz, rfl⟩ SO hd4.1 hG hfin
  · cases hG
end
end Ob

namespace Ob
open PySem PySem.Spec PyProof.Rows L2 Fi
section
variable {K : PySem.W.Frag}
theorem isRef_ok {o : Option (Option Value)} (h : isRef o = true) : o = some (some (.ref (refOf (o.getD none)))) := by
  unfold isRef at h
  split at h
  · rfl
  · cases h
theorem ma_of {C : Addr} {m : Str} (h : isRef (PySem.W.findIn K (.ref C) m) = true) : PySem.W.findIn K (.ref C) m = some (some (.ref (He.ma K C m))) := by
  unfold isRef at h
  unfold He.ma
  split at h
  · rename_i a q
    rw [q]
  · cases h
theorem isRefs_ok {p : Addr} {T : String} (h : isRefs (PySem.W.recIn K p T) = true) : ∃ rest, PySem.W.recIn K p T = some (.ref (recAt K p T 0) :: rest) := by
  unfold isRefs at h
  unfold recAt
  split at h
  · rename_i a r q
    rw [q]
    exact ⟨r, rfl⟩
  · cases h
theorem prop_of {c m : Str} (h : (Ck.prop c m).ok K = true) : PropOf K (He.ga K c) m (He.ma K (He.ga K c) m) (Lo.ad K (.p c m)) := by
  obtain ⟨h1, h⟩ := He.ba h
  obtain ⟨h2, h⟩ := He.ba h
  obtain ⟨h3, h4⟩ := He.ba h
  exact ⟨ma_of h1, of_decide_eq_true h2, of_decide_eq_true h3, isRefs_ok h4⟩
theorem read_of {C : Addr} {mc : Value} (h : readB K C mc = true) : ClX.CRead K C mc := by
  obtain ⟨h1, h2⟩ := He.ba h
  exact ⟨h1, of_decide_eq_true h2⟩
theorem cval_of {C m : Str} {i : Int} {mg : Str → Option Value} (h : (Ck.cval C m i).ok K = true) (g : mg C = some (.ref (He.ga K C))) : ClsC K mg C m i := by
  obtain ⟨h1, h2⟩ := He.ba h
  refine ⟨g, mcOf K (He.ga K C), ?_⟩
  unfold cvB at h2
  split at h2
  · rename_i j t q
    exact ⟨.int j t, read_of h1, q, t, by rw [of_decide_eq_true h2]⟩
  · cases h2
theorem stat_of {P : Program} {w : World} {base : Heap} {C m : Str} {mg : Str → Option Value} {k n : Nat} {G : List PyData → Option Fi.Sl} {fd : FuncData} {ps : List Str} (h : (Ck.stat C m).ok K = true) (g : mg C = some (.ref (He.ga K C))) (F : FnOk P w K mg base CX0 k (Lo.ad K (.s C m)) fd ps (spD K n G)) (kp : PySem.W.keepIn K (.ref (Lo.ad K (.s C m))) = true)
    (hb : Binds K fd ps []) : Stat P w K mg base k C m n G := by
  obtain ⟨h1, h⟩ := He.ba h
  obtain ⟨h2, h3⟩ := He.ba h
  obtain ⟨rest, h4⟩ := isRefs_ok h3
  refine ⟨g, mcOf K (He.ga K C), He.ma K (He.ga K C) m, _, rest, fd, ps, read_of h1, ?_, h4, F, kp, hb⟩
  unfold smB at h2
  split at h2
  · rename_i g p C' q
    obtain ⟨a1, a2⟩ := He.ba h2
    obtain ⟨a3, a4⟩ := He.ba a2
    rw [q, of_decide_eq_true a1, of_decide_eq_true a3, of_decide_eq_true a4]
  · cases h2
theorem sup_of {c D m : Str} (h : (Ck.sup c D m).ok K = true) : PySem.W.mroIn K (He.ga K c) (.ref (He.ga K D)) = some true ∧ PySem.W.ks_superIn K (He.ga K c) (He.ga K D) m = some (some (.ref (supAd K c D m))) ∧ PySem.W.typeIn K (.ref (supAd K c D m)) = some (.type "function") ∧ PySem.W.fnIn K (supAd K c D m) = true ∧ ∃ cd, PySem.W.clsIn K (He.ga K D) = some cd := by
  obtain ⟨h1, h⟩ := He.ba h
  obtain ⟨h2, h⟩ := He.ba h
  obtain ⟨h3, h⟩ := He.ba h
  obtain ⟨h4, h5⟩ := He.ba h
  exact ⟨of_decide_eq_true h1, isRef_ok h2, of_decide_eq_true h3, h4, Option.isSome_iff_exists.mp h5⟩
theorem isC_of {mg : Str → Option Value} {C : Str} {T : List (Str × Bool)} (g : mg C = some (.ref (He.ga K C))) (h1 : (Ck.ist C).ok K = true) (h2 : Ck.obc.ok K = true) (h3 : ∀ p ∈ T, (Ck.fa (.cls p.1)).ok K = true ∧ (Ck.isc p.1 C p.2).ok K = true) : IsC K mg C T := by
  unfold Ck.ok at h2
  obtain ⟨a1, a2⟩ := He.ba h2
  refine ⟨g, fun p hp => ?_, of_decide_eq_true a1, of_decide_eq_true a2, fun t ht => of_decide_eq_true (List.all_eq_true.mp h1 t ht)⟩
  obtain ⟨c1, c2⟩ := h3 p hp
  obtain ⟨b1, b2⟩ := He.ba c2
  obtain ⟨b3, b4⟩ := He.ba b2
  exact ⟨He.cls_ok c1, of_decide_eq_true b1, of_decide_eq_true b3, of_decide_eq_true b4⟩
end
theorem Df.funD {K : PySem.W.Frag} {file : Str} {d : Df} (hc : d.clo = none) (e : fnC K d.at_ = d.val) (c : d.ok K file = true) : ∃ fd, FunD K d.name d.qual (defArgs d.st) (defBody d.st) (defScope d.st) (d.dvs K) (d.kws K) (d.at_.ad K) fd := by
  obtain ⟨kp, c2⟩ := He.ba c
  unfold fnC at e
  cases q : K.lookup (d.at_.ad K) with
  | none =>
    rw [q] at c2
    cases c2
  | some o =>
    obtain ⟨oc, od, dt, osl⟩ := o
    rw [q] at c2 e
    cases dt with
    | func fd =>
      obtain ⟨n1, n2, n3, n4, n5, n6, n7, n8, n9, n10, n11, n12, n13, n14, n15⟩ := fd
      have e2 : (some (n1, n2, n3, n4, n5, n6, n7.map (·.1), n15) : FnC) = some (d.name, d.qual, defArgs d.st, .stmts (defBody d.st), defScope d.st, mainGlobals, [], builtinsNs) := by
        have e3 := e
        unfold Df.val at e3
        rw [hc] at e3
        exact e3
      simp only [Option.some.injEq, Prod.mk.injEq] at e2
      obtain ⟨h1, h2, h3, h4, h5, h6, h7, h8⟩ := e2
      have h7' : n7 = [] := List.map_eq_nil_iff.mp h7
      subst h1 h2 h3 h4 h5 h6 h7' h8
      have c3 : (PySem.W.codeIn K n13 d.qual && (He.dflB K n8 (d.dvs K) && (He.kwdB K n9 (d.kws K) && _))) = true := c2
      obtain ⟨k1, k2⟩ := He.ba c3
      obtain ⟨k3, k4⟩ := He.ba k2
      obtain ⟨k5, k6⟩ := He.ba k4
      exact ⟨_, ⟨oc, od, n8, n9, n10, n11, n12, n13, n14, osl, rfl, q, k1, He.dflB_ok k3, He.kwdB_ok k5⟩, kp⟩
    | _ => cases c2
theorem Df.funS {K : PySem.W.Frag} {file D : Str} {d : Df} (hc : d.clo = some D) (e : fnC K d.at_ = d.val) (c : d.ok K file = true) : ∃ fd, FunS K file d.name d.qual (defArgs d.st) (defBody d.st) (defScope d.st) (d.dvs K) (d.kws K) (He.ga K D) (d.at_.ad K) fd := by
  obtain ⟨kp, c2⟩ := He.ba c
  unfold fnC at e
  cases q : K.lookup (d.at_.ad K) with
  | none =>
    rw [q] at c2
    cases c2
  | some o =>
    obtain ⟨oc, od, dt, osl⟩ := o
    rw [q] at c2 e
    cases dt with
    | func fd =>
      obtain ⟨n1, n2, n3, n4, n5, n6, n7, n8, n9, n10, n11, n12, n13, n14, n15⟩ := fd
      have e2 : (some (n1, n2, n3, n4, n5, n6, n7.map (·.1), n15) : FnC) = some (d.name, d.qual, defArgs d.st, FuncBody.stmts (defBody d.st), defScope d.st, mainGlobals, (["__class__"] : List Str), builtinsNs) := by
        have e3 := e
        unfold Df.val at e3
        rw [hc] at e3
        exact e3
      simp only [Option.some.injEq, Prod.mk.injEq] at e2
      obtain ⟨h1, h2, h3, h4, h5, h6, h7, h8⟩ := e2
      obtain ⟨cc, rfl⟩ : ∃ cc, n7 = [(("__class__" : Str), cc)] := by
        match n7, h7 with
        | [(y, cc)], h7 => exact ⟨cc, by rw [show y = "__class__" from (List.cons.inj h7).1]⟩
      subst h1 h2 h3 h4 h5 h6 h8
      have c3 : (PySem.W.codeIn K n13 d.qual && (He.dflB K n8 (d.dvs K) && (He.kwdB K n9 (d.kws K) && cloB K file d.clo _))) = true := c2
      obtain ⟨k1, k2⟩ := He.ba c3
      obtain ⟨k3, k4⟩ := He.ba k2
      obtain ⟨k5, k6⟩ := He.ba k4
      rw [hc] at k6
      obtain ⟨k7, k8⟩ := He.ba (show (fileIn K n13 file && (match K.lookup cc with
        | some ⟨_, _, .cell (some (.ref D')), _⟩ => decide (D' = He.ga K D)
        | _ => false)) = true from k6)
      split at k8
      · rename_i a1 a2 D' a4 q2
        have e9 := of_decide_eq_true k8
        subst e9
        exact ⟨_, ⟨oc, od, n8, n9, n10, n11, n12, n13, n14, osl, cc, _, _, _, rfl, q, k1, k7, He.dflB_ok k3, He.kwdB_ok k5, q2⟩, kp⟩
      · cases k8
    | _ => cases c2
theorem obsOG_eq {n : Nat} {file : Str} {ck : List Ck} {df : List Df} {g : Addr → Option Obj} {s : Shared} (h : ∀ a, g a = s.heap.get? a) : obsOG n file ck df g = (hookO n file ck df).obs s := by
  have e : g = s.heap.get? := funext h
  rw [e] <;> rfl
section
variable {file : Str} {ck : List Ck} {df : List Df} {K : PySem.W.Frag}
theorem SaysO.fact (c : SaysO file ck df K) (i : Nat) {f : Ck} (h : ck[i]? = some f := by rfl) : f.ok K = true := by
  have c1 := (He.ba (show ((ck.all fun f => f.ok K) && df.all fun d => d.ok K file) = true from congrArg (fun z : AlO => z.1) c)).1
  exact List.all_eq_true.mp c1 f (List.mem_of_getElem? h)
theorem SaysO.def_ (c : SaysO file ck df K) (i : Nat) {d : Df} (h : df[i]? = some d := by rfl) (hc : d.clo = none := by rfl) : ∃ fd, FunD K d.name d.qual (defArgs d.st) (defBody d.st) (defScope d.st) (d.dvs K) (d.kws K) (d.at_.ad K) fd := by
  have c2 := (He.ba (show ((ck.all fun f => f.ok K) && df.all fun d => d.ok K file) = true from congrArg (fun z : AlO => z.1) c)).2
  have e : df.map (fun d => fnC K d.at_) = df.map Df.val := congrArg (fun z : AlO => z.2) c
  have e2 : (df.map fun d => fnC K d.at_)[i]? = (df.map Df.val)[i]? := by rw [e]
  rw [List.getElem?_map, List.getElem?_map, h] at e2
  exact Df.funD hc (Option.some.inj e2) (List.all_eq_true.mp c2 d (List.mem_of_getElem? h))
theorem SaysO.defS (c : SaysO file ck df K) (i : Nat) {d : Df} {D : Str} (h : df[i]? = some d := by rfl) (hc : d.clo = some D := by rfl) : ∃ fd, FunS K file d.name d.qual (defArgs d.st) (defBody d.st) (defScope d.st) (d.dvs K) (d.kws K) (He.ga K D) (d.at_.ad K) fd := by
  have c2 := (He.ba (show ((ck.all fun f => f.ok K) && df.all fun d => d.ok K file) = true from congrArg (fun z : AlO => z.1) c)).2
  have e : df.map (fun d => fnC K d.at_) = df.map Df.val := congrArg (fun z : AlO => z.2) c
  have e2 : (df.map fun d => fnC K d.at_)[i]? = (df.map Df.val)[i]? := by rw [e]
  rw [List.getElem?_map, List.getElem?_map, h] at e2
  exact Df.funS hc (Option.some.inj e2) (List.all_eq_true.mp c2 d (List.mem_of_getElem? h))
end
theorem law_spO {K : PySem.W.Frag} {G : Fn} {H : Hp} {a : Addr} {ns : List Int} {E : XK} {st : Stor} (hS : SqL K H a (ns.map V.int)) (hG : G [.py (.list (ns.map .int))] [] = some (.ok (.val (.py (.bool true))) st)) : spO K 1 G [.ref a] H (fun v _ => v = .bl true) E :=
  ⟨rfl, [], H, _, [], _, ⟨Same.refl _, rfl, List.nodup_nil, (fun a h => by cases h), (fun n a o e => by cases e)⟩, .cons (.py (.lst hS (dp_ints ns))) .nil, hG, fun v H' ρ' Hf' _ _ d => d.dp.bl_eq⟩
end Ob

namespace Ob
open PySem PySem.Spec PyProof.Rows L2 Fi
def dist (ns : List Int) : Nat := (PyProof.Rows.firstMet (fun i => ns.getD i 0) ns.length).length
def lenSet : D → Option D
  | .py (.list ps) => (getInts ps).bind fun ns => if ns.length ≤ 4000 then some (.py (.int (dist ns))) else none
  | _ => none
def eLenSet (f : F D) : F D := bnd f fun d => lft (lenSet d)
theorem g_lst {X : Cx} {pos : Pos} {es : List Expr} {k n : Nat} {sl : List Nat} {r : List D → En → Option En} (hc : X.calm = true) (h : PGs X es (tGs X.K sl r))
    (hn : (assignEach es X.env).length = n := by rfl) (hst : (assignEach es X.env).findIdx? (·.1) = none := by rfl) : PG X (.Tuple es k pos) (tG X.K sl (gLst n r)) := by
  refine pg_le (pg_lst hc h hn hst) fun v σ H Q ⟨Z, ρ, Hf, env, st, d, env', R, hd, hg, kk⟩ => ?_
  obtain ⟨ds, h1, h2⟩ := obind hg
  split at h2
  · rename_i hl
    obtain ⟨a, xs, rfl, hp, ha⟩ := hd.lst_of h1
    exact ⟨a, xs, rfl, R.ok.i.seq hp, by rw [ha.len]; exact hl, Z, ρ, Hf, env, st, ds, env', R, ha, h2, kk⟩
  · cases h2
def eChain (G G' : PyData → PyData → Option PyData) (f g h : F D) : F D := bnd f fun x => bnd g fun y => bnd (lft (op2 G x y)) fun r => bnd (lft (truD r)) fun b => if b then bnd h fun z => lft (op2 G' y z) else lft (some (.py (.bool false)))
section
variable {X : Cx} {W : WX} {a b c : Expr} {f g h : F D} {G G' : PyData → PyData → Option PyData} {pos : Pos}
theorem tChain_of {K : PySem.W.Frag} {σ : L2.St} {H : Hp} {Q : VK} (q : tE K W (eChain G G' f g h) σ H Q) : tChain (rD2 K G) (rD2 K G') (tE K W f) (tE K W g) (tE K W h) σ H Q := by
  obtain ⟨Z, ρ, Hf, env, st, o, R, e, k⟩ := q
  refine bind_at bE R e k fun x H1 ρ1 Hf1 s1 dx t1 r1 R1 e1 k1 => ?_
  refine bind_at bE R1 e1 k1 fun y H2 ρ2 Hf2 s2 dy t2 r2 R2 e2 k2 => ?_
  obtain ⟨r, h1, h2⟩ := bnd_lft e2
  obtain ⟨bb, h3, h4⟩ := bnd_lft h2
  obtain ⟨u, w, pp, rfl, rfl, h5, rfl⟩ := op2_some h1
  cases truD_some h3
  refine ⟨Hf2, u, w, _, R2.ok.i, (Dq.up t2.up r1).dp, Dq.dp r2, h5, fun v H3 Hf3 s3 d3 => ⟨bb, d3.bl_eq, ?_⟩⟩
  have R3 := R2.step (.of s3) (R2.ok.stp s3)
  have k3 := k2.step bE (.of s3)
  cases bb with
  | false =>
    obtain ⟨z, h6, rfl⟩ := lft_some (env := env) h4
    cases h6
    exact iteF (k3.now R3 (.py (.bl false)))
  | true =>
    refine iteT (bind_at bE R3 h4 k3 fun z H4 ρ4 Hf4 s4 dz t4 r4 R4 e4 k4 => ?_)
    obtain ⟨zz, h6, rfl⟩ := lft_some e4
    obtain ⟨u2, w2, p2, e7, rfl, h8, rfl⟩ := op2_some h6
    cases e7
    exact ⟨Hf4, w, w2, p2, R4.ok.i, Dp_up t4.up.f (Dp_up s3.f (Dq.dp r2)), Dq.dp r4, h8, fun v H' Hf' s d => k4.stp R4 s (.py d)⟩
theorem x_chain {op op' : CmpOp} (ho : OpD X (compareOp op) G) (ho' : OpD X (compareOp op') G') (ha : PE X a (tE X.K W f)) (hb : PE X b (tE X.K W g)) (hc : PE X c (tE X.K W h)) (hm : lastMarks [op, op'] [b, c] = false := by with_unfolding_all rfl) : PE X (.Compare a [op, op'] [b, c] pos) (tE X.K W (eChain G G' f g h)) := pe_le (pe_chain ho ho' ha hb hc hm) fun _ _ _ q => tChain_of q
theorem t_chain {op op' : CmpOp} (ho : OpD X (compareOp op) G) (ho' : OpD X (compareOp op') G') (ha : PE X a (tE X.K W f)) (hb : PE X b (tE X.K W g)) (hc : PE X c (tE X.K W h)) (hm : lastMarks [op, op'] [b, c] = false := by with_unfolding_all rfl) : PT X (.Compare a [op, op'] [b, c] pos) (tT X.K W (asB (eChain G G' f g h))) :=
  pt_le (pt_chain ho ho' ha hb hc hm) fun _ _ _ q => tTest_of (fun _ q => tChain_of q) q
end
end Ob

namespace Fi
open PySem PySem.Spec PyProof.Rows L2
section
variable {X : Cx} {tg e : Expr} {pos : Pos} {f : FE}
theorem x_glS {x z : Str} (hm : ∃ t, X.mg x = some (.str z t)) (hg : Gl X x := by rfl) (hdb : (x == ("__debug__" : Str)) = false := by decide) : PE X (.Name x pos) (tE X.K (eC (.str z))) := by
  obtain ⟨t, hm⟩ := hm
  refine ⟨fun pins s σ H Q I ⟨Z, Hf, env, d, R, hf, k⟩ => ?_⟩
  cases hf
  exact ld_glob I hg hm ⟨.str z, H, I, ⟨t, rfl⟩, k _ H Hf (.refl R.st.i) (.str z)⟩ hdb
def signs (z : Str) : List PyData := z.cps.toList.map fun c => .str ⟨#[c]⟩
def iS (f : FE) : FL := fun env => match f env with
  | some (.str z) => some (signs z)
  | _ => none
theorem i_str (he : PE X e (tE X.K f)) : PI X tg e (tI X.K (iS f)) := pi_le (pi_str he) fun σ H R ⟨Z, Hf, env, ds, Rl, hf, k⟩ => by
  unfold iS at hf
  split at hf
  · rename_i z hl
    cases hf
    refine ⟨Z, Hf, env, _, Rl, hl, fun v H1 Hf1 s1 d1 => ⟨z, d1.str_eq, k _ H1 Hf1 s1 ?_⟩⟩
    show Walk (Its z) (signs z).length _ _
    have e : (signs z).length = z.cps.size := by unfold signs; rw [List.length_map, Array.length_toList]
    rw [e]
    refine walk_str.mono (fun _ _ => trivial) fun i H x H' _ _ y => ?_
    obtain ⟨h1, c, h2, rfl⟩ := y
    refine ⟨.str ⟨#[c]⟩, ?_, .inl ⟨h1, .str _⟩⟩
    unfold signs
    rw [List.getElem?_map, Array.getElem?_toList, h2]
    rfl
  · cases hf
def fInS : PyData → PyData → Option PyData
  | .str s, .str z => match s.cps.toList with
    | [c] => some (.bool (decide (c ∈ z.cps.toList)))
    | _ => none
  | _, _ => none
theorem od_inS : OpD X (compareOp .In) fInS := by
  intro pins s σ H x y v u Q I rx ry ⟨Hf, dx, dy, dz, hi, hx, hy, hF, k⟩
  unfold fInS at hF
  split at hF
  · rename_i a z
    split at hF
    · rename_i c hc
      cases hF
      cases hx.str_eq
      cases hy.str_eq
      have ea : a = ⟨#[c]⟩ := by
        obtain ⟨cps⟩ := a
        have : cps = #[c] := by
          apply Array.toList_inj.mp
          exact hc
        rw [this]
      subst ea
      exact op_in_sign pins s σ H _ _ v u Q I rx ry ⟨c, z, rfl, rfl, k _ H Hf (.refl hi) (.bl _)⟩
    · cases hF
  · cases hF
def fLenS : List PyData → Option PyData
  | [.str z] => if z.length ≤ 100000 then some (.int z.length) else none
  | _ => none
theorem cd_lenS : CallD X (.builtin "len") fLenS := by
  intro pins s σ H xs us Q I r ⟨Hf, ds, dz, hi, hd, hf, k⟩
  unfold fLenS at hf
  split at hf
  · rename_i z
    split at hf
    · rename_i hl
      cases hf
      obtain ⟨v, rfl, hv⟩ := hd.one
      cases hv.str_eq
      exact call_len_str pins s σ H _ us Q I r ⟨z, rfl, Nat.le_trans hl (by decide), k _ _ _ (.refl hi) (.int _)⟩
    · cases hf
  · cases hf
end
end Fi

namespace Ob
open PySem PySem.Spec PyProof.Rows L2 Fi
section
variable {P : Program} {w : World} {K : PySem.W.Frag} {mg : Str → Option Value} {base : Heap} {j k n : Nat} {c C Dn m : Str} {G : Fn} {T : Tab}
theorem met_of (h1 : (Ck.fa (.cls c)).ok K = true) (h2 : (Ck.fa (.meth c m)).ok K = true) (h3 : samB K c m C = true) (F : Cal P w K mg base j (Lo.ad K (.m C m)) (spO K (n + 1) G)) (hk : j ≤ k := by decide) : Met P w K mg base k m n c G :=
  ⟨He.cls_ok h1, _, He.meth_ok h2, by rw [of_decide_eq_true h3]; exact F.mono hk⟩
theorem mets_nil : Mets P w K mg base k m n [] := fun _ h => by cases h
theorem mets_cons (h : Met P w K mg base k m n c G) (t : Mets P w K mg base k m n T) : Mets P w K mg base k m n ((c, G) :: T) := fun p hp => by
  rcases List.mem_cons.mp hp with e | hp
  · rw [e]; exact h
  · exact t p hp
theorem prp_of (h1 : (Ck.fa (.cls c)).ok K = true) (h2 : (Ck.prop c m).ok K = true) (h3 : samB K c m C = true) (F : Cal P w K mg base j (Lo.ad K (.p C m)) (spO K 1 G)) (hk : j ≤ k := by decide) : Prp P w K mg base k m c G := by
  have e : He.ma K (He.ga K c) m = He.ma K (He.ga K C) m := of_decide_eq_true h3
  have hp := prop_of h2
  refine ⟨He.cls_ok h1, _, _, hp, ?_⟩
  have e2 : Lo.ad K (.p c m) = Lo.ad K (.p C m) := by
    show recAt K (He.ma K (He.ga K c) m) "property" 0 = recAt K (He.ma K (He.ga K C) m) "property" 0
    rw [e]
  rw [e2]
  exact F.mono hk
theorem prps_nil : Prps P w K mg base k m [] := fun _ h => by cases h
theorem prps_cons (h : Prp P w K mg base k m c G) (t : Prps P w K mg base k m T) : Prps P w K mg base k m ((c, G) :: T) := fun p hp => by
  rcases List.mem_cons.mp hp with e | hp
  · rw [e]; exact h
  · exact t p hp
theorem supm_of (h1 : (Ck.sup c Dn m).ok K = true) (h2 : spsB K c Dn m C = true) (F : Cal P w K mg base j (Lo.ad K (.m C m)) (spO K (n + 1) G)) (hk : j ≤ k := by decide) : SupM P w K mg base k (He.ga K Dn) m n c G := by
  obtain ⟨a1, a2, a3, a4, _⟩ := sup_of h1
  have e : supAd K c Dn m = He.ma K (He.ga K C) m := of_decide_eq_true h2
  exact ⟨a1, _, a2, a3, a4, by rw [e]; exact F.mono hk⟩
theorem supms_nil {Dc : Addr} : SupMs P w K mg base k Dc m n [] := fun _ h => by cases h
theorem supms_cons {Dc : Addr} (h : SupM P w K mg base k Dc m n c G) (t : SupMs P w K mg base k Dc m n T) : SupMs P w K mg base k Dc m n ((c, G) :: T) := fun p hp => by
  rcases List.mem_cons.mp hp with e | hp
  · rw [e]; exact h
  · exact t p hp
theorem supk_of {mr : Mr} (h1 : (Ck.sup c Dn m).ok K = true) (h2 : spsB K c Dn m C = true) (F : CalK P w K mg base j (Lo.ad K (.m C m)) (n + 1) mr.ks (spO K (n + mr.list.length + 1) G)) (hk : j ≤ k := by decide) : SupMK P w K mg base k (He.ga K Dn) m n mr c G := by
  obtain ⟨a1, a2, a3, a4, _⟩ := sup_of h1
  have e : supAd K c Dn m = He.ma K (He.ga K C) m := of_decide_eq_true h2
  exact ⟨a1, _, a2, a3, a4, by rw [e]; exact F.mono hk⟩
theorem supks_nil {Dc : Addr} {mr : Mr} : SupMKs P w K mg base k Dc m n mr [] := fun _ h => by cases h
theorem supks_cons {Dc : Addr} {mr : Mr} (h : SupMK P w K mg base k Dc m n mr c G) (t : SupMKs P w K mg base k Dc m n mr T) : SupMKs P w K mg base k Dc m n mr ((c, G) :: T) := fun p hp => by
  rcases List.mem_cons.mp hp with e | hp
  · rw [e]; exact h
  · exact t p hp
theorem mkr_of (g : mg c = some (.ref (He.ga K c))) (h2 : (Ck.fa (.mkr c)).ok K = true) (h3 : samB K c "__init__" C = true) (F : Cal P w K mg base j (Lo.ad K (.m C "__init__")) (spO K (n + 1) G)) (hk : j ≤ k := by decide) : Mkr P w K mg base k c n G :=
  ⟨g, _, He.mkr_ok h2, by rw [of_decide_eq_true h3]; exact F.mono hk⟩
theorem mkrK_of {ks : List Str} (g : mg c = some (.ref (He.ga K c))) (h2 : (Ck.fa (.mkr c)).ok K = true) (h3 : samB K c "__init__" C = true) (F : CalK P w K mg base j (Lo.ad K (.m C "__init__")) (n + 1) ks (spO K (n + ks.length + 1) G)) (hk : j ≤ k := by decide) : MkrK P w K mg base k c n ks G :=
  ⟨g, _, He.mkr_ok h2, by rw [of_decide_eq_true h3]; exact F.mono hk⟩
theorem noa_of {cs : List Str} (h : ∀ c ∈ cs, (Ck.fa (.cls c)).ok K = true ∧ (Ck.fa (.noat c m)).ok K = true) : NoA K cs m := fun c hc => ⟨He.cls_ok (h c hc).1, He.noat_ok (h c hc).2⟩
theorem err_of {X : Heap} (g : mg c = some (.ref (He.ga K c))) (h : (Ck.fa (.exc c)).ok K = true) : Err K mg c := ⟨g, He.exc_ok h⟩
theorem all_nil {α : Type} {p : α → Prop} : ∀ c ∈ ([] : List α), p c := fun _ h => by cases h
theorem all_cons {α : Type} {p : α → Prop} {a : α} {l : List α} (h : p a) (t : ∀ c ∈ l, p c) : ∀ c ∈ a :: l, p c := fun c hc => by
  rcases List.mem_cons.mp hc with e | hc
  · rw [e]; exact h
  · exact t c hc
theorem calK_fn {f : Addr} {fd : FuncData} {ps ks : List Str} {sp : Sp} {g : List Value → List Value → List Value} {gV : List V → List V → List V} (F : FnOk P w K mg base (L2N.CX P w) k f fd ps sp) (hb : KBn K fd ps n ks g gV) (hg : ∀ vs zs, gV vs zs = vs ++ zs) : CalK P w K mg base k f n ks sp := fun A outer s H us ws vs zs Q E hr e0 r rz l1 l2 h => by
  have r2 := hb.rel r rz
  rw [hg] at r2
  exact F.run A outer s H ⟨us, ks.zip ws⟩ (g us ws) (vs ++ zs) Q E hr e0 (hb.to s us ws (e0.mod.kin.keeps fun b o e => (e0.bs b o e).1) (by rw [← r.length]; exact l1) (by rw [← rz.length]; exact l2)) r2 h
variable {file x qual : Str} {params : Arguments} {body : List Stmt} {scope : Scope} {dvs : List V} {kws : List (Str × V)} {Dc f : Addr} {fd : FuncData} {ps : List Str}
/-- all is given: n values and the keywords ks -/
theorem FunS.kb (F : FunS K file x qual params body scope dvs kws Dc f fd) (n : Nat) (ks : List Str) (hd : dvs ≠ [])
    (h : ∀ (T : Addr) (kV doc pm : Value) (an : Option Addr) (cdv ct : Value) (us its ws : List Value), us.length = n → its.length = dvs.length → ws.length = ks.length →
      ∃ k, bindArgs (PySem.W.fnOf x qual params body scope (.ref T) kV doc pm an cdv ct) ⟨us, ks.zip ws⟩ = seqItems? (.ref T) >>= k ∧ k (some its.toArray) = pure (ps.zip (us ++ ws))) : KBn K fd ps n ks (fun us ws => us ++ ws) (fun vs zs => vs ++ zs) := by
  obtain ⟨oc, od, dV, kV, doc, pm, an, cdv, ct, osl, cc, cl, cld, csl, rfl, lk, hcd, hfl, hD, hK, hc⟩ := F.ex
  rcases hD with ⟨e, _⟩ | ⟨_, T, o, its, m, rfl, lT, oT, rT⟩
  · exact absurd e hd
  · refine ⟨fun s us ws X l1 l2 => ?_, fun r1 r2 => r1.append r2⟩
    obtain ⟨k, e1, e2⟩ := h T kV doc pm an cdv ct us its ws l1 rT.length.symm l2
    refine BindsTo.of_looks fun M => ?_
    have e3 : bindArgs (PySem.W.ksFn x qual params body scope (.ref T) kV doc pm an cdv ct cc) ⟨us, ks.zip ws⟩ = seqItems? (.ref T) >>= k := e1
    rw [e3]
    exact looks_items X lT oT (.of_pure e2)
/-- without keyword-only defaults being asked: all given positionally -/
theorem FunD.bindsP {x qual : Str} {dvs : List V} {kws : List (Str × V)} (F : FunD K x qual params body scope dvs kws f fd) (hd : dvs ≠ [])
    (h : ∀ (T : Addr) (kV doc pm : Value) (an : Option Addr) (cdv ct : Value) (us its : List Value), us.length = ps.length → its.length = dvs.length →
      ∃ k, bindArgs (PySem.W.fnOf x qual params body scope (.ref T) kV doc pm an cdv ct) ⟨us, []⟩ = seqItems? (.ref T) >>= k ∧ k (some its.toArray) = pure (ps.zip us)) : Binds K fd ps [] := by
  obtain ⟨oc, od, dV, kV, doc, pm, an, cdv, ct, osl, rfl, lk, hcd, hD, hK⟩ := F.ex
  rcases hD with ⟨e, _⟩ | ⟨_, T, o, its, m, rfl, lT, oT, rT⟩
  · exact absurd e hd
  · intro s us X hlen
    rw [List.append_nil] at hlen ⊢
    obtain ⟨k, e1, e2⟩ := h T kV doc pm an cdv ct us its hlen rT.length.symm
    refine BindsTo.of_looks fun M => ?_
    rw [e1]
    exact looks_items X lT oT (.of_pure e2)
end
end Ob

namespace Ob
open PySem PySem.Spec PyProof.Rows L2 Fi
theorem pure_ok {P : Program} {w : World} {K : PySem.W.Frag} {mg : Str → Option Value} {base : Heap} {x qual : Str} {params : Arguments} {body : List Stmt} {scope : Scope} {dvs : List V} {kws : List (Str × V)} {f : Addr} {fd : FuncData} {N ps : List Str} {b : Fi.FS} {n np k : Nat}
    (hF : FunD K x qual params body scope dvs kws f fd) (S : FnScope N ps scope) (hn : N.length = n) (hp : ps.length = np)
    (hb : ∀ (cdv : Value) (A : Around) (outer : List Env) (s : Shared) (H : Hp) (E : XK), Room k (A.deeper (envOfC qual scope s.heap.objs.size f cdv)) → PSs (cxOf CX0 P w K mg base N qual scope f cdv A outer s H E).nox body (Fi.tS K b)) :
    FnOk P w K mg base CX0 (k + 1) f fd ps (spD K np (fnD n b)) := by
  refine hF.ok S (fun vs H Q E h => ?_) (fun cdv A outer s H vs Q E hr h => ?_)
  · rw [h.1, hp]
  · obtain ⟨t, h1, h2⟩ := Fi.body_ok (X := (cxOf CX0 P w K mg base N qual scope f cdv A outer s H E).nox) hn (hb cdv A outer s H E hr) h
    exact ⟨t, h1.nox, h2⟩
section
variable {X : Cx} {W : WX} {a b : Expr} {f g : F D} {pos : Pos}
theorem x_ix (ha : PE X a (tE X.K W f)) (hb : PE X b (tE X.K W g)) (hs : PlainIx b) : PE X (.Subscript a b pos) (tE X.K W (e2 fIx f g)) :=
  pe_le (pe_ix od_ix ha hb hs) fun _ _ _ q => tOp_of q
end
theorem takesN {X : Cx} : L2N.Takes X (fun _ _ _ _ => False) := fun _ _ x => by
  obtain ⟨_, _, _, _, _, _, _, _, _, _, _, _, _, _, _, _, z⟩ := x
  exact z.elim
/-- what never raises, told without exceptions -/
def spNo (sp : Sp) : Sp := fun vs H Q _ => sp vs H Q fun _ _ _ => False
theorem no_exc {P : Program} {w : World} {K : PySem.W.Frag} {mg : Str → Option Value} {base : Heap} {k : Nat} {f : Addr} {fd : FuncData} {ps : List Str} {sp : Sp} (F : FnOk P w K mg base (L2N.CX P w) k f fd ps sp) : FnOk P w K mg base CX0 k f fd ps (spNo sp) :=
  ⟨fun vs H Q E h => F.len vs H Q _ h, fun A outer s H args us vs Q E hr e0 hb rv h => codeAny_mono (F.run A outer s H args us vs Q (fun _ _ _ => False) hr e0 hb rv h) fun r s' q => by
    cases r with
    | error e =>
      obtain ⟨_, _, _, _, _, _, _, _, _, _, _, _, z⟩ := q
      exact z.elim
    | ok fl => cases fl <;> exact q⟩
end Ob

namespace Ob
open PySem PySem.Spec PyProof.Rows L2 Fi
section
variable {X : Cx} {W : WX} {a b e o value : Expr} {es : List Expr} {f g h : F D} {r : F (List D)} {pos pos' : Pos}
def eNew (r : F (List D)) : F D := bnd r fun ds _ st => if ds.length ≤ 100000 then some (.ok (.obj st.length) (st ++ [.lst ds])) else none
def stL (d : D) (st : Stor) : Option (Nat × List D) := match d with
  | .obj n => match st[n]? with
    | some (.lst l) => some (n, l)
    | _ => none
  | _ => none
def eIxO (f g : F D) : F D := bnd f fun x => bnd g fun y _ st => match y with
  | .py (.int i) => (stL x st).bind fun q => (atI q.2 i).map (.ok · st)
  | _ => none
/-- o[i] = value -/
def sIx (v o i : F D) : FS := sE v fun y => sE o fun d => sE i fun k env st => match k with
  | .py (.int k) => (stL d st).bind fun q => (ixN q.2.length k).map fun j => .next env (st.set q.1 (.lst (q.2.set j y)))
  | _ => none
/-- a, b, .. = a list of the store -/
def sUnp (n : Nat) (r : List D → En → Option En) (f : F D) : FS := sE f fun d env st => (stL d st).bind fun q => if q.2.length = n then (r q.2 env).map (.next · st) else none
structure PSt (P : Program) (w : World) (K : PySem.W.Frag) (mg : Str → Option Value) (base : Heap) (k : Nat) (m : Str) (c : Str) (G : Fn) : Prop where
  cls : Cls K (He.ga K c)
  ex : ∃ (p fs : Addr) (a : Value) (rest : List Value), PySem.W.takerIn K (He.ga K c) m = some (some (.ref p)) ∧ PySem.W.typeIn K (.ref p) = some (.type "property") ∧ PySem.W.recIn K p "property" = some (a :: .ref fs :: rest) ∧ Cal P w K mg base k fs (spO K 2 G)
def PSts (P : Program) (w : World) (K : PySem.W.Frag) (mg : Str → Option Value) (base : Heap) (k : Nat) (m : Str) (T : Tab) : Prop := ∀ p ∈ T, PSt P w K mg base k m p.1 p.2
def sProp (T : Tab) (v o : F D) : FS := sE v fun y => sE o fun d env st => match pickP T d st with
  | some G => (match G [d, y] st with
    | some (.ok (.val _) s) => some (.next env s)
    | some (.err c s) => some (.exc c env s)
    | _ => none)
  | none => none
end
end Ob

namespace Ht
open PySem PySem.Spec PyProof.Rows L2 HotX
section
variable {prog : Program} {w : World} {A : Around} {E : Value → Shared → Prop} {s : Shared}
theorem mf_cls (o : Obj) (f : Array Value → Array Value) : (Obj.mapFields f o).cls = o.cls := by
  unfold Obj.mapFields
  split <;> rfl
theorem raiseG {α : Type} {a : Addr} {oe : Obj} {vs : Array Value} {Q : α → Shared → Prop} (lv : Lv A s.heap) (hne : ∀ x1, A.handled = some (.ref x1) → x1 ≠ a) (ha : s.heap.get? a = some oe) (da : oe.data = .fields vs) (hi : 2 < vs.size)
    (hE : ∀ h', Heap.SameBut a s.heap h' → (∃ o, h'.get? a = some o ∧ o.cls = oe.cls) → E (.ref a) { s with heap := h' }) : wpAny (model prog w) A (raiseNew (.ref a) : Sem α) Q E s := by
  rcases lv with q | ⟨x1, hot⟩
  · simp only [raiseNew]
    refine wpAny_bind (wpAny_handled ?_)
    rw [q]
    exact wpAny_bind (wpAny_pure (wpAny_throw (hE s.heap ⟨rfl, fun _ _ => rfl⟩ ⟨_, ha, rfl⟩)))
  · refine raiseNew_hot hot (hne _ hot.1) ha da hi (hE _ (Heap.SameBut.update ..) ⟨_, Heap.get?_update_self _ ha (by obtain ⟨c, d, da', sl⟩ := oe; simp only at da; subst da; rfl), mf_cls oe _⟩)
end
end Ht

namespace Ht
open PySem PySem.Spec PyProof.Rows L2 HotX
abbrev Hot1 := @L2H.Hot1
structure TurnG (P : Program) (w : World) (K : PySem.W.Frag) (tg : Expr) (J : It) (fp : List Addr) (it : Addr) (tn : Nat → Heap → Prop) : Prop where
  mem : it ∈ fp
  obj : ∀ i h, tn i h → ∀ b ∈ fp, ∃ o, h.get? b = some o ∧ ∀ v, o.data ≠ .cell v
  keep : ∀ i h h', tn i h → (∀ b ∈ fp, ∀ o, h.get? b = some o → h'.get? b = some o) → tn i h'
  item : ∀ (X : Cx), X.prog = P → X.w = w → X.K = K → ∀ (i : Nat) (pins : List (Addr × Obj)) (s : Shared) (σ : L2.St) (H : Hp) (E : Value → Shared → Prop), Inv X pins σ H s → (∀ b ∈ fp, FpOk X pins H b) → tn i s.heap → J.go i H →
    wpAny (model P w) X.A (pyNext (.ref it)) (fun r s1 => ∃ u, r = some u ∧
      wpAny (model P w) X.A (letOwnedTupleGo tg (.ref it) u) (fun _ s2 => ∃ x H', Inv X pins σ H' s2 ∧ RelV x u ∧ J.yld i H x H' ∧ tn (i + 1) s2.heap ∧ ∀ b ∈ fp, H' b = none) E s1) E s
  done : ∀ (X : Cx), X.prog = P → X.w = w → X.K = K → ∀ (i : Nat) (pins : List (Addr × Obj)) (s : Shared) (σ : L2.St) (H : Hp) (E : Value → Shared → Prop), Inv X pins σ H s → (∀ b ∈ fp, FpOk X pins H b) → Lv X.A s.heap → (∀ x1, X.A.handled = some (.ref x1) → x1 ∉ fp) → tn i s.heap → J.stop i H →
    wpAny (model P w) X.A (pyNext (.ref it)) (fun r s1 => r = none ∧ Inv X pins σ H s1) E s
  self : ∀ (A : Around) (i : Nat) (s : Shared) (Q : Value → Shared → Prop) (E : Value → Shared → Prop), tn i s.heap → Q (.ref it) s → wpAny (model P w) A (pyIter (.ref it)) Q E s
def PIEG (X : Cx) (pins : List (Addr × Obj)) (σ : L2.St) (tg : Expr) (R : It → Hp → Prop) (itv : Value) (s2 : Shared) : Prop :=
  ∃ (it : Addr) (fp : List Addr) (tn : Nat → Heap → Prop) (J : It) (H' : Hp), itv = .ref it ∧ Inv X pins σ H' s2 ∧ TurnG X.prog X.w X.K tg J fp it tn ∧ tn 0 s2.heap ∧ (∀ b ∈ fp, FpOk X pins H' b) ∧ R J H'
structure PIG (X : Cx) (tg iter : Expr) (wi : TI) : Prop where
  run : ∀ (pins : List (Addr × Obj)) (s : Shared) (σ : L2.St) (H : Hp) (R : It → Hp → Prop), Inv X pins σ H s → wi σ H R →
    wpAny (model X.prog X.w) X.A (eval iter X.env) (fun v s1 => wpAny (model X.prog X.w) X.A (pyIter v) (PIEG X pins σ tg R) X.xe s1) X.xe s
/-- a comprehension's block, the exception handled pinned -/
abbrev blkH (X : Cx) (p : Addr × Obj) (s : Shared) (H : Hp) (scope : Scope) (cenv : Env) (fp : List Addr) : Cx := { X.blk s H scope cenv fp with pn := [p] }
section
variable {X : Cx}
theorem hot_at {A : Around} {p : Addr × Obj} {x1 : Addr} (hc : Hot1 A p) (hh : A.handled = some (.ref x1)) : p.1 = x1 := by
  have z := hc.1
  rw [hh] at z
  cases z
  rfl
theorem lv_of {Y : Cx} {p : Addr × Obj} {σ : L2.St} {H : Hp} {s : Shared} (hc : Hot1 Y.A p) (hpn : p ∈ Y.pn) {pins : List (Addr × Obj)} (I : Inv Y pins σ H s) : Lv Y.A s.heap := by
  obtain ⟨h1, vs, h2, h3⟩ := hc
  exact .inr ⟨p.1, h1, p.2, vs, (I.pin p (List.mem_append_left _ hpn)).1, h2, h3⟩
theorem pin_one {Y : Cx} {p : Addr × Obj} {pins : List (Addr × Obj)} {σ σ' : L2.St} {H : Hp} {s s' : Shared} (I4 : Inv Y [] σ' H s') (hpn : p ∈ X.pn) (I3 : Inv X pins σ H s) (k : ∀ b o, s.heap.get? b = some o → s'.heap.get? b = some o) (hl : Y.env.locals = s.heap.objs.size := by rfl) (hfs : Y.outer = X.stack := by rfl) : Inv { Y with pn := [p] } [] σ' H s' where
  ok := ⟨I4.ok.mod, I4.ok.kind, I4.ok.glob, I4.ok.blt, I4.ok.above, I4.ok.inj, I4.ok.has, I4.ok.cab, I4.ok.hd, I4.ok.frames, I4.ok.stk, I4.ok.exf, I4.ok.bs, I4.ok.bsz, I4.ok.noex, I4.ok.exfs, I4.ok.funs, I4.ok.frf⟩
  os := I4.os
  bare := I4.bare
  base := I4.base
  loc := I4.loc
  cell := I4.cell
  free := I4.free
  freeC := I4.freeC
  pin := fun q hq => by
    cases List.mem_singleton.mp (show q ∈ [p] from by simpa using hq)
    obtain ⟨a1, a2, a3, a4, a5⟩ := I3.pin p (List.mem_append_left _ hpn)
    exact ⟨k _ _ a1, a2, by rw [hl]; exact Nat.ne_of_lt (Heap.lt_size a1), fun z => by
      unfold Cx.fs at z
      rw [hfs] at z
      rcases List.mem_cons.mp (I3.stkSub _ z) with e | e
      · exact a3 e
      · exact a4 e, a5⟩
  hok := I4.hok
  len := I4.len
theorem lc_coreH {p : Addr × Obj} {pins : List (Addr × Obj)} {s : Shared} {σ : L2.St} {H : Hp} {Q : VK} {elt tg iter : Expr} {ifs : List Expr} {scope : Scope} {own : List (Str × Nat)} {pos pos' : Pos} {wi : TI} {g : TG} {tt : TT} {te : TE} {use : Option (Value → Sem Unit)} {Qf : Value → Shared → Prop}
    (hc : Hot1 X.A p) (hpn : p ∈ X.pn) (hN : X.N.Nodup) (I : Inv X pins σ H s) (hi : PIG X tg iter wi) (ok : BlkOk X.N X.env.scope scope own)
    (hg : ∀ (s : Shared) (H : Hp) (C : Addr) (cl : List (Str × Addr)) (fp : List Addr), PG (blkH X p s H scope (compEnvC scope cl C X.env) fp) tg g) (ht : ∀ (s : Shared) (H : Hp) (C : Addr) (cl : List (Str × Addr)) (fp : List Addr), PTs (blkH X p s H scope (compEnvC scope cl C X.env) fp) ifs tt)
    (he : ∀ (s : Shared) (H : Hp) (C : Addr) (cl : List (Str × Addr)) (fp : List Addr), PE (blkH X p s H scope (compEnvC scope cl C X.env) fp) elt te) (hs : ∀ x, foldedSetIterable iter X.env x = pure x)
    (h : tLc wi g tt te (own.map (·.2)) σ H Q)
    (hRR : ∀ D C s' m H', Inv X pins σ H' s' → Q (.ref D) H' → s'.heap.Ns C m → FpOk X pins H' C → compPost (model X.prog X.w) X.A X.xe use Qf (.ref D) C (.ok .next) s') :
    wpAny (model X.prog X.w) X.A (comprehension (.ListComp elt [⟨tg, iter, ifs, 0⟩] scope pos) scope X.env pos' (newList []) false (eval iter X.env) use) Qf X.xe s := by
  have hfree : ∀ y ∈ scope.names, y.2 = .free → ∃ c, X.env.cells.lookup y.1 = some c := fun y hy e => by
    rcases ok.free y hy e with k | k
    · exact I.ok.has _ (.inl k)
    · exact I.ok.has _ (.inr k)
  refine wpAny_comprehension_free (use := use) rfl hs (closure_ok hfree) ok.kind (fun y hy e => by rw [ok.uniq y hy, e])
    (thn (hi.run pins s σ H _ I h) fun xv s1 hx => thn hx fun itv s2 h2 => ?_)
  obtain ⟨it, fp, tn, J, H2, e, I2, T, st2, f2, q⟩ := h2
  subst e
  refine wpAny_newObj_type (newEnv_comp ?_) (by show 0 ≤ sizeLine; decide)
  generalize hD : s2.heap.objs.size = D
  have hDn : H2 D = none := I2.hok.fresh (Nat.le_of_eq hD)
  obtain ⟨W, ⟨m0, w0⟩, turn⟩ := q D hDn
  -- the new list
  generalize hs3 : ({ s2 with heap := s2.heap.push { cls := .type "list", data := .seq ([] : List Value).toArray } } : Shared) = s3
  have I3 : Inv X pins σ (upd H2 D (.lst [])) s3 := by
    rw [← hs3]
    refine I2.laid (t' := s2.toks) (fun b o e => Heap.get?_push_of_some _ e) (Nat.le_of_eq hD) ⟨Nat.zero_le _, [], 0, .nil, ?_⟩
    rw [← hD]
    exact Heap.get?_push_size _ rfl
  have h3 : s3.heap = s2.heap.push { cls := .type "list", data := .seq ([] : List Value).toArray } := by rw [← hs3]
  have sz : ∀ b ∈ fp, b < s2.heap.objs.size := fun b hb => by
    obtain ⟨o, e, _⟩ := T.obj _ _ st2 b hb
    exact Heap.lt_size e
  have f3 : ∀ b ∈ fp, FpOk X pins (upd H2 D (.lst [])) b ∧ b < s3.heap.objs.size := fun b hb => by
    have hlt := sz b hb
    refine ⟨⟨?_, (f2 b hb).2⟩, by rw [h3, Heap.size_push]; exact Nat.lt_succ_of_lt hlt⟩
    rw [upd_ne (by rw [← hD]; exact Nat.ne_of_lt hlt)]
    exact (f2 b hb).1
  have st3 : tn 0 s3.heap := T.keep _ _ _ st2 fun b _ o e => by rw [h3]; exact Heap.get?_push_of_some _ e
  have I4 := pin_one (p := p) (block_start I3 ok hN f3) hpn I3 (fun b o e => pushCells_keeps _ _ _ _ (Heap.get?_push_of_some _ e))
  have pg := hg s3 (upd H2 D (.lst [])) s3.heap.objs.size (cellsFrom (s3.heap.objs.size + 1) scope.names (cloFrom X.env.cells scope.names [])) fp
  have pt := ht s3 (upd H2 D (.lst [])) s3.heap.objs.size (cellsFrom (s3.heap.objs.size + 1) scope.names (cloFrom X.env.cells scope.names [])) fp
  have pe := he s3 (upd H2 D (.lst [])) s3.heap.objs.size (cellsFrom (s3.heap.objs.size + 1) scope.names (cloFrom X.env.cells scope.names [])) fp
  show codeAny _ _ (.compStart (.ListComp elt [⟨tg, iter, ifs, 0⟩] scope pos) 0 (.ref it) (.ref D) (compEnvC scope (cellsFrom (s3.heap.objs.size + 1) scope.names (cloFrom X.env.cells scope.names [])) s3.heap.objs.size X.env)) (compPost (model X.prog X.w) X.A X.xe use Qf (.ref D) s3.heap.objs.size) { s3 with heap := pushCells (s3.heap.push { cls := .type "dict", data := .dict #[] }) scope.names }
  have nfp : ∀ b ∈ fp, (upd H2 D (.lst [])) b = none := fun b hb => (f3 b hb).1.1
  generalize hce : compEnvC scope (cellsFrom (s3.heap.objs.size + 1) scope.names (cloFrom X.env.cells scope.names [])) s3.heap.objs.size X.env = ce at I4 pg pt pe ⊢
  have cL : ce.locals = s3.heap.objs.size := by subst hce; rfl
  generalize hH3 : upd H2 D (.lst []) = H3 at I3 I4 pg pt pe w0 nfp f3
  generalize hs4 : ({ s3 with heap := pushCells (s3.heap.push { cls := .type "dict", data := .dict #[] }) scope.names } : Shared) = s4 at I4 ⊢
  have st4 : tn 0 s4.heap := T.keep _ _ _ st3 fun b _ o e => by rw [← hs4]; exact pushCells_keeps _ _ _ _ (Heap.get?_push_of_some _ e)
  have stat : ∀ {σ' : L2.St} {H' : Hp} {s' : Shared}, Inv (blkH X p s3 H3 scope ce fp) [] σ' H' s' → (∀ b ∈ fp, H' b = none) → ∀ b ∈ fp, FpOk (blkH X p s3 H3 scope ce fp) [] H' b := fun {σ' H' s'} I' hn b hb =>
    ⟨hn b hb, (I'.ok.exf b hb).1, I'.ok.exfs b hb, .inl hb, fun x c e => (I'.ok.exf b hb).2 x c e, fun q hq => by
      cases List.mem_singleton.mp (show q ∈ [p] ++ [] from hq)
      exact (f3 b hb).1.2.2.2.2.2 p (List.mem_append_left _ hpn)⟩
  have loop : codeAny (model X.prog X.w) X.A (.compLoop (.ListComp elt [⟨tg, iter, ifs, 0⟩] scope pos) 0 (.ref it) (.ref D) ce) (compPost (model X.prog X.w) X.A X.xe use Qf (.ref D) s3.heap.objs.size) s4 := by
    refine compLoop_any (fun n s' => ∃ i H', Inv (blkH X p s3 H3 scope ce fp) [] (wipe σ (own.map (·.2))) H' s' ∧ tn i s'.heap ∧ (∀ b ∈ fp, H' b = none) ∧ W i n H') ?_ m0 ⟨0, H3, I4, st4, nfp, w0⟩
    rintro n s5 ⟨i, H5, I5, st5, n5, w5⟩
    rcases turn i n H5 w5 with ⟨stop, qq⟩ | ⟨go, Nx, hNx, step⟩
    · have td := T.done (blkH X p s3 H3 scope ce fp) rfl rfl rfl i [] s5 _ H5 (fun _ _ => False) I5 (stat I5 n5) (lv_of (Y := blkH X p s3 H3 scope ce fp) hc (List.mem_singleton.mpr rfl) I5) (fun x1 hh hx => (f3 x1 hx).1.2.2.2.2.2 p (List.mem_append_left _ hpn) (hot_at hc hh)) st5 stop
      refine thnF td fun r s6 ⟨hr, I6⟩ => ?_
      subst hr
      -- back in the def's context
      have I7 : Inv X pins σ H5 s6 := I3.call' (ch := fp) I6.os I6.base I6.hok I6.bare fun b hb => ⟨(f3 b hb).1.2.2.2.1, (f3 b hb).1.2.1, (f3 b hb).1.2.2.2.2.1, (f3 b hb).1.2.2.2.2.2⟩
      have nC : H5 s3.heap.objs.size = none := by
        have z : H5 ce.locals = none := I6.free
        rw [cL] at z
        exact z
      obtain ⟨m, hn, _⟩ := I6.loc
      have hn : s6.heap.Ns ce.locals m := hn
      rw [cL] at hn
      exact hRR D s3.heap.objs.size s6 m H5 I7 qq hn (I3.fpOk (Nat.le_refl _) nC)
    · have ti := T.item (blkH X p s3 H3 scope ce fp) rfl rfl rfl i [] s5 _ H5 (fun _ _ => False) I5 (stat I5 n5) st5 go
      refine thnF ti fun r s6 ⟨u, hr, h6⟩ => ?_
      subst hr
      refine thnF h6 fun _ s7 ⟨x, H7, I7, r7, y7, st7, n7⟩ => ?_
      have I7' := I7.pinned (stat I7 n7) (T.obj _ _ st7)
      refine thnF (pg.run _ s7 _ H7 x u _ I7' r7 (step x H7 y7)) fun _ s8 ⟨σ8, H8, I8, hw8, q8⟩ => ?_
      refine thnF (pt.run _ s8 σ8 H8 _ I8 q8) fun b s9 ⟨H9, I9, q9⟩ => ?_
      -- the turn's end
      have fin : ∀ {s' : Shared} {H' : Hp}, Inv (blkH X p s3 H3 scope ce fp) ([] ++ pinsAt fp s7.heap) σ8 H' s' → Nx H' → ∃ m, m < n ∧ ∃ i H', Inv (blkH X p s3 H3 scope ce fp) [] (wipe σ (own.map (·.2))) H' s' ∧ tn i s'.heap ∧ (∀ b ∈ fp, H' b = none) ∧ W i m H' := fun {s' H'} I' nx => by
        obtain ⟨m', hm, w'⟩ := hNx H' nx
        have pin' : ∀ b ∈ fp, ∀ o, s7.heap.get? b = some o → s'.heap.get? b = some o ∧ H' b = none := fun b hb o e =>
          let z := I'.pin (b, o) (List.mem_append_right _ (List.mem_append_right _ (mem_pinsAt hb e)))
          ⟨z.1, z.2.1⟩
        have hl : (wipe σ (own.map (·.2))).length = σ8.length := by rw [← hw8, wipe_length]
        refine ⟨m', hm, i + 1, H', (I'.unpinned (pins := [])).weak hl (fun j v e => ?_), T.keep _ _ _ st7 fun b hb o e => (pin' b hb o e).1, fun b hb => ?_, w'⟩
        · rw [← hw8] at e
          exact (wipe_some e).1
        · obtain ⟨o, e, _⟩ := T.obj _ _ st7 b hb
          exact (pin' b hb o e).2
      cases b with
      | false =>
        simp only [Bool.false_eq_true, if_false] at q9 ⊢
        exact fin I9 q9
      | true =>
        simp only [if_true] at q9 ⊢
        refine thnF (pe.run _ s9 σ8 H9 _ I9 q9) fun z s10 ⟨yv, H10, I10, r10, acc, hD10, hz10, nx⟩ => ?_
        exact app_ok (X := blkH X p s3 H3 scope ce fp) I10 hD10 hz10 r10 fun s11 I11 => fin I11 nx
  exact codeAny_compStart_list loop (T.self X.A 0 _ _ _ st4 loop)
theorem pe_lcH {p : Addr × Obj} {elt tg iter : Expr} {ifs : List Expr} {scope : Scope} {own : List (Str × Nat)} {pos : Pos} {wi : TI} {g : TG} {tt : TT} {te : TE} (hc : Hot1 X.A p) (hpn : p ∈ X.pn) (hN : X.N.Nodup) (hi : PIG X tg iter wi) (ok : BlkOk X.N X.env.scope scope own)
    (hg : ∀ (s : Shared) (H : Hp) (C : Addr) (cl : List (Str × Addr)) (fp : List Addr), PG (blkH X p s H scope (compEnvC scope cl C X.env) fp) tg g) (ht : ∀ (s : Shared) (H : Hp) (C : Addr) (cl : List (Str × Addr)) (fp : List Addr), PTs (blkH X p s H scope (compEnvC scope cl C X.env) fp) ifs tt)
    (he : ∀ (s : Shared) (H : Hp) (C : Addr) (cl : List (Str × Addr)) (fp : List Addr), PE (blkH X p s H scope (compEnvC scope cl C X.env) fp) elt te) (hs : ∀ x, foldedSetIterable iter X.env x = pure x := by intro _; rfl) :
    PE X (.ListComp elt [⟨tg, iter, ifs, 0⟩] scope pos) (tLc wi g tt te (own.map (·.2))) := by
  refine ⟨fun pins s σ H Q I h => ?_⟩
  rw [eval_ListComp]
  refine lc_coreH hc hpn hN I hi ok hg ht he hs h fun D C s' m H' I' q hn f => ⟨m, hn, fun h'' sb => ?_⟩
  obtain ⟨f0, f1, f2, f3, f4, f5⟩ := f
  exact ⟨.ref D, H', I'.turned (t' := s'.toks) (fun b o hb e => (sb.2 b hb).trans e) f0 f1 f3 f4 f5, rfl, q⟩
end
end Ht

namespace Ht
open PySem PySem.Spec PyProof.Rows L2 Fi
section
variable {prog : Program} {w : World} {A : Around} {E : Value → Shared → Prop} {s : Shared}
end
section
variable {X : Cx} {pos : Pos}
end
def fCat : PyData → PyData → Option PyData
  | .list a, .list b => if a.length + b.length ≤ 100000 then some (.list (a ++ b)) else none
  | _, _ => none
theorem atom_dp {K : PySem.W.Frag} {H : Hp} {v : V} {d : PyData} {x : V} (h : Dp K H v d) (e : Ob.atomV d = some x) : v = x := by
  cases h <;> cases e <;> rfl
def atomsV : List PyData → Option (List V)
  | [] => some []
  | d :: r => (Ob.atomV d).bind fun x => (atomsV r).bind fun xs => some (x :: xs)
def fInA (neg : Bool) : PyData → PyData → Option PyData
  | d, .tuple ds => (Ob.atomV d).bind fun x => (atomsV ds).bind fun xs => if flatV x = true ∧ xs.all flatV = true then some (.bool (if neg then !inV x xs else inV x xs)) else none
  | _, _ => none
section
variable {X : Cx} {o e e2 : Expr} {f g : FE} {apos pos : Pos}
def fSplit : PyData → PyData → Option (List PyData)
  | .str a, .str b => if (b.length == 0) = false ∧ a.length + 2 ≤ sizeLine ∧ (Txt.split a b).length ≤ 100000 then some ((Txt.split a b).map .str) else none
  | _, _ => none
theorem fSplit_some {x y : PyData} {l : List PyData} (h : fSplit x y = some l) : ∃ a b, x = .str a ∧ y = .str b ∧ (b.length == 0) = false ∧ a.length + 2 ≤ sizeLine ∧ l = (Txt.split a b).map .str := by
  unfold fSplit at h
  split at h
  · split at h
    · rename_i hh
      cases h
      exact ⟨_, _, rfl, rfl, hh.1, hh.2.1, rfl⟩
    · cases h
  · cases h
def lSplit (f g : FE) : FL := fun env => (f env).bind fun x => (g env).bind fun y => fSplit x y
theorem dp_strs {K : PySem.W.Frag} {H : Hp} : ∀ ys : List Str, DpAll K H (ys.map V.str) (ys.map PyData.str)
  | [] => .nil
  | y :: ys => .cons (.str y) (dp_strs ys)
theorem l_split (ho : PE X o (Fi.tE X.K f)) (he : PE X e (Fi.tE X.K g)) (hs : starEach [e] X.env = [(false, eval e X.env)] := by rfl) (hbase : attributeBase o "split" X.env (eval o X.env) = eval o X.env := by rfl) (hline : (apos.endLine == pos.line) = true := by rfl) :
    PE X (.Call (.Attribute o "split" apos) [e] [] pos) (Fi.tL X.K (lSplit f g)) := pe_le (pe_split ho he hs hbase hline) fun σ H Q ⟨Z, Hf, env, d, R, hf, k⟩ => by
  obtain ⟨x, hx, hf⟩ := Option_bind_some hf
  obtain ⟨y, hy, hf⟩ := Option_bind_some hf
  obtain ⟨a, b, rfl, rfl, h1, h2, rfl⟩ := fSplit_some hf
  refine ⟨Z, Hf, env, _, R, hx, fun v H1 Hf1 s1 d1 => ⟨⟨a, d1.str_eq⟩, Z, Hf1, env, _, R.step s1, hy, fun v2 H2 Hf2 s2 d2 => ⟨a, b, d1.str_eq, by rw [d2.str_eq], h1, h2, fun p hp => ?_⟩⟩⟩
  exact k p _ _ _ ((s1.trans s2).trans (Stp.hid (s1.trans s2).i hp)) ((s1.trans s2).h.free hp) ((s1.trans s2).i.free hp) upd_same (dp_strs _)
def strsOf : List PyData → Option (List Str)
  | [] => some []
  | .str y :: r => (strsOf r).map (y :: ·)
  | _ :: _ => none
def fJoin : PyData → List PyData → Option PyData
  | .str a, l => (strsOf l).bind fun ys => if (ys.map (·.length)).sum + ys.length * a.length ≤ 16777216 then some (.str (Txt.join a ys)) else none
  | _, _ => none
theorem strs_dp {K : PySem.W.Frag} {H : Hp} : ∀ {vs : List V} {l : List PyData} {ys : List Str}, DpAll K H vs l → strsOf l = some ys → vs = ys.map V.str
  | [], _, _, h, e => by cases h; cases e; rfl
  | v :: vs, _, ys, h, e => by
    cases h with
    | cons h t =>
      rename_i d l
      unfold strsOf at e
      split at e
      · cases ‹d :: l = []›
      · rename_i y r q
        cases q
        obtain ⟨zs, h1, rfl⟩ := Option.map_eq_some_iff.mp e
        rw [strs_dp t h1, h.str_eq]
        rfl
      · cases e
def eJoin (f : FE) (l : FL) : FE := fun env => (f env).bind fun x => (l env).bind fun y => fJoin x y
end
theorem pig_le {X : Cx} {tg e : Expr} {t t' : TI} (h : PIG X tg e t) (hm : ∀ σ H R, t' σ H R → t σ H R) : PIG X tg e t' := ⟨fun pins s σ H R I q => h.run pins s σ H R I (hm σ H R q)⟩
section
variable {X : Cx} {tg iter elt : Expr} {ifs : List Expr} {scope : Scope} {own : List (Str × Nat)} {pos : Pos} {fi : FL} {g : PyData → Fi.En → Option Fi.En} {p : FT} {f : FE} {vs sl : List Nat}
theorem l_lcH {pn : Addr × Obj} (hc : Hot1 X.A pn) (hpn : pn ∈ X.pn) (hN : X.N.Nodup) (hi : PIG X tg iter (Fi.tI X.K fi)) (ok : BlkOk X.N X.env.scope scope own)
    (hg : ∀ (s : Shared) (H : Hp) (C : Addr) (cl : List (Str × Addr)) (fp : List Addr), PG (blkH X pn s H scope (compEnvC scope cl C X.env) fp) tg (Fi.tG X.K false sl g)) (ht : ∀ (s : Shared) (H : Hp) (C : Addr) (cl : List (Str × Addr)) (fp : List Addr), PTs (blkH X pn s H scope (compEnvC scope cl C X.env) fp) ifs (Fi.tT X.K p))
    (he : ∀ (s : Shared) (H : Hp) (C : Addr) (cl : List (Str × Addr)) (fp : List Addr), PE (blkH X pn s H scope (compEnvC scope cl C X.env) fp) elt (Fi.tE X.K f)) (hvs : own.map (·.2) = vs := by rfl) (hsl : ∀ i ∈ sl, i ∈ vs := by decide) (hs : ∀ x, foldedSetIterable iter X.env x = pure x := by intro _; rfl) :
    PE X (.ListComp elt [⟨tg, iter, ifs, 0⟩] scope pos) (Fi.tL X.K (Fi.lLc fi g p f vs)) := by
  subst hvs
  exact pe_le (pe_lcH hc hpn hN hi ok hg ht he hs) fun _ _ _ w => Fi.tLc_of hsl w
end
end Ht

namespace Ht
open PySem PySem.Spec PyProof.Rows L2 Fi
def At (a : Addr) (σ : L2.St) : Prop := σ[0]? = some (some (.ref a))
def fE (K : PySem.W.Frag) (a : Addr) (f : FE) : TE := fun σ H Q => At a σ ∧ Fi.tE K f σ H Q
def fL (K : PySem.W.Frag) (a : Addr) (f : FL) : TE := fun σ H Q => At a σ ∧ Fi.tL K f σ H Q
def fA (K : PySem.W.Frag) (a : Addr) (f : FL) : TA := fun σ H Q => At a σ ∧ Fi.tA K f σ H Q
def fS (K : PySem.W.Frag) (a : Addr) (f : FS) : TS := fun D σ H => At a σ ∧ Fi.tS K f { D with nx := fun σ' H' => At a σ' → D.nx σ' H' } σ H
section
variable {X : Cx} {a : Addr} {e e2 : Expr} {es : List Expr} {f g : FE} {r l : FL} {pos : Pos}
structure IsE (X : Cx) (a D : Addr) (oe : Obj) (x : Str) : Prop where
  c : ExcC X.K D
  p : (a, oe) ∈ X.pn
  z : Zc (.ref D) none oe
  f : ∃ vs, oe.data = .fields vs
  n : X.N[0]? = some x
  v : Vis X.env.scope x
  g : Gl X "isinstance"
  m : X.mg "isinstance" = none
end
/-- f, handed the exception handled, one of the class at D, gives the text z -/
def FnE (P : Program) (w : World) (K : PySem.W.Frag) (mg : Str → Option Value) (base : Heap) (k : Nat) (f : Addr) (D : Addr) (z : Str) : Prop :=
  ∀ (A : Around) (outer : List Env) (s : Shared) (H Hf : Hp) (Q : VK) (p : Addr × Obj), L2H.RoomH k A → L2H.Hot1 A p → L2H.PinOk outer H s p → Zc (.ref D) none p.2 → Env0 P w K mg base A outer s H → Same Hf H → (∀ v H' Hf', Stp Hf H Hf' H' → Dp K Hf' v (.str z) → Q v H') →
    codeAny (model P w) A (.call (.ref f) ⟨[.ref p.1], []⟩) (CR CX0 outer P w H s Q E0) s
end Ht

namespace Ht
open PySem PySem.Spec PyProof.Rows L2 Fi
section
variable {X : Cx}
/-- told(n) in the suite -/
def tCallE (K : PySem.W.Frag) (T : List (Str × Str)) (i : Nat) (a : Addr) (cls : Value) (d : Option Addr) : TE := fun σ H Q => σ[i]? = some (some (.ref a)) ∧ ∃ (c z : Str) (Hf : Hp), (c, z) ∈ T ∧ cls = .ref (He.ga K c) ∧ d = none ∧ Same Hf H ∧ ∀ v H' Hf', Stp Hf H Hf' H' → Dp K Hf' v (.str z) → Q v H'
end
/-- the body; an exception of a class that T knows is told -/
def sTryE (T : List (Str × Str)) (i : Nat) (fb : Ob.FS) : Ob.FS := fun env st => match fb env st with
  | some (.exc c e s) => if i < e.length then (T.lookup c).map fun z => .ret (.py (.str z)) s else none
  | o => o
structure Tells (X : Cx) (k : Nat) (x y : Str) (T : List (Str × Str)) : Prop where
  g : X.mg x = some (.ref (He.ga X.K x))
  m : ∀ p ∈ T, PySem.W.exmOne X.K (.ref (He.ga X.K p.1)) (.ref (He.ga X.K x)) = some true
  ex : ∃ f, X.mg y = some (.ref f) ∧ PySem.W.keepIn X.K (.ref f) = true ∧ ∀ p ∈ T, FnE X.prog X.w X.K X.mg X.base k f (He.ga X.K p.1) p.2
section
variable {X : Cx} {W : WX}
end
end Ht

namespace Ob
open PySem PySem.Spec PyProof.Rows L2 Fi
section
variable {P : Program} {w : World} {K : PySem.W.Frag} {mg : Str → Option Value} {base : Heap} {j k n : Nat} {c C m : Str} {G : Fn} {T : Tab}
def pstB (K : PySem.W.Frag) (c m : Str) : Bool := decide (PySem.W.takerIn K (He.ga K c) m = some (some (.ref (He.ma K (He.ga K c) m)))) && (decide (PySem.W.typeIn K (.ref (He.ma K (He.ga K c) m)) = some (.type "property")) && (match PySem.W.recIn K (He.ma K (He.ga K c) m) "property" with
  | some (_ :: .ref _ :: _) => true
  | _ => false))
end
end Ob
namespace Ht
open PySem PySem.Spec PyProof.Rows L2 Fi
section
variable {P : Program} {w : World} {K : PySem.W.Frag} {mg : Str → Option Value} {base : Heap}
def excB (K : PySem.W.Frag) (c : Str) : Bool :=
  decide (PySem.W.findIn K (.ref (He.ga K c)) "__getattribute__" = some (some (.builtin "BaseException.__getattribute__"))) && (decide (PySem.W.findIn K (.ref (He.ga K c)) "__getattr__" = some none) && (decide (PySem.W.subIn K (.ref (He.ga K c)) (.type "BaseException") = some true) && (PySem.W.hasDictIn K (He.ga K c) &&
  (decide (PySem.W.findIn K (.ref (He.ga K c)) "__class__" = some (some (.builtin "object.__class__"))) && (decide (PySem.W.specialIn K (.builtin "object.__class__") "__get__" = some (some (.builtin "getset_descriptor.__get__"))) && (decide (PySem.W.takesIn K (.builtin "object.__class__") = some true) && decide (PySem.W.mroIn K (He.ga K c) (.type "object") = some true)))))))
/-- which classes of cs (by bs) an exception of the class c is of -/
def rowB (K : PySem.W.Frag) (c : Str) (cs : List (Str × Bool)) : Bool := cs.all fun p => decide (PySem.W.kitOne K (.ref (He.ga K c)) (.ref (He.ga K p.1)) = some p.2)
def rowT (K : PySem.W.Frag) (c : Str) (T : String) (b : Bool) : Bool := decide (PySem.W.kitOne K (.ref (He.ga K c)) (.type T) = some b)
theorem FnE.mono {f D : Addr} {z : Str} {j k : Nat} (F : FnE P w K mg base j f D z) (h : j ≤ k) : FnE P w K mg base k f D z := fun A outer s H Hf Q p hr => F A outer s H Hf Q p (hr.mono h)
end
end Ht
namespace Ht
open PySem PySem.Spec PyProof.Rows L2 Fi
end Ht

namespace Ht
open PySem PySem.Spec PyProof.Rows L2 LamX
section
variable {X : Cx} {pins : List (Addr × Obj)} {σ : L2.St} {H HZ : Hp} {s s1 : Shared}
/-- the context of the lambda's body; what it lets out keeps its context -/
def lamCxN (X : Cx) (A : Around) (outer : List Env) (s : Shared) (H : Hp) (E : XK) (scope : Scope) (f c' : Addr) : Cx :=
  { lamCx X A outer s H E scope f c' with xe := fun e s' => wpAny (model X.prog X.w) (A.deeper (lamEnv X scope s.heap.objs.size f c')) (leaving (lamEnv X scope s.heap.objs.size f c') e) (fun _ s'' => L2N.CX X.prog X.w outer H s E e s'') (fun e' s'' => L2N.CX X.prog X.w outer H s E e' s'') s' }
end
end Ht

namespace Ht
open PySem PySem.Spec PyProof.Rows L2 Fi LamX
/-- the def that calls what it got -/
def GivesN (X : Cx) (Ng : List Str) (x : Str) (sg : Scope) (g : Addr) (cdg : Value) (bg : List Stmt) (a : Str) (q : Str) (TT : (XK → Hp → VK → Prop) → Hp → VK → Prop) (k : Nat) : Prop :=
  ∀ (f c' : Addr) (s : Shared) (H : Hp) (Q : VK) (tl : XK → Hp → VK → Prop), Room k (X.A.deeper (envOfC x sg s.heap.objs.size g cdg)) →
    (∀ (W : WX) (pn : List (Addr × Obj)) (xe : Value → Shared → Prop) (E : XK) (p1 p2 : Pos), L2N.Takes ((cxOf CX0 X.prog X.w X.K X.mg X.base Ng x sg g cdg X.A X.stack s H E0).tr pn xe) W → (∀ cls d σ' H', σ'.length = Ng.length → E cls d H' → W cls d σ' H') →
      PE ((cxOf CX0 X.prog X.w X.K X.mg X.base Ng x sg g cdg X.A X.stack s H E0).tr pn xe) (.Call (.Name a p1) [] [] p2) (fun σZ HZ Q => σZ[0]? = some (some (.ref f)) ∧ HZ c' = some (CodeO c' q) ∧ tl E HZ Q)) →
    H c' = some (CodeO c' q) → TT tl H Q →
    ∃ t, PSs (cxOf CX0 X.prog X.w X.K X.mg X.base Ng x sg g cdg X.A X.stack s H E0).nox bg t ∧ t { nx := fun _ H' => Q .non H', rt := Q } (L2.start Ng [.ref f]) H
def TTn (K : PySem.W.Frag) (T : List (Str × Str)) : (XK → Hp → VK → Prop) → Hp → VK → Prop := fun tl H Q =>
  tl (fun cls d H' => ∃ (c z : Str) (Hf : Hp), (c, z) ∈ T ∧ cls = .ref (He.ga K c) ∧ d = none ∧ Same Hf H' ∧ ∀ v H2 Hf2, Stp Hf H' Hf2 H2 → Dp K Hf2 v (.str z) → ∀ p, H2 p = none → Q (.ref p) (upd H2 p (.tup [.non, v]))) H
    (fun v H' => [v, V.str ""].length ≤ sizeLine ∧ ∀ p, H' p = none → Q (.ref p) (upd H' p (.tup [v, .str ""])))
section
variable {X : Cx}
end
end Ht

namespace Ht
open PySem PySem.Spec PyProof.Rows L2 Fi LamX
def eTold (i : Nat) (xl : Str) (T : List (Str × Str)) (fb : Ob.F Ob.D) : Ob.F Ob.D := fun env st => match st[i]? with
  | some (.tab q) => if q = xl then (match fb env st with
    | some (.ok d s) => some (.ok (Ob.mkT [d, .py (.str "")]) s)
    | some (.err c s) => (T.lookup c).map fun z => .ok (.py (.tuple [.none, .str z])) s
    | none => none) else none
  | _ => none
section
variable {X : Cx} {W : WX}
end
end Ht

namespace Ht
open PySem PySem.Spec PyProof.Rows L2 Fi LamX
structure SaysL (file : Str) (ck : List Ob.Ck) (df : List Ob.Df) (tl : List Str) (h : Heap) (K : PySem.W.Frag) : Prop where
  t : Ob.SaysO file ck df K
  hd : ∀ x ∈ tl, PySem.W.codeHdIn K (Ob.codeA K x) (Ob.tabA K x) = true
  out : ∀ x ∈ tl, K.lookup (Ob.tabA K x) = none
  empty : ∀ x ∈ tl, h.get? (Ob.tabA K x) = some { cls := .none, data := .fields #[] }
def tabsB (g : Addr → Option Obj) (tl : List Str) (K : PySem.W.Frag) : Bool := tl.all fun x => PySem.W.codeHdIn K (Ob.codeA K x) (Ob.tabA K x) && (match g (Ob.tabA K x) with
  | some o => He.emptyTab o
  | none => false)
abbrev AlL : Type := Ob.AlO × Bool
def obsL (n : Nat) (file : Str) (ck : List Ob.Ck) (df : List Ob.Df) (tl : List Str) (g : Addr → Option Obj) : AlL := (Ob.obsO file ck df (He.frT g (Ob.asO g n)), tabsB g tl (He.frT g (Ob.asO g n)))
def valL (df : List Ob.Df) : AlL := (Ob.valO df, true)
theorem saysL_of {n : Nat} {file : Str} {ck : List Ob.Ck} {df : List Ob.Df} {tl : List Str} {h : Heap} (e : obsL n file ck df tl h.get? = valL df) : SaysL file ck df tl h (He.frT h.get? (Ob.asO h.get? n)) := by
  have e1 : Ob.obsO file ck df (He.frT h.get? (Ob.asO h.get? n)) = Ob.valO df := congrArg (fun z : AlL => z.1) e
  have e2 : tabsB h.get? tl (He.frT h.get? (Ob.asO h.get? n)) = true := congrArg (fun z : AlL => z.2) e
  generalize hK : He.frT h.get? (Ob.asO h.get? n) = K at *
  have key : ∀ x ∈ tl, PySem.W.codeHdIn K (Ob.codeA K x) (Ob.tabA K x) = true ∧ ∃ o, h.get? (Ob.tabA K x) = some o ∧ He.emptyTab o = true := fun x hx => by
    obtain ⟨h3, h4⟩ := He.ba (List.all_eq_true.mp e2 x hx)
    refine ⟨h3, ?_⟩
    cases q : h.get? (Ob.tabA K x) with
    | none =>
      rw [q] at h4
      cases h4
    | some o =>
      rw [q] at h4
      exact ⟨o, rfl, h4⟩
  exact ⟨e1, fun x hx => (key x hx).1, fun x hx => by
    obtain ⟨_, o, q, z⟩ := key x hx
    rw [← hK] at q ⊢
    exact He.frT_none q z, fun x hx => by
    obtain ⟨_, o, q, z⟩ := key x hx
    rw [q, He.emptyTab_eq z]⟩
def hookL (n : Nat) (file : Str) (ck : List Ob.Ck) (df : List Ob.Df) (tl : List Str) : PySem.W.Hook where
  α := AlL
  obs := fun s => obsL n file ck df tl s.heap.get?
  val := fun _ => valL df
  says := fun _ h => ∃ K : PySem.W.Frag, K.In h ∧ SaysL file ck df tl h K
  of := fun _ _ e => ⟨_, He.frT_in, saysL_of e⟩
  keeps := fun _ _ _ ⟨K, hK, c⟩ k => ⟨K, PySem.W.Frag.In.keeps hK k, ⟨c.t, c.hd, c.out, fun x hx => k _ _ (c.empty x hx)⟩⟩
def noTab (H : Hp) : Hp := fun b => match H b with
  | some (.tbl _) => none
  | o => o
end Ht

namespace Ob
open PySem PySem.Spec PyProof.Rows L2 Fi
section
variable {X : Cx} {W : WX} {e oe ie : Expr} {f g h : F D} {pos tpos ppos npos : Pos}
def sIxN (n : Nat) (v o i : F D) : FS := sE v fun y env st => y.tup?.bind fun ds => match ds with
  | [a, b] => sE o (fun d => sE i fun k env st => match k with
    | .py (.int k) => (stL d st).bind fun q => (ixN q.2.length k).map fun j => .next (env.set n (some (.val b))) (st.set q.1 (.lst (q.2.set j a)))
    | _ => none) env st
  | _ => none
end
end Ob

namespace Fi
open PySem PySem.Spec PyProof.Rows L2
end Fi

namespace Ob
open PySem PySem.Spec PyProof.Rows L2 Fi
def D.seq? (d : D) : Option (List D) := match d.lst? with
  | some l => some l
  | none => d.tup?
theorem Dq.seq_of {K : PySem.W.Frag} {Hf : Hp} {ρ : List Addr} {v : V} {d : D} {ds : List D} (h : Dq K Hf ρ v d) (e : d.seq? = some ds) : ∃ a xs, v = .ref a ∧ (SqL K Hf a xs ∨ SqT K Hf a xs) ∧ DqAll K Hf ρ xs ds := by
  unfold D.seq? at e
  split at e
  · rename_i l hl
    cases e
    obtain ⟨a, xs, h1, h2, h3⟩ := h.lst_of hl
    exact ⟨a, xs, h1, .inl h2, h3⟩
  · obtain ⟨a, xs, h1, h2, h3⟩ := h.tup_of e
    exact ⟨a, xs, h1, .inr h2, h3⟩
theorem sq_up {K : PySem.W.Frag} {Hf H : Hp} {a : Addr} {xs : List V} (i : Same Hf H) (h : SqL K Hf a xs ∨ SqT K Hf a xs) : SqL K H a xs ∨ SqT K H a xs := h.elim (fun h => .inl (i.seq h)) fun h => .inr (sqT_up i h)
/-- a new list, hidden -/
theorem Fin.newL {K : PySem.W.Frag} {W : WX} {σ : L2.St} {Z : Zt} {ρ : List Addr} {Hf H : Hp} {env : En} {st : Stor} {Q : VK} {ds : List D} {vs : List V} {p : Addr} (R : Rel K Z ρ Hf H env st σ) (k : Fin rL K W σ ρ Hf H Q (.ok ds st)) (hp : H p = none) (h : DqAll K Hf ρ vs ds) : Q (.ref p) (upd H p (.lst vs)) :=
  k.stp R (Stp.hid R.ok.i hp) ⟨p, vs, rfl, hp, R.ok.new hp, R.ok.i.free hp, upd_same, h⟩
def eLenD (f : F D) : F D := bnd f fun d => lft (d.seq?.map fun l => .py (.int l.length))
def lListD (f : F D) : F (List D) := bnd f fun d => lft d.seq?
def lCatD (f g : F D) : F (List D) := bnd f fun x => bnd g fun y => lft (x.lst?.bind fun a => y.lst?.bind fun b => if a.length + b.length ≤ 100000 then some (a ++ b) else none)
def cutQ (l : List D) (a b : Option Int) : List D := (l.drop (HT.sIx l.length 0 a)).take (HT.sIx l.length l.length b - HT.sIx l.length 0 a)
def lSlD (f : F D) (a b : F (Option Int)) : F (List D) := bnd f fun x => bnd a fun i => bnd b fun j => lft (x.lst?.map fun l => cutQ l i j)
section
variable {X : Cx} {W : WX} {e a b : Expr} {f g : F D} {p pos p2 : Pos}
theorem x_lenD (hg : Gl X "len") (hm : X.mg "len" = none) (he : PE X e (tE X.K W f)) (hs : starEach [e] X.env = (false, eval e X.env) :: starEach [] X.env := by rfl) (hpl : (backTo pos (starEach [] X.env)).any (·.1) = false := by rfl) :
    PE X (.Call (.Name "len" p) [e] [] pos) (tE X.K W (eLenD f)) := pe_le (pe_callB call_len_seq hg hm PySem.boot_len (pa_cons he pa_nil hs) (by decide) (by decide) hs hpl) fun σ H Q ⟨Z, ρ, Hf, env, st, o, R, e, k⟩ => by
  refine bind_at bE R e k fun x H1 ρ1 Hf1 s1 d t1 r1 R1 e1 k1 => ?_
  obtain ⟨z, h1, rfl⟩ := lft_some e1
  obtain ⟨l, h2, rfl⟩ := map_ok h1
  obtain ⟨q, xs, rfl, hq, hd⟩ := Dq.seq_of r1 h2
  exact ⟨q, xs, rfl, sq_up R1.ok.i hq, by rw [hd.len]; exact k1.now R1 (.py (.int _))⟩
theorem l_listD (hg : Gl X "list") (hm : X.mg "list" = none) (he : PE X e (tE X.K W f)) (hs : starEach [e] X.env = (false, eval e X.env) :: starEach [] X.env := by rfl) (hpl : (backTo pos (starEach [] X.env)).any (·.1) = false := by rfl) :
    PE X (.Call (.Name "list" p) [e] [] pos) (tL X.K W (lListD f)) := pe_le (pe_callTy call_list_of hg hm (by decide +kernel) (pa_cons he pa_nil hs) (by decide) (by decide) hs hpl) fun σ H Q ⟨Z, ρ, Hf, env, st, o, R, e, k⟩ => by
  refine bind_at bL R e k fun x H1 ρ1 Hf1 s1 d t1 r1 R1 e1 k1 => ?_
  obtain ⟨z, h1, rfl⟩ := lft_some e1
  obtain ⟨q, xs, rfl, hq, hd⟩ := Dq.seq_of r1 h1
  exact ⟨q, xs, rfl, sq_up R1.ok.i hq, fun l hl => k1.newL R1 hl hd⟩
theorem o_none : PO X none (tO X.K W (lft (some none))) := po_le po_none fun σ H Q ⟨Z, ρ, Hf, env, st, o, R, e, k⟩ => by
  obtain ⟨z, h1, rfl⟩ := lft_some e
  cases h1
  exact k.now R rfl
def oInt (f : F D) : F (Option Int) := bnd f fun d => lft (match d with
  | .py (.int i) => some (some i)
  | _ => none)
theorem o_some (he : PE X e (tE X.K W f)) : PO X (some e) (tO X.K W (oInt f)) := po_le (po_some he) fun σ H Q ⟨Z, ρ, Hf, env, st, o, R, e, k⟩ => by
  refine bind_at bO R e k fun x H1 ρ1 Hf1 s1 d t1 r1 R1 e1 k1 => ?_
  obtain ⟨z, h1, rfl⟩ := lft_some e1
  split at h1
  · rename_i i
    cases h1
    exact ⟨i, (Dq.dp r1).int_eq, k1.now R1 rfl⟩
  · cases h1
end
def fnStar (n : Nat) (b : FS) : Fn := fun ds st => match ds with
  | d :: rest => if rest.length ≤ 100000 then fnO n b [d, mkT rest] st else none
  | [] => none
theorem FinR.step {K : PySem.W.Frag} {ρ ρ1 : List Addr} {Hf H Hf1 H1 : Hp} {Q : VK} {E : XK} {r : Rs Sl} (t : OStp ρ Hf H ρ1 Hf1 H1) (k : FinR K ρ Hf H Q E r) : FinR K ρ1 Hf1 H1 Q E r := by
  cases r with
  | ok s st =>
    cases s with
    | val d => exact fun v H' ρ' Hf' t' S q => k v H' ρ' Hf' (t.trans t') S q
    | own l => exact fun v H' ρ' Hf' t' S q => k v H' ρ' Hf' (t.trans t') S (bL.of t q)
  | err c st => exact fun H' ρ' Hf' t' S => k H' ρ' Hf' (t.trans t') S
theorem star_sp {K : PySem.W.Frag} {n m : Nat} {b : FS} {vs : List V} {H : Hp} {Q : VK} {E : XK} (h : spO K (m + 1) (fnStar n b) vs H Q E) :
    ∃ ws rest, vs = ws ++ rest ∧ ws.length = 1 ∧ rest.length ≤ sizeLine ∧ ∀ p, H p = none → spO K 2 (fnO n b) (ws ++ [V.ref p]) (upd H p (.tup rest)) Q E := by
  obtain ⟨hl, ρ, Hf, ds, st, r, S, hd, hG, k⟩ := h
  cases hd with
  | nil => cases hl
  | cons h0 ht =>
    rename_i v vs d ds
    obtain ⟨hle, hG⟩ := ite_some (show (if ds.length ≤ 100000 then fnO n b [d, mkT ds] st else none) = some r from hG)
    refine ⟨[v], vs, rfl, rfl, size_le (by rw [ht.len]; exact hle), fun p hp => ?_⟩
    have s := Stp.new (o := .tup vs) S.i hp
    have u : Up Hf ρ (upd Hf p (.tup vs)) ρ := ⟨s.f, List.prefix_rfl⟩
    exact ⟨rfl, ρ, _, _, st, r, S.stp s, .cons (h0.up u) (.cons (dq_mkT (SqT.of upd_same) (ht.up u)) .nil), hG, k.step (.of s)⟩
theorem star_cal {P : Program} {w : World} {K : PySem.W.Frag} {mg : Str → Option Value} {base : Heap} {x qual : Str} {params : Arguments} {body : List Stmt} {scope : Scope} {kws : List (Str × V)} {f : Addr} {fd : FuncData} {N : List Str} {p1 pv : Str} {b : FS} {n k : Nat} (m : Nat)
    (hF : FunD K x qual params body scope [] kws f fd) (S : FnScope N [p1, pv] scope) (hn : N.length = n)
    (h0 : ∀ (kV doc pm : Value) (an : Option Addr) (cdv ct : Value) (a : Value), bindArgs (PySem.W.fnOf x qual params body scope .none kV doc pm an cdv ct) ⟨[a], []⟩ = (newTuple [] >>= fun t => pure [(p1, a), (pv, t)]))
    (h1 : ∀ (kV doc pm : Value) (an : Option Addr) (cdv ct : Value) (a r : Value) (rs : List Value), bindArgs (PySem.W.fnOf x qual params body scope .none kV doc pm an cdv ct) ⟨a :: r :: rs, []⟩ = (newTuple (r :: rs) >>= fun t => pure [(p1, a), (pv, t)]))
    (hb : ∀ (cdv : Value) (A : Around) (outer : List Env) (s : Shared) (H : Hp) (E : XK), Room k (A.deeper (envOfC qual scope s.heap.objs.size f cdv)) → L2N.Takes (cxOf (L2N.CX P w) P w K mg base N qual scope f cdv A outer s H E) (fun cls d _ H => E cls d H) →
      PSs (cxOf (L2N.CX P w) P w K mg base N qual scope f cdv A outer s H E) body (tS K (fun cls d _ H => E cls d H) b)) :
    Cal P w K mg base (k + 1) f (spO K (m + 1) (fnStar n b)) := by
  obtain ⟨oc, od, dV, kV, doc, pm, an, cdv, ct, osl, rfl, lk, hcd, hD, _⟩ := hF.ex
  obtain rfl : dV = .none := by
    rcases hD with ⟨_, e⟩ | ⟨e, _⟩
    · exact e
    · exact absurd rfl e
  intro A outer s H us vs Q E hr e0 r h
  refine StX.fn_star (ps := [p1]) (pv := pv) (sp := spO K 2 (fnO n b)) lk hcd S cxUpN (StX.bind_star1 (B := fun us => bindArgs (PySem.W.fnOf x qual params body scope .none kV doc pm an cdv ct) ⟨us, []⟩) (fun a => h0 _ _ _ _ _ _ a) fun a r rs => h1 _ _ _ _ _ _ a r rs) (fun A outer s H vs Q E hr h => ?_) A outer s H us vs Q E hr e0 r (star_sp h)
  exact ⟨_, hb cdv A outer s H E hr fin_takes, body_ok (X := cxOf (L2N.CX P w) P w K mg base N qual scope f cdv A outer s H E) (sts := body) hn h⟩
end Ob

namespace Ob
open PySem PySem.Spec PyProof.Rows L2 Fi
section
variable {C : Type} [DecidableEq C] [BEq C] [LawfulBEq C]
def ddup (σ : List C) (v : C) : List C := if σ.any (· == v) then σ else σ ++ [v]
def firsts (val : Nat → C) : Nat → List C
  | 0 => []
  | i + 1 => ddup (firsts val i) (val i)
theorem ddup_any (σ : List C) (v k : C) : (ddup σ v).any (· == k) = (σ.any (· == k) || decide (k = v)) := by
  unfold ddup
  by_cases h : σ.any (· == v) = true
  · rw [if_pos h]
    by_cases e : k = v
    · subst e; rw [h]; simp
    · simp [e]
  · rw [if_neg h, List.any_append]
    by_cases e : k = v
    · subst e; simp
    · have hb : (v == k) = false := by simpa [beq_iff_eq] using (fun h' : v = k => e h'.symm)
      simp [hb, e]
theorem ddup_len (σ : List C) (v : C) : (ddup σ v).length = if σ.any (· == v) then σ.length else σ.length + 1 := by
  unfold ddup; split <;> simp
theorem firsts_le (val : Nat → C) : ∀ i, (firsts val i).length ≤ i
  | 0 => Nat.le_refl _
  | i + 1 => by
    have ih := firsts_le val i
    show (ddup (firsts val i) (val i)).length ≤ i + 1
    rw [ddup_len]
    split <;> omega
variable {prog : Program} {w : World} {knd : KeyKind prog w C} {A : Around}
theorem code_set_loop {R : Result → Shared → Prop} {I : Addr} {fp wr : List Addr} {G : Array GenState → Array GenState → Prop} {n : Nat} {P : Nat → Value → Prop} {St : Nat → Shared → Prop} (W : WalksS prog w A.in1 I fp wr G n P St) (S : Addr) (hSf : S ∉ fp)
    (val : Nat → C) (hval : ∀ i v, P i v → knd.is (val i) v = true ∧ v.scannable = true) (hb : n + 1 < scanBound) :
    ∀ (k i : Nat) (s : Shared), n - i = k → i ≤ n → St i s →
      s.heap.SetOf knd S (fun k' => (firsts val i).any (· == k')) (firsts val i).length →
      (∀ s', Moved (S :: wr) G s s' → s'.heap.SetOf knd S (fun k' => (firsts val n).any (· == k')) (firsts val n).length → R (.ok (.ret .none)) s') →
      codeAny (model prog w) A (.builtin "set.update.loop" ⟨[.ref S, .ref I], []⟩) R s := by
  have hSw : S ∉ wr := fun h => hSf (W.sub _ h)
  have hsub : ∀ b ∈ wr, b ∈ S :: wr := fun b hb => List.mem_cons_of_mem _ hb
  intro k
  induction k with
  | zero =>
    intro i s hk hi hst hS hR
    have hin : i = n := by omega
    subst hin
    refine codeAny_builtin PyProof.Rows.F.entry_set_update_loop ?_
    rw [Around.under_plainId PyProof.Rows.F.plain_set_update_loop _]
    show wpAny _ A.in1 (pyNext (.ref I) >>= _) _ _ s
    refine wpAny_bind (W.done s _ _ hst fun s' hm => ?_)
    show wpAny _ A.in1 (ret Value.none) _ _ s'
    exact wpAny_pure (hR s' (hm.mono hsub) (by
      obtain ⟨o, es, ep, t, ho, rest⟩ := hS
      exact ⟨o, es, ep, t, hm.heap S _ hSw ho, rest⟩))
  | succ k ih =>
    intro i s hk hi hst hS hR
    have hlt : i < n := by omega
    refine codeAny_builtin PyProof.Rows.F.entry_set_update_loop ?_
    rw [Around.under_plainId PyProof.Rows.F.plain_set_update_loop _]
    show wpAny _ A.in1 (pyNext (.ref I) >>= _) _ _ s
    refine wpAny_bind (W.item i s _ _ hlt hst fun v s' hP hst' hm => ?_)
    obtain ⟨hk1, hk2⟩ := hval i v hP
    have hS' : s'.heap.SetOf knd S (fun k' => (firsts val i).any (· == k')) (firsts val i).length := by
      obtain ⟨o, es, ep, tb, ho, rest⟩ := hS
      exact ⟨o, es, ep, tb, hm.heap S _ hSw ho, rest⟩
    show wpAny _ A.in1 (holding [v] (setAdd S v) >>= _) _ _ s'
    refine wpAny_bind (wpAny_holding ?_)
    unfold setAdd
    refine wpAny_holding ?_
    refine wpAny_bind (knd.pyHash (k := val i) hk1 ?_)
    have hroom : (firsts val i).length + 1 < scanBound := by have := firsts_le val i; omega
    refine wpAny_setAddHashed_of (knd := knd) hk1 hk2 hS' hroom fun h' hsb hS2 => ?_
    have hSi : h'.SetOf knd S (fun k' => (firsts val (i + 1)).any (· == k')) (firsts val (i + 1)).length :=
      SetOf_congr hS2 (fun k' => by rw [show firsts val (i + 1) = ddup (firsts val i) (val i) from rfl, ddup_any]) (by rw [show firsts val (i + 1) = ddup (firsts val i) (val i) from rfl, ddup_len])
    refine wpAny_pure ⟨plainId_quiet PyProof.Rows.F.plain_set_update_loop _, ih (i + 1) _ (by omega) hlt (W.frame _ s' _ _ hst' (Nat.le_succ _) fun b hb o e => ?_) hSi fun s'' hm'' hS'' => ?_⟩
    · rw [hsb.2 b (fun h : b = S => hSf (by rw [← h]; exact hb))]; exact e
    · refine hR s'' (Moved.trans W.gtrans ((hm.mono hsub).then_heap (Nat.le_succ _) fun b o hb e => ?_) hm'') hS''
      rw [hsb.2 b (fun h : b = S => hb (by rw [h]; exact List.mem_cons_self))]; exact e
theorem call_setK {E : Value → Shared → Prop} {s : Shared} {l : Addr} {items : Array Value} {val : Nat → C} {Q : Value → Shared → Prop}
    (hh : A.handled = none) (hl : s.heap.IsList l items) (hi : ∀ (i : Nat) (v : Value), items[i]? = some v → knd.is (val i) v = true ∧ v.scannable = true) (hb : items.size + 1 < scanBound)
    (h : ∀ (h' : Heap) (tk : Nat), h'.SetOf knd s.heap.objs.size (fun k' => (firsts val items.size).any (· == k')) (firsts val items.size).length →
      (∀ b o, b < s.heap.objs.size → s.heap.get? b = some o → h'.get? b = some o) → Q (.ref s.heap.objs.size) { s with heap := h', toks := tk }) :
    wpAny (model prog w) A (call (.type "set") [.ref l]) Q E s := by
  obtain ⟨c, tl, hmro⟩ := PySem.F.called_set.mro
  have hmade := PySem.F.called_set.made
  have hsub := PySem.F.called_set.sub
  refine wpAny_call (codeAny_of_tree ?_)
  show wpAny _ _ (callAny (.type "set") _) _ _ _
  refine wpAny_pure ⟨Code.quiet_builtin _ (by decide +kernel), codeAny_builtin PySem.F.entry_type_call ?_⟩
  rw [Around.under_plain (weight_type_call_type "set" [.ref l] []) rfl]
  have h1 := PySem.F.called_set.notType
  have h2 := PySem.F.called_set.canCreate
  have hct := PySem.F.typeCall_set_1 (.ref l)
  repeat (any_goals (first | assumption | wp_step))

  refine codeAny_mono (code_set_new_1 (.ref l) (E := E) (Q₁ := fun obj s₁ => ∃ led : Bool, obj = .ref s.heap.objs.size ∧ s₁ = { s with heap := s.heap.push { cls := .type "set", dict := none, data := .set #[] 0 (.fresh 0 0 led) } }) fun led => ⟨led, rfl, rfl⟩) fun r s₁ hr => ?_
  cases r with
  | error e => exact hr
  | ok fl =>
    cases fl with
    | ret obj =>
      obtain ⟨led, rfl, rfl⟩ := hr
      have hS : (s.heap.push { cls := .type "set", dict := none, data := .set #[] 0 (.fresh 0 0 led) }).get? s.heap.objs.size = some { cls := .type "set", dict := none, data := .set #[] 0 (.fresh 0 0 led) } := Heap.get?_push_size _ rfl
      have hT : Shared.TypeIs { s with heap := s.heap.push { cls := .type "set", dict := none, data := .set #[] 0 (.fresh 0 0 led) } } (.ref s.heap.objs.size) "set" := ⟨_, hS, rfl⟩
      have hli := PySem.F.called_set.init.lookup
      have hbi := PySem.F.called_set.init.bind (.ref s.heap.objs.size)
      repeat (any_goals (first | assumption | wp_step))

      refine codeAny_mono (codeAny_call_builtin (R := wants (fun r s₂ => r = .none ∧ ∃ h' tk, s₂ = { s with heap := h', toks := tk } ∧
          h'.SetOf (knd) s.heap.objs.size (fun k' => (firsts val items.size).any (· == k')) (firsts val items.size).length ∧
          (∀ b o, b < s.heap.objs.size → s.heap.get? b = some o → h'.get? b = some o)) E) PySem.F.called_set.init.plain PySem.F.entry_set_init (check_set_init_1 hT ?_)) fun r₂ s₂ hr₂ => ?_
      · obtain ⟨ol, hol, hcl, nl, hdl⟩ := hl
        obtain ⟨ocls, odict, odata, oslots⟩ := ol
        simp only at hcl hdl
        subst hcl; subst hdl
        have hol' : (s.heap.push { cls := .type "set", dict := none, data := .set #[] 0 (.fresh 0 0 led) }).get? l = some { cls := .type "list", dict := odict, data := .seq items nl, slots := oslots } := Heap.get?_push_of_some _ hol
        have hsls := PySem.F.sub_list_set
        have hslf := PySem.F.sub_list_frozenset
        have hne : (Value.type "list" == Value.type "dict") = false := by decide
        have hl1 : (s.heap.push { cls := .type "set", dict := none, data := .set #[] 0 (.fresh 0 0 led) }).IsList l items := ⟨_, hol', rfl, nl, rfl⟩
        unfold Builtin.«set.__init__» noKeywords Builtin.Frozenset.updateFrom
        generalize hPI : pyIter = PI
        wp_walk
        subst hPI

        refine wpAny_pyIter_list hl1 ?_
        refine wpAny_bind (wpAny_runValue ?_)
        have hlS : l < s.heap.objs.size := Heap.lt_size hol
        have hh3 : A.in1.in1.in1.handled = none := by simp [hh]
        have hneI : l ≠ (s.heap.push { cls := .type "set", dict := none, data := .set #[] 0 (.fresh 0 0 led) }).objs.size := by
          rw [Heap.size_push]; exact Nat.ne_of_lt (Nat.lt_succ_of_lt hlS)
        have hSf : s.heap.objs.size ∉ [(s.heap.push { cls := .type "set", dict := none, data := .set #[] 0 (.fresh 0 0 led) }).objs.size, l] := by
          rw [Heap.size_push]; simp only [List.mem_cons, List.mem_singleton, List.not_mem_nil, or_false, not_or]
          exact ⟨Nat.ne_of_lt (Nat.lt_succ_self _), Nat.ne_of_gt hlS⟩
        refine code_set_loop (knd := knd) ((Walks.list hh3 _ l hneI items).toS) s.heap.objs.size
          hSf val hi hb (items.size - 0) 0 _ (by omega) (Nat.zero_le _)
          ⟨⟨_, Heap.get?_push_size _ rfl, rfl, rfl⟩, (hl1.push _)⟩ ?hS0 ?hR
        case hS0 =>
          have hget : ((s.heap.push { cls := .type "set", dict := none, data := .set #[] 0 (.fresh 0 0 led) }).push { cls := .type "list_iterator", data := .fields #[.ref l, .int 0 0] }).get? s.heap.objs.size
              = some { cls := .type "set", dict := none, data := .set #[] 0 (.fresh 0 0 led) } := Heap.get?_push_of_some _ hS
          exact PyProof.Rows.SetOf_congr ((PyProof.Rows.setObjOf_fresh (knd := knd) led).setOf hget (by unfold scanBound; omega)) (fun _ => rfl) rfl
        case hR =>
          intro s' hm hS'
          obtain ⟨h', g', d', tk', os'⟩ := s'
          have eg : g' = s.gens := hm.gens
          have ed : d' = s.drawn := hm.drawn
          have eo : os' = s.os := hm.os
          subst eg; subst ed; subst eo
          show wpAny _ _ _ _ _ _
          refine wpAny_pure ?_
          show wpAny _ _ (ret Value.none) _ _ _
          refine wpAny_pure ⟨rfl, h', tk', rfl, hS', fun b o hb e => ?_⟩
          have hb1 : b ≠ s.heap.objs.size := Nat.ne_of_lt hb
          have hb2 : b ≠ (s.heap.push { cls := .type "set", dict := none, data := .set #[] 0 (.fresh 0 0 led) }).objs.size := by
            rw [Heap.size_push]; exact Nat.ne_of_lt (Nat.lt_succ_of_lt hb)
          exact hm.heap b o (by simp only [List.mem_cons, List.mem_singleton, List.not_mem_nil, or_false, not_or]; exact ⟨hb1, hb2⟩) (Heap.get?_push_of_some _ (Heap.get?_push_of_some _ e))

      · cases r₂ with
        | error e => exact hr₂
        | ok fl₂ =>
          cases fl₂ with
          | ret r =>
            obtain ⟨rfl, h', tk, rfl, hS', hk'⟩ := hr₂
            repeat (any_goals (first | assumption | wp_step))
            exact h _ _ hS' hk'
          | _ => exact hr₂.elim
    | _ => exact hr.elim
end
/-- how many texts -/
def distS (ns : List Str) : Nat := (firsts (fun i => ns.getD i "") ns.length).length
def getStrs : List PyData → Option (List Str)
  | [] => some []
  | .str z :: r => (getStrs r).map (z :: ·)
  | _ => none
theorem getStrs_eq : ∀ {ps : List PyData} {ns : List Str}, getStrs ps = some ns → ps = ns.map .str
  | [], _, h => by cases h; rfl
  | .str z :: r, ns, h => by
    obtain ⟨q, h1, rfl⟩ := map_ok (show (getStrs r).map (z :: ·) = some ns from h)
    rw [getStrs_eq h1]
    rfl
  | .int _ :: _, _, h => by cases h
  | .bool _ :: _, _, h => by cases h
  | .none :: _, _, h => by cases h
  | .list _ :: _, _, h => by cases h
  | .tuple _ :: _, _, h => by cases h
def lenSetS : D → Option D
  | .py (.list ps) => (getStrs ps).bind fun ns => if ns.length ≤ 4000 then some (.py (.int (distS ns))) else none
  | _ => none
def eLenSetS (f : F D) : F D := bnd f fun d => lft (lenSetS d)
theorem dp_strs {K : PySem.W.Frag} {H : Hp} : ∀ {ns : List Str} {vs : List V}, DpAll K H vs (ns.map .str) → vs = ns.map V.str
  | [], _, h => by cases h; rfl
  | n :: ns, _, h => by
    cases h with
    | cons a t => rw [dp_strs t, a.str_eq]; rfl
theorem strs_at : ∀ {ns : List Str} {its : List Value}, Vals (ns.map V.str) its → ∀ (i : Nat) (v : Value), its[i]? = some v → ∃ t, v = .str (ns.getD i "") t
  | [], _, h, i, v, e => by cases h; simp at e
  | n :: ns, _, h, 0, v, e => by
    cases h with
    | cons a t =>
      simp at e
      subst e
      obtain ⟨t, ht⟩ := a
      exact ⟨t, ht⟩
  | n :: ns, _, h, i + 1, v, e => by
    cases h with
    | cons a t => exact strs_at t i v (by simpa using e)
theorem isStrK {P : Program} {w : World} (k : Str) (u : Tok) : (PySem.strKind P w).is k (.str k u) = true := by
  have e : (PySem.strKind P w).is = Value.isStrOf := rfl
  rw [e]
  simp [Value.isStrOf]
theorem pe_lenSetS {X : Cx} {a : Expr} {ta : TE} {p p2 q pos : Pos} (hg : Gl X "len") (hm : X.mg "len" = none) (hg2 : Gl X "set") (hm2 : X.mg "set" = none) (ha : PE X a ta) (hc : X.calm = true := by rfl)
    (na : starEach [a] X.env = (false, eval a X.env) :: starEach [] X.env := by rfl) : PE X (.Call (.Name "len" p) [.Call (.Name "set" p2) [a] [] q] [] pos) (fun σ H Q => ta σ H fun x H1 => ∃ (l : Addr) (ns : List Str), x = .ref l ∧ SqL X.K H1 l (ns.map V.str) ∧ ns.length ≤ 4000 ∧ Q (.int (distS ns : Nat)) H1) := by
  refine ⟨fun pins s σ H Q I h => ?_⟩
  refine Call_ (ld_blt I hg hm boot_len ?_)
  refine PyProof.Rows.callWith_builtin1 (PyProof.Rows.args_cons ?_ rfl) rfl rfl
  refine Call_ (ld_blt I hg2 hm2 boot_set ?_)
  refine PyProof.Rows.callWith_type1 (PyProof.Rows.args_cons (thn (ha.run pins s σ H _ I h) fun v s1 ⟨x, H1, I1, r1, q1⟩ => PyProof.Rows.args_nil ?_) na) na rfl
  obtain ⟨l, ns, rfl, hq, hl, q1⟩ := q1
  cases r1
  obtain ⟨its, r, pl, hz⟩ := I1.list hq
  have hlen : its.toArray.size = ns.length := by rw [List.size_toArray, ← r.length, List.length_map]
  have hle := firsts_le (fun i => ns.getD i "") ns.length
  refine call_setK (knd := PySem.strKind X.prog X.w) (val := fun i => ns.getD i "") (I1.ok.hd hc) pl.isList (fun i v e => ?_) (by rw [hlen]; unfold scanBound; omega) fun h' tk hS hk => ?_
  · obtain ⟨t, rfl⟩ := strs_at r i v (by simpa using e)
    exact ⟨isStrK _ _, rfl⟩
  refine PyProof.Rows.args_nil ?_
  rw [hlen] at hS
  obtain ⟨o, es, ep, t, ho, hex, hd, _, _, _, hf, hn⟩ := hS
  have I2 : Inv X pins σ H1 { s1 with heap := h', toks := tk } := I1.kept fun b o e => hk b o (Heap.lt_size e) e
  exact call_len_set ho hex hd hf (by rw [hn] <;> omega) ⟨.int (distS ns), H1, I2.tok _, ⟨_, by rw [hn] <;> rfl⟩, q1⟩
theorem x_lenSetS {X : Cx} {W : WX} {a : Expr} {f : F D} {p p2 q pos : Pos} (hg : Gl X "len") (hm : X.mg "len" = none) (hg2 : Gl X "set") (hm2 : X.mg "set" = none) (ha : PE X a (tE X.K W f)) (hc : X.calm = true := by rfl)
    (na : starEach [a] X.env = (false, eval a X.env) :: starEach [] X.env := by rfl) : PE X (.Call (.Name "len" p) [.Call (.Name "set" p2) [a] [] q] [] pos) (tE X.K W (eLenSetS f)) := pe_le (pe_lenSetS hg hm hg2 hm2 ha hc na) fun σ H Q ⟨Z, ρ, Hf, env, st, o, R, e, k⟩ => by
  refine bind_at bE R e k fun x H1 ρ1 Hf1 s1 d t1 r1 R1 e1 k1 => ?_
  obtain ⟨z, h1, rfl⟩ := lft_some e1
  unfold lenSetS at h1
  split at h1
  · rename_i ps
    obtain ⟨ns, h2, h3⟩ := obind h1
    obtain ⟨hl, rfl⟩ := if_some h3
    cases getStrs_eq h2
    obtain ⟨b, xs, rfl, hq, hd⟩ := (Dq.dp r1).lst_of
    cases dp_strs hd
    exact ⟨b, ns, rfl, R1.ok.i.seq hq, hl, k1.now R1 (.py (.int _))⟩
  · cases h1
end Ob

namespace Ob
open PySem PySem.Spec PyProof.Rows L2 Fi
open AutoSeq1 (wpAny_loadPart')
open MeetsSeq MeetsSeq2 MeetsSeq3 SeqRoads2
section
variable {prog : Program} {w : World} {A : Around} {E : Value → Shared → Prop} {s : Shared} {K : PySem.W.Frag}
abbrev FinB (prog : Program) (w : World) (A : Around) (R : Result → Shared → Prop) : PySem.Fin → Shared → Prop := fun fin s' => match fin with
  | .done f => R (.ok f) s'
  | .again c' => c'.quiet = true ∧ codeAny (model prog w) A c' R s'
def LsAt (l : Addr) (items : Array Value) (s : Shared) : Prop := ∃ (dd : Option Addr) (n : Nat) (sl : Array (Option Value)), s.heap.get? l = some { cls := .type "list", dict := dd, data := .seq items n, slots := sl }
variable {R : Result → Shared → Prop}
end
end Ob

namespace Ob
open PySem PySem.Spec PyProof.Rows L2 Fi
abbrev TabE := List (Str × List Str × List Str × Fn)
structure EqR (P : Program) (w : World) (K : PySem.W.Frag) (mg : Str → Option Value) (base : Heap) (k : Nat) (c : Str) (bl ot : List Str) (G : Fn) : Prop where
  ex : ∃ f, PySem.W.findIn K (.ref (He.ga K c)) "__eq__" = some (some (.ref f)) ∧ PySem.W.isFn K (.ref f) = true ∧ Cal P w K mg base k f (spO K 2 G)
  ty : ∀ t ∈ tys, PySem.W.subIn K (.type t) (.ref (He.ga K c)) = some false
  bl : ∀ d ∈ bl, PySem.W.subIn K (.ref (He.ga K d)) (.ref (He.ga K c)) = some true ∧ He.ga K c ≠ He.ga K d
  ot : ∀ d ∈ ot, PySem.W.subIn K (.ref (He.ga K d)) (.ref (He.ga K c)) = some false
def EqT (P : Program) (w : World) (K : PySem.W.Frag) (mg : Str → Option Value) (base : Heap) (k : Nat) (T : TabE) : Prop := ∀ p ∈ T, EqR P w K mg base k p.1 p.2.1 p.2.2.1 p.2.2.2
/-- is the right one asked first? -/
def side (c : Str) (bl ot : List Str) (y : D) (st : Stor) : Option Bool := match y with
  | .py p => if tyD p ∈ tys then some false else none
  | .tup _ => some false
  | .lst _ => some false
  | .obj m => match st[m]? with
    | some (.ins c' _) => if c' = c then some false else if c' ∈ bl then some true else if c' ∈ ot then some false else none
    | _ => none
  | .cls _ => none
def goB (G : Fn) (ds : List D) (st : Stor) : Option (Bool × Stor) := match G ds st with
  | some (.ok (.val (.py (.bool b))) s) => some (b, s)
  | _ => none
def insC (d : D) (st : Stor) : Option Str := match d with
  | .obj n => match st[n]? with
    | some (.ins c _) => some c
    | _ => none
  | _ => none
def eqD (T : TabE) (x y : D) (st : Stor) : Option (Bool × Stor) := (insC x st).bind fun c => (T.lookup c).bind fun q => (side c q.1 q.2.1 y st).bind fun r => if r then (insC y st).bind fun c' => (T.lookup c').bind fun q' => goB q'.2.2 [y, x] st else goB q.2.2 [x, y] st
section
variable {X : Cx} {k : Nat} {T : TabE} {A : Around} {pins : List (Addr × Obj)} {s : Shared} {σ : L2.St} {H Hf : Hp} {ρ : List Addr} {st st' : Stor} {x y : V} {u v : Value} {dx dy : D} {b : Bool}
/-- what an == leaves -/
def EqPost (X : Cx) (pins : List (Addr × Obj)) (σ : L2.St) (ρ : List Addr) (Hf H : Hp) (st' : Stor) (s' : Shared) : Prop := ∃ H' ρ' Hf', Inv X pins σ H' s' ∧ OStp ρ Hf H ρ' Hf' H' ∧ StOk X.K ρ' Hf' H' st'
def rEqO (K : PySem.W.Frag) (T : TabE) : R2 := fun x y H Q => ∃ (ρ : List Addr) (Hf : Hp) (st st' : Stor) (dx dy : D) (b : Bool), StOk K ρ Hf H st ∧ Dq K Hf ρ x dx ∧ Dq K Hf ρ y dy ∧ eqD T dx dy st = some (b, st') ∧ ∀ H' ρ' Hf', OStp ρ Hf H ρ' Hf' H' → StOk K ρ' Hf' H' st' → Q (.bl b) H'
def eEqO (T : TabE) (f g : F D) : F D := bnd f fun x => bnd g fun y _ st => (eqD T x y st).map fun q => .ok (.py (.bool q.1)) q.2
variable {W : WX} {ea eb : Expr} {f g : F D} {pos : Pos}
def objs : List D → Option (List Nat)
  | [] => some []
  | .obj n :: r => (objs r).map (n :: ·)
  | _ => none
def eqN (T : TabE) : List Nat → List Nat → Stor → Option (Bool × Stor)
  | [], [], st => some (true, st)
  | n :: ns, m :: ms, st => if n = m then eqN T ns ms st else match eqD T (.obj n) (.obj m) st with
    | some (true, s) => eqN T ns ms s
    | some (false, s) => some (false, s)
    | none => none
  | _, _, _ => none
def eqLs (T : TabE) (x y : D) (st : Stor) : Option (Bool × Stor) := x.lst?.bind fun xs => y.lst?.bind fun ys => (objs xs).bind fun ns => (objs ys).bind fun ms => if ns.length = ms.length then eqN T ns ms st else some (false, st)
def rEqL (K : PySem.W.Frag) (T : TabE) : R2 := fun x y H Q => ∃ (ρ : List Addr) (Hf : Hp) (st st' : Stor) (dx dy : D) (b : Bool), StOk K ρ Hf H st ∧ Dq K Hf ρ x dx ∧ Dq K Hf ρ y dy ∧ eqLs T dx dy st = some (b, st') ∧ ∀ H' ρ' Hf', OStp ρ Hf H ρ' Hf' H' → StOk K ρ' Hf' H' st' → Q (.bl b) H'
def eEqL (T : TabE) (f g : F D) : F D := bnd f fun x => bnd g fun y _ st => (eqLs T x y st).map fun q => .ok (.py (.bool q.1)) q.2
end
end Ob

namespace Ob
open PySem PySem.Spec PyProof.Rows L2 Fi
structure LenC (P : Program) (w : World) (K : PySem.W.Frag) (mg : Str → Option Value) (base : Heap) (k : Nat) (c : Str) (G : Fn) : Prop where
  ex : ∃ f, PySem.W.findIn K (.ref (He.ga K c)) "__len__" = some (some (.ref f)) ∧ PySem.W.isFn K (.ref f) = true ∧ Cal P w K mg base k f (spO K 1 G)
def lenO (c : Str) (G : Fn) (d : D) (st : Stor) : Option (Rs D) := if insC d st = some c then (match G [d] st with
  | some (.ok (.val (.py (.int n))) s) => if 0 ≤ n ∧ n < 9223372036854775808 then some (.ok (.py (.int n)) s) else none
  | _ => none) else none
def eLenO (c : Str) (G : Fn) (f : F D) : F D := bnd f fun d _ st => lenO c G d st
section
variable {X : Cx} {W : WX} {e : Expr} {f : F D} {p pos : Pos} {c : Str} {G : Fn} {j k : Nat}
/-- C() -/
def eMake0 (G : Fn) (c : Str) : F D := fun _ st => made G c [] st
end
section
variable {P : Program} {w : World} {K : PySem.W.Frag} {mg : Str → Option Value} {base : Heap} {j k : Nat} {c C : Str} {G : Fn} {T : TabE} {bl ot : List Str}
def eqB (K : PySem.W.Frag) (c : Str) (bl ot : List Str) : Bool := (tys.all fun t => decide (PySem.W.subIn K (.type t) (.ref (He.ga K c)) = some false)) && ((bl.all fun d => decide (PySem.W.subIn K (.ref (He.ga K d)) (.ref (He.ga K c)) = some true) && decide (He.ga K c ≠ He.ga K d)) && ((ot.all fun d => decide (PySem.W.subIn K (.ref (He.ga K d)) (.ref (He.ga K c)) = some false)) && (isRef (PySem.W.findIn K (.ref (He.ga K c)) "__eq__") && PySem.W.isFn K (.ref (He.ma K (He.ga K c) "__eq__")))))
def lenB (K : PySem.W.Frag) (c : Str) : Bool := isRef (PySem.W.findIn K (.ref (He.ga K c)) "__len__") && PySem.W.isFn K (.ref (He.ma K (He.ga K c) "__len__"))
end
end Ob

namespace Ob
open PySem PySem.Spec PyProof.Rows L2 Fi
structure StatO (P : Program) (w : World) (K : PySem.W.Frag) (mg : Str → Option Value) (base : Heap) (k : Nat) (c m : Str) (n : Nat) (G : List PyData → Option Fi.Sl) : Prop where
  cls : Cls K (He.ga K c)
  ex : ∃ (p f : Addr) (rest : List Value) (fd : FuncData) (ps : List Str), PySem.W.findIn K (.ref (He.ga K c)) m = some (some (.ref p)) ∧ PySem.W.typeIn K (.ref p) = some (.type "staticmethod") ∧ PySem.W.specialIn K (.ref p) "__get__" = some (some (.builtin "staticmethod.__get__")) ∧ PySem.W.takesIn K (.ref p) = some false ∧
    PySem.W.recIn K p "staticmethod" = some (.ref f :: rest) ∧ FnOk P w K mg base CX0 k f fd ps (spD K n G) ∧ PySem.W.keepIn K (.ref f) = true ∧ Binds K fd ps []
def noF (c m : Str) (d : D) (st : Stor) : Bool := match d with
  | .obj n => match st[n]? with
    | some (.ins c' fs) => decide (c' = c) && (fs.lookup m).isNone
    | _ => false
  | _ => false
def eStatO (c m : Str) (q : FE) (f : F D) : F D := bnd f fun d env st => if noF c m d st = true then pE q env st else none
section
variable {X : Cx} {W : WX} {j k : Nat} {m c : Str} {apos pos : Pos} {e o : Expr} {es : List Expr} {f : F D}
end
def statB (K : PySem.W.Frag) (c m : Str) : Bool := isRef (PySem.W.findIn K (.ref (He.ga K c)) m) && (decide (PySem.W.typeIn K (.ref (He.ma K (He.ga K c) m)) = some (.type "staticmethod")) && (decide (PySem.W.specialIn K (.ref (He.ma K (He.ga K c) m)) "__get__" = some (some (.builtin "staticmethod.__get__"))) && (decide (PySem.W.takesIn K (.ref (He.ma K (He.ga K c) m)) = some false) && isRefs (PySem.W.recIn K (He.ma K (He.ga K c) m) "staticmethod"))))
end Ob
namespace Fi
open PySem PySem.Spec PyProof.Rows L2
def fNotInS : PyData → PyData → Option PyData
  | .str s, .str z => match s.cps.toList with
    | [c] => some (.bool (!decide (c ∈ z.cps.toList)))
    | _ => none
  | _, _ => none
end Fi

namespace Ob
open PySem PySem.Spec PyProof.Rows L2 Fi
def enumO (ds : List D) : List D := List.zipWith (fun (i : Nat) y => mkT [.py (.int (i : Int)), y]) (List.range ds.length) ds
def iEnL (f : F D) : F (List D) := bnd f fun d => lft (d.lst?.map enumO)
section
variable {X : Cx} {W : WX} {e : Expr} {f : F D} {p pos tpos : Pos} {elts : List Expr} {kk : Nat}
end
end Ob
namespace Fi
open PySem PySem.Spec PyProof.Rows L2
/-- xs[::-1] -/
def lRev (f : FE) : FL := fun env => match f env with
  | some (.list l) => some l.reverse
  | _ => none
end Fi

namespace Ob
open PySem PySem.Spec PyProof.Rows L2 Fi
section
variable {M : Model} {A : Around} {E : Value → Shared → Prop} {h : Heap} {g : Array GenState} {d : Drawn} {t : Nat} {os : OsState}
end
section
variable {P : Program} {w : World} {K : PySem.W.Frag} {mg : Str → Option Value} {base : Heap} {file x qual : Str} {params : Arguments} {body : List Stmt} {scope : Scope} {kws : List (Str × V)} {Dc f : Addr} {fd : FuncData} {b : FS} {k : Nat}
end
end Ob

namespace Ob
open PySem PySem.Spec PyProof.Rows L2 Fi
structure CMt (P : Program) (w : World) (K : PySem.W.Frag) (mg : Str → Option Value) (base : Heap) (k : Nat) (C m : Str) (n : Nat) (G : Fn) : Prop where
  g : mg C = some (.ref (He.ga K C))
  ex : ∃ (mc : Value) (p f : Addr), ClX.CRead K (He.ga K C) mc ∧ ClX.CMet K (He.ga K C) mc m p f ∧ Cal P w K mg base k f (spO K (n + 1) G)
def eCM (G : Fn) (C : Str) (n : Nat) (r : F (List D)) : F D := bnd r fun ds _ st => if ds.length = n then goE G (.cls C :: ds) st else none
section
variable {X : Cx} {W : WX} {j k n : Nat} {G : Fn} {C x m : Str} {p pos apos : Pos} {e o : Expr} {es : List Expr} {r : F (List D)} {f g : F D}
theorem run_calM {sp : Sp} {pins : List (Addr × Obj)} {σ : L2.St} {H : Hp} {s : Shared} {Q : VK} {us : List Value} {vs : List V} {E : XK} {q g C : Addr} (F : Cal X.prog X.w X.K X.mg X.base k g sp) (hr : Room k X.A) (hx : PassesAt (L2N.CX X.prog X.w) X σ E) (I : Inv X ((q, PySem.W.methodObj (.ref g) (.ref C)) :: pins) σ H s) (r : Vals vs us) (h : sp (.ref C :: vs) H Q E) :
    wpAny (model X.prog X.w) X.A (call (.ref q) us) (EP X pins σ Q) X.xe s := by
  have z : wpAny (model X.prog X.w) X.A (call (.ref q) us) (EP X ((q, PySem.W.methodObj (.ref g) (.ref C)) :: pins) σ Q) X.xe s := by
    refine wpAny_call (PySem.W.method_call (ClX.pin_at I) (codeAny_mono (F X.A X.stack s H (.ref C :: us) (.ref C :: vs) Q E hr I.env0 (.cons rfl r) h) fun r s' hq => ?_))
    cases r with
    | error e => exact hx _ H s e s' I hq
    | ok fl =>
      cases fl with
      | ret u => exact I.after hq
      | next => exact False.elim hq
      | brk => exact False.elim hq
      | cont => exact False.elim hq
  exact thn z fun _ _ y => ClX.unpinE y
/-- C.m(..), m a class method -/
theorem x_cm {pl : Sem Bool} (c : CMt X.prog X.w X.K X.mg X.base j C m n G) (hr : Room k X.A) (tk : L2N.Takes X W) (ha : PA X (e :: es) (tA X.K W r)) (hg : Gl X C := by rfl) (hjk : j ≤ k := by decide) (hdb : (C == ("__debug__" : Str)) = false := by decide)
    (hst : starEach (e :: es) X.env = (false, eval e X.env) :: starEach es X.env := by rfl) (hpl : (backTo pos (starEach es X.env)).any (·.1) = false := by rfl)
    (ht : eval (.Call (.Attribute (.Name C p) m apos) (e :: es) [] pos) X.env = (do
      let ov ← eval (.Name C p) X.env
      standAt apos.atName
      let (f, first) ← holding [ov] (getMethod ov m pl)
      callWith pos f first (backTo pos (starEach (e :: es) X.env)) (backToKw pos (keywordEach [] X.env))) := by rfl) :
    PE X (.Call (.Attribute (.Name C p) m apos) (e :: es) [] pos) (tE X.K W (eCM G C n r)) := by
  obtain ⟨mc, pp, f, h1, h2, h3⟩ := c.ex
  have hn : PE X (.Name C p) (tC (.ref (He.ga X.K C))) := ⟨fun _ _ _ H _ I h => ld_glob I hg c.g ⟨.ref _, H, I, rfl, h⟩ hdb⟩
  refine ⟨fun pins s σ H Q I ⟨Z, ρ, Hf, env, st, o, R, e, k⟩ => ?_⟩
  refine PySem.W.methodCall_KW (pl := pl) (thn (hn.run pins s σ H (fun x H1 => x = .ref (He.ga X.K C) ∧ H1 = H) I ⟨rfl, rfl⟩) fun u s1 ⟨x, H1, I1, rx, ex, eH⟩ => ?_) ht
  subst ex eH
  obtain rfl : u = Value.ref (He.ga X.K C) := rx
  refine ClX.getmethcm_ok I1 h1 h2 fun s2 I2 => ?_
  refine ClX.callwith_cm I2 (ClX.base_none I1 (Nat.le_refl _)) h2.fi (thn (ha.run pos _ s2 σ H1 _ I2 (bind_at bE R e k (P := fun vs H1 => spO X.K (n + 1) G (.ref (He.ga X.K C) :: vs) H1 Q (WE W σ)) fun vs H1 ρ1 Hf1 s1 ds t1 r1 R1 e1 k1 => ?_)) fun us s3 ⟨vs, H2, I3, rv, q2⟩ => ⟨⟨ClX.pin_at I3, I3.kIn⟩, ?_⟩) hst hpl
  · obtain ⟨hn, e1⟩ := ite_some e1
    exact spO_E R1.ok (.cons .cls r1) (by rw [List.length_cons, hn]) e1 k1
  · exact run_calM h3 (hr.mono hjk) (L2N.passAt tk σ) I3 rv q2
/-- what is called is a class that a variable holds -/
abbrev TabM := List (Str × Fn)
def MkT (P : Program) (w : World) (K : PySem.W.Frag) (mg : Str → Option Value) (base : Heap) (k n : Nat) (T : TabM) : Prop := ∀ p ∈ T, Mkr P w K mg base k p.1 n p.2
theorem mkT_nil {P : Program} {w : World} {K : PySem.W.Frag} {mg : Str → Option Value} {base : Heap} : MkT P w K mg base k n [] := fun _ h => by cases h
theorem mkT_cons {P : Program} {w : World} {K : PySem.W.Frag} {mg : Str → Option Value} {base : Heap} {T : TabM} {c : Str} (h : Mkr P w K mg base k c n G) (t : MkT P w K mg base k n T) : MkT P w K mg base k n ((c, G) :: T) := fun p hp => by
  rcases List.mem_cons.mp hp with e | hp
  · rw [e]; exact h
  · exact t p hp
def eMakeV (T : TabM) (i n : Nat) (r : F (List D)) : F D := fun env st => match env[i]? with
  | some (some (.val (.cls c))) => (T.lookup c).bind fun G => eMake G c n r env st
  | _ => none
theorem x_makeV {T : TabM} {i : Nat} (M : MkT X.prog X.w X.K X.mg X.base j n T) (hr : Room k X.A) (tk : L2N.Takes X W) (ha : PA X (e :: es) (tA X.K W r)) (hN : X.N[i]? = some x := by rfl) (hv : Vis X.env.scope x := by first | exact Or.inl rfl | exact Or.inr (Or.inl rfl) | exact Or.inr (Or.inr rfl)) (hjk : j + 1 ≤ k := by decide)
    (hd : (x == ("__debug__" : Str)) = false := by decide) (hcd : (x == ("__classdict__" : Str)) = false := by decide) (he : starEach (e :: es) X.env = (false, eval e X.env) :: starEach es X.env := by rfl) (hpl : (backTo pos (starEach es X.env)).any (·.1) = false := by rfl) :
    PE X (.Call (.Name x p) (e :: es) [] pos) (tE X.K W (eMakeV T i n r)) := by
  refine ⟨fun pins s σ H Q I ⟨Z, ρ, Hf, env, st, o, R, e, k⟩ => ?_⟩
  unfold eMakeV at e
  split at e
  · rename_i c q
    obtain ⟨G, hG, e⟩ := obind e
    have MM := M _ (lookup_mem hG)
    obtain ⟨f, hM, hF⟩ := MM.ex
    obtain ⟨v, h1, h2⟩ := R.sl i _ q
    cases h2
    refine wpAny_Call_Name_kw (thn ((pe_var hN hv hd hcd).run pins s σ H (fun x H1 => x = .ref (He.ga X.K c) ∧ H1 = H) I ⟨_, h1, rfl, rfl⟩) fun u s1 ⟨x, H1, I1, rx, ex, eH⟩ => ?_)
    subst ex eH
    obtain rfl : u = Value.ref (He.ga X.K c) := rx
    refine PySem.W.callWith_K (h₀ := X.base) I1.ok.mod.kin hM.kp (thn (ha.run pos pins s1 σ H1 _ I1 (bind_at bE R e k (P := fun vs H1 => ∀ x dx, H1 x = none → H1 dx = none → dx ≠ x → spO X.K (n + 1) G (.ref x :: vs) (upd (upd H1 dx (.own x)) x (.ins (He.ga X.K c) dx [])) (fun v H2 => v = .non ∧ Q (.ref x) H2) (WE W σ)) fun vs H1 ρ1 Hf1 s1 ds t1 r1 R1 e1 k1 => ?_)) fun us s1 ⟨vs, H1, I1, rv, q⟩ => ⟨I1.kIn, ?_⟩) he hpl
    · obtain ⟨hn, e1⟩ := ite_some e1
      exact spO_M R1.ok r1 hn e1 k1
    · exact run_mk hM hF (hr.mono hjk) (L2N.passAt tk σ) I1 rv q
  · cases e
/-- x(*y), x a variable that holds the class c -/
def eMakeVS (c : Str) (G : Fn) (i : Nat) (f : F D) : F D := fun env st => match env[i]? with
  | some (some (.val (.cls c'))) => if c' = c then bnd f (fun d _ st => d.seq?.bind fun ds => made G c ds st) env st else none
  | _ => none
theorem x_makeVS {c : Str} {i : Nat} {sp_ : Pos} (M : ∀ n, Mkr X.prog X.w X.K X.mg X.base j c n G) (hr : Room k X.A) (tk : L2N.Takes X W) (ha : PE X e (tE X.K W f)) (hN : X.N[i]? = some x := by rfl) (hv : Vis X.env.scope x := by first | exact Or.inl rfl | exact Or.inr (Or.inl rfl) | exact Or.inr (Or.inr rfl)) (hjk : j + 1 ≤ k := by decide)
    (hd : (x == ("__debug__" : Str)) = false := by decide) (hcd : (x == ("__classdict__" : Str)) = false := by decide) (hst : starEach [.Starred e sp_] X.env = [(true, eval e X.env)] := by rfl) :
    PE X (.Call (.Name x p) [.Starred e sp_] [] pos) (tE X.K W (eMakeVS c G i f)) := by
  refine ⟨fun pins s σ H Q I ⟨Z, ρ, Hf, env, st, o, R, e, k⟩ => ?_⟩
  unfold eMakeVS at e
  split at e
  · rename_i c' q
    obtain ⟨rfl, e⟩ := ite_some e
    obtain ⟨v, h1, h2⟩ := R.sl i _ q
    cases h2
    refine wpAny_Call_Name_kw (thn ((pe_var hN hv hd hcd).run pins s σ H (fun x H1 => x = .ref (He.ga X.K c') ∧ H1 = H) I ⟨_, h1, rfl, rfl⟩) fun u s1 ⟨x, H1, I1, rx, ex, eH⟩ => ?_)
    subst ex eH
    obtain rfl : u = Value.ref (He.ga X.K c') := rx
    obtain ⟨_, hM0, _⟩ := (M 0).ex
    refine PySem.W.callWith_S (h₀ := X.base) I1.ok.mod.kin hM0.kp (thn (ha.run pins s1 σ H1 _ I1 (bind_at bE R e k (P := fun y H1 => ∃ a xs, y = V.ref a ∧ (SqT X.K H1 a xs ∨ SqL X.K H1 a xs) ∧ ∃ n, ∀ x dx, H1 x = none → H1 dx = none → dx ≠ x → spO X.K (n + 1) G (.ref x :: xs) (upd (upd H1 dx (.own x)) x (.ins (He.ga X.K c') dx [])) (fun v H2 => v = .non ∧ Q (.ref x) H2) (WE W σ)) fun y H1 ρ1 Hf1 s1 d t1 r1 R1 e1 k1 => ?_)) fun v s2 ⟨y, H2, I2, ry, a, xs, ey, hxs, n, q⟩ => ?_) hst
    · obtain ⟨ds, hds, e1⟩ := obind e1
      obtain ⟨a, xs, rfl, hq, hdq⟩ := Dq.seq_of r1 hds
      refine ⟨a, xs, rfl, (sq_up R1.ok.i hq).symm, ds.length, ?_⟩
      exact spO_M R1.ok hdq rfl e1 k1
    · subst ey
      obtain rfl : v = Value.ref a := ry
      obtain ⟨f, hM, hF⟩ := (M n).ex
      exact StX.star_any I2 hxs fun us s3 I3 rv => ⟨I3.kIn, run_mk hM hF (hr.mono hjk) (L2N.passAt tk σ) I3 rv q⟩
  · cases e
end
theorem cmt_of {P : Program} {w : World} {K : PySem.W.Frag} {mg : Str → Option Value} {base : Heap} {C m : Str} {j k n : Nat} {G : Fn} (h : cmB K C m = true) (g : mg C = some (.ref (He.ga K C))) (F : Cal P w K mg base j (Lo.ad K (.k C m)) (spO K (n + 1) G)) (hk : j ≤ k := by decide) : CMt P w K mg base k C m n G := by
  obtain ⟨h1, h⟩ := He.ba h
  obtain ⟨h2, h⟩ := He.ba h
  obtain ⟨h3, h4⟩ := He.ba h
  obtain ⟨rest, h5⟩ := isRefs_ok h3
  refine ⟨g, mcOf K (He.ga K C), He.ma K (He.ga K C) m, _, read_of h1, ⟨?_, ⟨rest, h5⟩, h4⟩, F.mono hk⟩
  split at h2
  · rename_i g p C' q
    obtain ⟨a1, a2⟩ := He.ba h2
    obtain ⟨a3, a4⟩ := He.ba a2
    rw [q, of_decide_eq_true a1, of_decide_eq_true a3, of_decide_eq_true a4]
  · cases h2
end Ob
namespace Fi
open PySem PySem.Spec PyProof.Rows L2
def fCount : PyData → PyData → Option PyData
  | .str a, .str b => some (.int (Txt.count a b))
  | _, _ => none
def fSplit : PyData → PyData → Option (List PyData)
  | .str a, .str b => if (b.length == 0) = false ∧ a.length + 2 ≤ sizeLine then some ((Txt.split a b).map .str) else none
  | _, _ => none
def lSplit (f g : FE) : FL := fun env => (f env).bind fun x => (g env).bind fun y => fSplit x y
section
variable {X : Cx} {o e : Expr} {f g : FE} {apos pos : Pos}
theorem strs_dp {K : PySem.W.Frag} {H : Hp} : ∀ zs : List Str, DpAll K H (zs.map V.str) (zs.map .str)
  | [] => .nil
  | z :: zs => .cons (.str z) (strs_dp zs)
theorem x_count (ho : PE X o (tE X.K f)) (he : PE X e (tE X.K g)) (hs : starEach [e] X.env = [(false, eval e X.env)] := by rfl) (hbase : attributeBase o "count" X.env (eval o X.env) = eval o X.env := by rfl) (hline : (apos.endLine == pos.line) = true := by rfl) :
    PE X (.Call (.Attribute o "count" apos) [e] [] pos) (tE X.K (e2 fCount f g)) := pe_le (pe_m1 F.slot_str_count F.type_str_count mt_count ho he hs hbase hline) fun σ H Q ⟨Z, Hf, env, d, R, hf, k⟩ => by
  obtain ⟨x, hx, hf⟩ := Option_bind_some hf
  obtain ⟨y, hy, hf⟩ := Option_bind_some hf
  unfold fCount at hf
  split at hf
  · cases hf
    exact ⟨Z, Hf, env, _, R, hx, fun v H1 Hf1 s1 d1 => ⟨⟨_, d1.str_eq⟩, Z, Hf1, env, _, R.step s1, hy, fun u H2 Hf2 s2 d2 => ⟨_, _, d1.str_eq, by rw [d2.str_eq], k _ H2 Hf2 (s1.trans s2) (.int _)⟩⟩⟩
  · cases hf
theorem l_split (ho : PE X o (tE X.K f)) (he : PE X e (tE X.K g)) (hs : starEach [e] X.env = [(false, eval e X.env)] := by rfl) (hbase : attributeBase o "split" X.env (eval o X.env) = eval o X.env := by rfl) (hline : (apos.endLine == pos.line) = true := by rfl) :
    PE X (.Call (.Attribute o "split" apos) [e] [] pos) (tL X.K (lSplit f g)) := pe_le (pe_m1 F.slot_str_split F.type_str_split mt_split ho he hs hbase hline) fun σ H Q ⟨Z, Hf, env, d, R, hf, k⟩ => by
  obtain ⟨x, hx, hf⟩ := Option_bind_some hf
  obtain ⟨y, hy, hf⟩ := Option_bind_some hf
  unfold fSplit at hf
  split at hf
  · rename_i a b
    split at hf
    · rename_i hc
      cases hf
      refine ⟨Z, Hf, env, _, R, hx, fun v H1 Hf1 s1 d1 => ⟨⟨_, d1.str_eq⟩, Z, Hf1, env, _, R.step s1, hy, fun u H2 Hf2 s2 d2 => ⟨_, _, d1.str_eq, by rw [d2.str_eq], hc.1, hc.2, fun p hp => ?_⟩⟩⟩
      have s12 := s1.trans s2
      exact k p _ _ _ (s12.trans (Stp.hid s2.i hp)) (s12.h.free hp) (s2.i.free hp) upd_same (strs_dp _)
    · cases hf
  · cases hf
def fIntT : List PyData → Option PyData
  | [.str a] => if a.length ≤ 640 then (PySem.intText? a).map .int else none
  | _ => none
theorem cd_intT : CallD X (.type "int") fIntT := by
  intro pins s σ H vs us Q I r ⟨Hf, ds, d, hi, hd, hF, k⟩
  unfold fIntT at hF
  split at hF
  · rename_i a
    split at hF
    · rename_i hl
      obtain ⟨n, hn, rfl⟩ := Option.map_eq_some_iff.mp hF
      obtain ⟨v, rfl, hv⟩ := hd.one
      exact call_int_str pins s σ H _ us Q I r ⟨a, n, by rw [hv.str_eq], hn, hl, k _ H Hf (.refl hi) (.int n)⟩
    · cases hF
  · cases hF
end
end Fi

namespace Ob
open PySem PySem.Spec PyProof.Rows L2 Fi
def prsD : List PyData → Option (List (Str × PyData))
  | [] => some []
  | .tuple [.str k, v] :: l => (prsD l).map ((k, v) :: ·)
  | _ => none
def eDict (f : F D) : F D := bnd f fun d _ st => match d with
  | .py (.list l) => (prsD l).bind fun kvs => if (kvs.map (·.1)).Nodup then some (.ok (.obj st.length) (st ++ [.dct (kvs.map fun p => (p.1, D.py p.2))])) else none
  | _ => none
section
variable {X : Cx} {W : WX} {e o : Expr} {f g : F D} {p pos : Pos}
def eDGet (f g : F D) : F D := bnd f fun x => bnd g fun y _ st => match x, y with
  | .obj n, .py (.str k) => (match st[n]? with
    | some (.dct ks) => (ks.lookup k).map fun d => .ok d st
    | _ => none)
  | _, _ => none
theorem ks_get {K : PySem.W.Frag} {Hf : Hp} {ρ : List Addr} {k : Str} {d : D} : ∀ {vs : List (Key × V)} {ks : List (Str × D)}, KsOk K Hf ρ vs ks → ks.lookup k = some d → ∃ v, valV vs (Sum.inr k) = some v ∧ Dq K Hf ρ v d
  | _, _, .nil, e => by cases e
  | p :: vs, q :: ks, .cons h t, e => by
    rw [List.lookup_cons] at e
    by_cases hk : q.1 = k
    · have : (k == q.1) = true := by simp [hk]
      rw [this] at e
      cases e
      exact ⟨p.2, valV_pos (by rw [h.1, hk]), h.2⟩
    · have : (k == q.1) = false := by
        rw [beq_eq_false_iff_ne]
        exact Ne.symm hk
      rw [this] at e
      obtain ⟨v, h1, h2⟩ := ks_get t e
      exact ⟨v, by rw [valV_neg (by rw [h.1]; exact fun z => hk (Sum.inr.inj z))]; exact h1, h2⟩
theorem x_dget (hu : X.A.units + 1 < cLine) (ho : PE X o (tE X.K W f)) (hi : PE X e (tE X.K W g)) (hs : NoSl e) : PE X (.Subscript o e pos) (tE X.K W (eDGet f g)) := pe_le (pe_dget hu ho hi hs) fun σ H Q ⟨Z, ρ, Hf, env, st, o, R, e, k⟩ => by
  refine bind_at bE R e k fun x H1 ρ1 Hf1 s1 d t1 r1 R1 e1 k1 => ?_
  refine bind_at bE R1 e1 k1 fun y H2 ρ2 Hf2 s2 dy t2 r2 R2 e2 k2 => ?_
  split at e2
  · rename_i n kk
    split at e2
    · rename_i ks hst
      obtain ⟨dv, hl, rfl⟩ := map_ok e2
      cases Dq.up t2.up r1 with
      | obj ha =>
        obtain ⟨vs, h1, h2⟩ := R2.ok.ob n _ _ ha hst
        obtain ⟨v, h3, h4⟩ := ks_get h2 hl
        have ey : y = V.str kk := (Dq.dp r2).str_eq
        subst ey
        exact ⟨_, v, rfl, by rw [← h3]; exact DGet.k (k := Sum.inr kk) h1, k2.now R2 h4⟩
    · cases e2
  · cases e2
end
end Ob
namespace Fi
open PySem PySem.Spec PyProof.Rows L2
/-- s[i] of a text -/
def fIxS : PyData → PyData → Option PyData
  | .str z, .int i => if 0 ≤ i ∧ i < z.length ∧ i < 2 ^ 63 then z.cps[i.toNat]?.map fun c => .str ⟨#[c]⟩ else none
  | _, _ => none
theorem x_ixS {X : Cx} {a b : Expr} {f g : FE} {pos : Pos} (ha : PE X a (tE X.K f)) (hb : PE X b (tE X.K g)) (hs : PlainIxT b) : PE X (.Subscript a b pos) (tE X.K (e2 fIxS f g)) := pe_le (pe_item_str ha hb hs) fun σ H Q ⟨Z, Hf, env, d, R, hf, k⟩ => by
  obtain ⟨x, hx, hf⟩ := Option_bind_some hf
  obtain ⟨y, hy, hf⟩ := Option_bind_some hf
  unfold fIxS at hf
  split at hf
  · skip
    split at hf
    · rename_i hc
      obtain ⟨c, h1, rfl⟩ := Option.map_eq_some_iff.mp hf
      exact ⟨Z, Hf, env, _, R, hx, fun v H1 Hf1 s1 d1 => ⟨Z, Hf1, env, _, R.step s1, hy, fun u H2 Hf2 s2 d2 => ⟨_, _, c, d1.str_eq, d2.int_eq, hc.1, hc.2.2, hc.2.1, h1, k _ H2 Hf2 (s1.trans s2) (.str _)⟩⟩⟩
    · cases hf
  · cases hf
end Fi

namespace Ob
open PySem PySem.Spec PyProof.Rows L2 Fi
def CalH (P : Program) (w : World) (K : PySem.W.Frag) (mg : Str → Option Value) (base : Heap) (k : Nat) (f : Addr) (sp : Sp) : Prop :=
  ∀ (A : Around) (outer : List Env) (s : Shared) (H : Hp) (us : List Value) (vs : List V) (Q : VK) (E : XK) (p : Addr × Obj), L2H.RoomH k A → L2H.Hot1 A p → L2H.PinOk outer H s p → Env0 P w K mg base A outer s H → Vals vs us → sp vs H Q E → codeAny (model P w) A (.call (.ref f) ⟨us, []⟩) (CR (L2N.CX P w) outer P w H s Q E) s
section
variable {P : Program} {w : World} {K : PySem.W.Frag} {mg : Str → Option Value} {base : Heap} {j k : Nat} {f : Addr} {fd : FuncData} {ps : List Str} {sp : Sp}
theorem CalH.mono (c : CalH P w K mg base j f sp) (h : j ≤ k) : CalH P w K mg base k f sp := fun A o s H us vs Q E p hr => c A o s H us vs Q E p (hr.mono h)
theorem calH_of (F : L2H.FnH P w K mg base (L2N.CX P w) k f fd ps sp) (hb : Binds K fd ps []) : CalH P w K mg base k f sp := fun A outer s H us vs Q E p hr hot hpin e0 r h => by
  have hl : us.length = ps.length := by rw [← r.length]; exact F.len _ _ _ _ h
  have b := hb s us (e0.mod.kin.keeps fun b o e => (e0.bs b o e).1) (by rw [List.append_nil]; exact hl)
  rw [List.append_nil] at b
  exact F.run A outer s H ⟨us, []⟩ us vs Q E p hr hot hpin e0 b r h
end
theorem pinOk_of {X : Cx} {pins : List (Addr × Obj)} {σ : L2.St} {H : Hp} {s : Shared} {p : Addr × Obj} (hp : p ∈ X.pn) (I : Inv X pins σ H s) : L2H.PinOk X.stack H s p := by
  have P1 := I.pin p (List.mem_append_left _ hp)
  exact ⟨P1.1, P1.2.1, fun hm => (List.mem_cons.mp (I.stkSub p.1 hm)).elim P1.2.2.1 P1.2.2.2.1, P1.2.2.2.2⟩
structure MetH (P : Program) (w : World) (K : PySem.W.Frag) (mg : Str → Option Value) (base : Heap) (k : Nat) (m : Str) (n : Nat) (c : Str) (G : Fn) : Prop where
  cls : Cls K (He.ga K c)
  ex : ∃ f : Addr, Meth K (He.ga K c) m f ∧ CalH P w K mg base k f (spO K (n + 1) G)
def MetsH (P : Program) (w : World) (K : PySem.W.Frag) (mg : Str → Option Value) (base : Heap) (k : Nat) (m : Str) (n : Nat) (T : Tab) : Prop := ∀ p ∈ T, MetH P w K mg base k m n p.1 p.2
structure SupMH (P : Program) (w : World) (K : PySem.W.Frag) (mg : Str → Option Value) (base : Heap) (k : Nat) (Dc : Addr) (m : Str) (n : Nat) (c : Str) (G : Fn) : Prop where
  sub : PySem.W.mroIn K (He.ga K c) (.ref Dc) = some true
  ex : ∃ f2, PySem.W.ks_superIn K (He.ga K c) Dc m = some (some (.ref f2)) ∧ PySem.W.typeIn K (.ref f2) = some (.type "function") ∧ PySem.W.fnIn K f2 = true ∧ CalH P w K mg base k f2 (spO K (n + 1) G)
def SupMsH (P : Program) (w : World) (K : PySem.W.Frag) (mg : Str → Option Value) (base : Heap) (k : Nat) (Dc : Addr) (m : Str) (n : Nat) (T : Tab) : Prop := ∀ p ∈ T, SupMH P w K mg base k Dc m n p.1 p.2
section
variable {X : Cx} {W : WX} {j k n : Nat} {G : Fn} {x m : Str} {p pos apos : Pos} {e o : Expr} {es : List Expr} {r : F (List D)} {f g : F D}
end
section
variable {X : Cx} {W : WX} {body : List Stmt} {Dc : Addr} {T : Tab} {m : Str} {n j k : Nat} {p0 p1 apos pos : Pos} {e : Expr} {es : List Expr} {r : F (List D)}
end
section
variable {P : Program} {w : World} {K : PySem.W.Frag} {mg : Str → Option Value} {base : Heap} {j k n : Nat} {c C Dn m : Str} {G : Fn} {T : Tab}
end
theorem takesH {P : Program} {w : World} {K : PySem.W.Frag} {mg : Str → Option Value} {base : Heap} {N : List Str} {qual : Str} {scope : Scope} {f : Addr} {cdv : Value} {A : Around} {outer : List Env} {s : Shared} {H : Hp} {E : XK} {p : Addr × Obj} :
    L2N.Takes (L2H.cxH (L2N.CX P w) P w K mg base N qual scope f cdv A outer s H E p) (fun cls d _ H => E cls d H) := L2N.takes_of rfl rfl rfl rfl
theorem def_okH {P : Program} {w : World} {K : PySem.W.Frag} {mg : Str → Option Value} {base : Heap} {x qual : Str} {params : Arguments} {body : List Stmt} {scope : Scope} {dvs : List V} {kws : List (Str × V)} {f : Addr} {fd : FuncData} {N ps : List Str} {b : FS} {n np k : Nat}
    (hF : FunD K x qual params body scope dvs kws f fd) (S : FnScope N ps scope) (hn : N.length = n) (hp : ps.length = np)
    (hb : ∀ (cdv : Value) (A : Around) (outer : List Env) (s : Shared) (H : Hp) (E : XK) (p : Addr × Obj), L2H.HotC (L2H.cxH (L2N.CX P w) P w K mg base N qual scope f cdv A outer s H E p) → L2H.RoomH k (A.deeper (envOfC qual scope s.heap.objs.size f cdv)) → L2N.Takes (L2H.cxH (L2N.CX P w) P w K mg base N qual scope f cdv A outer s H E p) (fun cls d _ H => E cls d H) →
      PSs (L2H.cxH (L2N.CX P w) P w K mg base N qual scope f cdv A outer s H E p) body (tS K (fun cls d _ H => E cls d H) b)) :
    L2H.FnH P w K mg base (L2N.CX P w) (k + 1) f fd ps (spO K np (fnO n b)) := by
  obtain ⟨oc, od, dV, kV, doc, pm, an, cdv, ct, osl, rfl, lk, hcd, _, _⟩ := hF.ex
  refine L2H.fn_ofH lk hcd S (fun vs H Q E h => by rw [h.1, hp]) fun A outer s H vs Q E p hot hr h => ?_
  exact ⟨_, hb cdv A outer s H E p ⟨p, hot, List.mem_singleton.mpr rfl⟩ hr takesH, body_ok (X := L2H.cxH (L2N.CX P w) P w K mg base N qual scope f cdv A outer s H E p) (sts := body) hn h⟩
def cxSH (P : Program) (w : World) (K : PySem.W.Frag) (mg : Str → Option Value) (base : Heap) (N : List Str) (qual : Str) (scope : Scope) (f : Addr) (cd : Value) (cc : Addr) (A : Around) (outer : List Env) (s : Shared) (H : Hp) (E : XK) (p : Addr × Obj) : Cx := { cxS P w K mg base N qual scope f cd cc A outer s H E with calm := false, pn := [p] }
section
variable {P : Program} {w : World} {K : PySem.W.Frag} {mg : Str → Option Value} {base : Heap} {file x qual : Str} {params : Arguments} {body : List Stmt} {scope : Scope} {dvs : List V} {kws : List (Str × V)} {Dc f : Addr} {fd : FuncData} {N ps : List Str} {b : FS} {n np k : Nat} {ar : Arg}
abbrev BodySH (P : Program) (w : World) (K : PySem.W.Frag) (mg : Str → Option Value) (base : Heap) (N : List Str) (qual : Str) (scope : Scope) (f Dc : Addr) (body : List Stmt) (k : Nat) (b : FS) : Prop :=
  ∀ (cdv : Value) (cc : Addr) (A : Around) (outer : List Env) (s : Shared) (H : Hp) (E : XK) (p : Addr × Obj), L2H.HotC (cxSH P w K mg base N qual scope f cdv cc A outer s H E p) → L2H.RoomH k (A.deeper (PySem.W.ksEnv qual scope s.heap.objs.size f cdv cc)) → L2N.Takes (cxSH P w K mg base N qual scope f cdv cc A outer s H E p) (fun cls d _ H => E cls d H) → SupX (cxSH P w K mg base N qual scope f cdv cc A outer s H E p) Dc →
    PSsA (cxSH P w K mg base N qual scope f cdv cc A outer s H E p) (.func body (cxSH P w K mg base N qual scope f cdv cc A outer s H E p).env) body (tS K (fun cls d _ H => E cls d H) b)
end
end Ob

namespace Ob
open PySem PySem.Spec PyProof.Rows L2 Fi
def zipD (xs ys : List D) : List D := List.zipWith (fun x y => mkT [x, y]) xs ys
def iZipL (r : F (List D)) : F (List D) := bnd r fun ds => lft (match ds with
  | [x, y] => (D.lst? x).bind fun xs => (D.lst? y).bind fun ys => some (zipD xs ys)
  | _ => none)
section
variable {X : Cx} {W : WX} {e e2 : Expr} {r : F (List D)} {p pos tpos : Pos} {elts : List Expr} {kk : Nat}
end
section
variable {X : Cx} {tg : Expr}
end
section
variable {X : Cx} {W : WX} {tg iter : Expr} {pos : Pos} {fi : F (List D)} {g : D → En → Option En} {fb : FS} {sl : List Nat} {body : List Stmt}
end
section
variable {X : Cx} {pos : Pos}
end


theorem roomS {k : Nat} {A : Around} {v : Option Value} (hr : Room k A) : L2H.RoomH k (A.mark v) := ⟨hr.dp, hr.un⟩
def sTry (cs : List Str) (fb fs : FS) : FS := fun env st => match fb env st with
  | some (.exc c e s) => if c ∈ cs then (match fs e s with
    | some (.exc _ _ _) => none
    | o => o) else none
  | o => o
structure Cat (X : Cx) (x : Str) (cs : List Str) : Prop where
  g : X.mg x = some (.ref (He.ga X.K x))
  m : ∀ c ∈ cs, PySem.W.exmOne X.K (.ref (He.ga X.K c)) (.ref (He.ga X.K x)) = some true
theorem s_try {X : Cx} {W : WX} {x : Str} {cs : List Str} {body suite : List Stmt} {b₀ : Stmt} {fb fs : FS} {np pos' pos : Pos} (E : Cat X x cs) (tk : L2N.Takes X W)
    (hb : ∀ (W : WX) (pn : List (Addr × Obj)) (xe : Value → Shared → Prop), L2N.Takes (X.tr pn xe) W → PassesOwn (model X.prog X.w) X.A X.env xe → PSs (X.tr pn xe) body (tS X.K W fb))
    (hsu : ∀ (a : Addr) (oe : Obj) (pn : List (Addr × Obj)), L2H.HotC (X.suite a ((a, oe) :: pn)) → PSs (X.suite a ((a, oe) :: pn)) (b₀ :: suite) (tS X.K W0 fs))
    (hs : X.stack = X.env :: X.outer := by rfl) (hf : X.env.frame = some X.env.locals := by rfl) (hgx : Gl X x := by rfl) (hdx : (x == ("__debug__" : Str)) = false := by decide) :
    PS X (.Try body [.ExceptHandler (some (.Name x np)) none (b₀ :: suite) pos'] [] [] pos) (tS X.K W (sTry cs fb fs)) := by
  refine ps_le (L2N.ps_try_many (tb := fun W => tS X.K W fb) (l := [(.ref (He.ga X.K x), fun _ _ _ => tS X.K W0 fs)]) hs hf tk hb (.cons ⟨hgx, hdx, .inl E.g⟩ (fun a oe cls d pn hz ho => hsu a oe pn (by
    obtain ⟨vs, hvs⟩ := ho
    exact ⟨(a, oe), ⟨rfl, vs, hvs, hz.2.2 vs hvs⟩, List.mem_cons_self⟩)) .nil)) fun D σ H ⟨Z, ρ, Hf, env, st, o, R, e, kk⟩ => ?_
  unfold sTry at e
  cases qb : fb env st with
  | none => rw [qb] at e; cases e
  | some o1 =>
    rw [qb] at e
    refine ⟨Z, ρ, Hf, env, st, o1, R, qb, ?_⟩
    cases o1 with
    | next e1 s1 => cases e; exact kk
    | brk e1 s1 => cases e; exact kk
    | cont e1 s1 => cases e; exact kk
    | ret d1 s1 => cases e; exact kk
    | retL d1 s1 => cases e; exact kk
    | exc c e1 s1 =>
      dsimp only at e
      split at e
      · rename_i hm
        intro σ' H' ρ' Hf' up R'
        refine ⟨true, E.m _ hm, fun _ a ha => ?_, fun z => by cases z⟩
        cases qs : fs e1 s1 with
        | none => rw [qs] at e; cases e
        | some o2 =>
          rw [qs] at e
          refine ⟨Z, ρ', Hf', e1, s1, o2, R', qs, ?_⟩
          have k2 := kk.up up
          cases o2 with
          | next e1 s1 => cases e; exact k2
          | brk e1 s1 => cases e; exact k2
          | cont e1 s1 => cases e; exact k2
          | ret d1 s1 => cases e; exact k2
          | retL d1 s1 => cases e; exact k2
          | exc c e1 s1 => cases e
      · cases e
end Ob

namespace Ob
open PySem PySem.Spec PyProof.Rows L2 Fi
section
variable {X : Cx} {W : WX} {e : Expr} {pos : Pos} {f : F D} {r : F (List D)}
def sPar3O (i j k : Nat) (r : F (List D)) : FS := sE r fun ds env st => match ds with
  | [a, b] => some (.next (((env.set i (some (.own []))).set j (some (.val a))).set k (some (.val b))) st)
  | _ => none
def sPar4O (i j k l : Nat) (f : F D) : FS := sE f fun d env st => some (.next ((((env.set i (some (.own []))).set j (some (.own []))).set k (some (.own []))).set l (some (.val d))) st)
end
section
variable {X : Cx} {W : WX} {e : Expr} {p pos : Pos} {f : F D}
def eListM (f : F D) : F D := bnd f fun d _ st => (stL d st).bind fun q => some (.ok (.obj st.length) (st ++ [.lst q.2]))
end
end Ob
namespace Fi
open PySem PySem.Spec PyProof.Rows L2
def fIndex : PyData → PyData → Option PyData
  | .list l, .str k => (Ht.strsOf l).bind fun ys => if k ∈ ys ∧ ys.length ≤ sizeLine then some (.int (ys.idxOf k : Nat)) else none
  | _, _ => none
def tIndexS (K : PySem.W.Frag) (to te : TE) : TE := fun σ H Q => to σ H fun x H1 => tyV K "list" x H1 ∧ te σ H1 fun y H2 => ∃ (l : Addr) (ys : List Str) (k : Str), x = .ref l ∧ y = .str k ∧ SqL K H2 l (ys.map V.str) ∧ k ∈ ys ∧ ys.length ≤ sizeLine ∧ Q (.int (ys.idxOf k : Nat)) H2
section
variable {X : Cx} {o e : Expr} {to te : TE} {f g : FE} {apos cpos : Pos}
end
end Fi

namespace Fi
open PySem PySem.Spec PyProof.Rows L2
def tSf (K : PySem.W.Frag) (W : List Nat) (f : FS) : TS := fun D σ H => ∃ (Z : Hp × Hp) (Hf : Hp) (env : En) (o : Out), Rel K Z Hf H env σ ∧ f env = some o ∧ FinF K Z Hf σ W D o
section
variable {X : Cx} {W : List Nat} {st : Stmt} {rest : List Stmt} {e : Expr} {pos : Pos} {f g : FS} {h : FE} {p : FT}
end
def forF (g : PyData → En → Option En) (fb : FS) : List PyData → FS
  | [], env => some (.next env)
  | d :: ds, env => (g d env).bind fun e1 => match fb e1 with
    | some (.next e) => forF g fb ds e
    | some (.ret d) => some (.ret d)
    | _ => none
theorem Stp.unlock {A B C E : Hp} {p : Addr} {o : HO} (s : Stp A (upd B p o) C E) (hz : B p = none) : Stp A B C E :=
  ⟨s.f, s.i, fun b x e => s.h b x (by rw [upd_ne (ne_of_none e hz)]; exact e), fun b x e q => s.n b x (by rw [upd_ne (ne_of_none e hz)]; exact e) q⟩
def sForOE (i : Nat) (g : PyData → En → Option En) (fb : FS) : FS := fun env => match env[i]? with
  | some (some (.own l)) => match forF g fb (enumD l) (env.set i none) with
    | some (.next e) => some (.next (e.set i (some (.own l))))
    | some (.ret d) => some (.ret d)
    | _ => none
  | _ => none
def sPar3 (i j k : Nat) (r : FL) : FS := fun env => match r env with
  | some [x, y, z] => some (.next (((env.set i (some (.val x))).set j (some (.val y))).set k (some (.val z))))
  | _ => none
section
variable {X : Cx} {e : Expr} {pos : Pos} {g : FE} {l : FL}
end
end Fi

namespace Fi
open PySem PySem.Spec PyProof.Rows L2
section
variable {X : Cx} {pins : List (Addr × Obj)} {σ : L2.St} {H : Hp} {s : Shared} {p c : Addr} {xs : List (List Int × Addr × Value)} {k : List Int} {E : Value → Shared → Prop}
theorem ext_new {P : Program} {w : World} {h : Heap} (d : DI p xs h) : ObjOk P w H h p (.ext (DI p xs)) := by
  obtain ⟨o, es, ep, h1, h2⟩ := d
  exact ⟨⟨o, es, ep, h1, h2⟩, ⟨o, h1⟩, fun a b ⟨o', es', ep', q1, q2⟩ kk => ⟨o', es', ep', kk o' q1, q2⟩⟩
theorem int_items {P : Program} {w : World} : ∀ {ks : List Int} {us : List Value}, Vals (ks.map V.int) us → ItemsAre (intKind P w) ks us
  | [], _, h => by cases h; exact .nil
  | i :: ks, _, h => by
    cases h with
    | cons a b =>
      obtain ⟨t, rfl⟩ := (show ∃ t, _ = Value.int i t from a)
      exact .cons (by show Value.isInt i (Value.int i t) = true; simp [Value.isInt]) (int_items b)
theorem key_is (I : Inv X pins σ H s) (h : SqT X.K H c (k.map V.int)) : (tupleKind (intKind X.prog X.w)).is s.heap k c := by
  obtain ⟨its, r, ⟨o, h1, h2, n, h3⟩, _⟩ := I.tuple h
  exact ⟨o, its.toArray, n, h1, h2, h3, by simpa using int_items r⟩
theorem dI_of (I : Inv X pins σ H s) (hD : H p = some (.ext (DI p xs))) (hk : ∀ x ∈ xs, SqT X.K H x.2.1 (x.1.map V.int)) (hn : (xs.map (·.1)).Nodup) : s.heap.DictOfH (tupleKind (intKind X.prog X.w)) p xs := by
  obtain ⟨⟨o, es, ep, h1, h2, h3, h4⟩, _⟩ := (show ObjOk X.prog X.w H s.heap p (.ext (DI p xs)) from I.hok p _ hD)
  exact ⟨o, es, ep, h1, h2, h3, h4, fun x hx => key_is I (hk x hx), hn⟩
/-- d[k] = v of a comprehension -/
theorem d_putI {r u : Value} {Q : Unit → Shared → Prop} (hu : X.A.units < cLine) (I : Inv X pins σ H s) (hD : H p = some (.ext (DI p xs))) (hk : ∀ x ∈ xs, SqT X.K H x.2.1 (x.1.map V.int)) (hn : (xs.map (·.1)).Nodup) (hz : xs.length < sizeLine) (hc : SqT X.K H c (k.map V.int)) (ru : RelV (.ref c) u)
    (h : ∀ s', Inv X pins σ (upd H p (.ext (DI p (storedH xs k c r)))) s' → ((storedH xs k c r).map (·.1)).Nodup → Q () s') : wpAny (model X.prog X.w) X.A (dictSet p u r) Q E s := by
  cases (show u = Value.ref c from ru)
  refine wpAny_dictSet_heap (knd := tupleKind (intKind X.prog X.w)) (hsz := Nat.le_of_lt hz) hu (key_is I hc) (dI_of I hD hk hn) fun h' dd' hs => ?_
  obtain ⟨o, es, ep, g1, g2, g3, g4, _, g5⟩ := dd'
  exact h _ (d_write I (by rw [hD]; exact True.intro) hs ⟨o, g1⟩ (ext_new ⟨o, es, ep, g1, g2, g3, g4⟩)) g5
theorem d_inI {u : Value} {Q : Value → Shared → Prop} (hu : X.A.units + 1 < cLine) (I : Inv X pins σ H s) (hD : H p = some (.ext (DI p xs))) (hp : (p == sysModules) = false) (hk : ∀ x ∈ xs, SqT X.K H x.2.1 (x.1.map V.int)) (hn : (xs.map (·.1)).Nodup) (hc : SqT X.K H c (k.map V.int)) (ru : RelV (.ref c) u)
    (h : ∀ s', Inv X pins σ H s' → Q (.bool (atKey xs k).isSome) s') : wpAny (model X.prog X.w) X.A (compareOp .In u (.ref p)) Q E s := by
  cases (show u = Value.ref c from ru)
  exact wpAny_in_heap (tupleKind_room_in1 hu) (key_is I hc) hp (dI_of I hD hk hn) (h _ (I.tok _))
end
/-- {k: v for target in iter}, the keys tuples of ints: D the new dict -/
def tDcT (K : PySem.W.Frag) (wi : TI) (g : TG) (tk tv : TE) (vs : List Nat) : TE := fun σ H Q => wi σ H fun J H1 => ∀ D, H1 D = none → (D == sysModules) = false → ∃ W : Nat → Nat → Hp → Prop, (∃ m, W 0 m (upd H1 D (.ext (DI D [])))) ∧ ∀ i m H, W i m H →
  (J.stop i H ∧ Q (.ref D) H) ∨ (J.go i H ∧ ∃ Nx : Hp → Prop, (∀ H', Nx H' → ∃ m', m' < m ∧ W (i + 1) m' H') ∧ ∀ x H', J.yld i H x H' → g x (L2.wipe σ vs) H' fun σ2 H2 => L2.wipe σ2 vs = L2.wipe σ vs ∧
    tk σ2 H2 fun y H4 => tv σ2 H4 fun z H5 => ∃ xs k c, y = .ref c ∧ SqT K H5 c (k.map V.int) ∧ H5 D = some (.ext (DI D xs)) ∧ (∀ x ∈ xs, SqT K H5 x.2.1 (x.1.map V.int)) ∧ (xs.map (·.1)).Nodup ∧ xs.length < sizeLine ∧
      ∀ r, RelV z r → ((storedH xs k c r).map (·.1)).Nodup → Nx (upd H5 D (.ext (DI D (storedH xs k c r)))))
theorem pe_dcT {X : Cx} {kx vx tg iter : Expr} {scope : Scope} {own : List (Str × Nat)} {pos : Pos} {wi : TI} {g : TG} {tk tv : TE} (hu : X.A.units < cLine) (hc : X.calm = true) (hN : X.N.Nodup) (hi : PI X tg iter wi) (ok : BlkOk X.N X.env.scope scope own)
    (hg : ∀ (s : Shared) (H : Hp) (C : Addr) (cl : List (Str × Addr)) (fp : List Addr), PG (X.blk s H scope (compEnvC scope cl C X.env) fp) tg g)
    (hk : ∀ (s : Shared) (H : Hp) (C : Addr) (cl : List (Str × Addr)) (fp : List Addr), PE (X.blk s H scope (compEnvC scope cl C X.env) fp) kx tk)
    (he : ∀ (s : Shared) (H : Hp) (C : Addr) (cl : List (Str × Addr)) (fp : List Addr), PE (X.blk s H scope (compEnvC scope cl C X.env) fp) vx tv) (hs : ∀ x, foldedSetIterable iter X.env x = pure x := by intro _; rfl) :
    PE X (.DictComp kx vx [⟨tg, iter, [], 0⟩] scope pos) (tDcT X.K wi g tk tv (own.map (·.2))) := by
  refine ⟨fun pins s σ H Q I h => ?_⟩
  rw [arm_eval_DictComp]
  have hfree : ∀ y ∈ scope.names, y.2 = .free → ∃ c, X.env.cells.lookup y.1 = some c := fun y hy e => by
    rcases ok.free y hy e with k | k
    · exact I.ok.has _ (.inl k)
    · exact I.ok.has _ (.inr k)
  refine wpAny_comprehension_free rfl hs (closure_ok hfree) ok.kind (fun y hy e => by rw [ok.uniq y hy, e]) (thn (hi.run pins s σ H _ I h) fun xv s1 hx => thn hx fun itv s2 h2 => ?_)
  obtain ⟨it, fp, tn, J, H2, e, I2, T, st2, f2, q⟩ := h2
  subst e
  refine wpAny_newObj_type (newEnv_comp ?_)
  generalize hD : s2.heap.objs.size = D
  have hDn : H2 D = none := I2.hok.fresh (Nat.le_of_eq hD)
  have hDs : (D == sysModules) = false := by
    have := I2.big
    rw [hD] at this
    exact beq_eq_false_iff_ne.mpr (Nat.ne_of_gt this)
  obtain ⟨W, ⟨m0, w0⟩, turn⟩ := q D hDn hDs
  generalize hs3 : ({ s2 with heap := s2.heap.push { cls := .type "dict", data := .dict #[] } } : Shared) = s3
  have I3 : Inv X pins σ (upd H2 D (.ext (DI D []))) s3 := by
    rw [← hs3]
    refine I2.laid (t' := s2.toks) (fun b o e => Heap.get?_push_of_some _ e) (Nat.le_of_eq hD) ?_
    rw [← hD]
    exact ext_new ⟨_, #[], 0, Heap.get?_push_size _ rfl, ⟨rfl, rfl, rfl⟩, rfl, rfl⟩
  have h3 : s3.heap = s2.heap.push { cls := .type "dict", data := .dict #[] } := by rw [← hs3]
  have f3 : ∀ b ∈ fp, FpOk X pins (upd H2 D (.ext (DI D []))) b ∧ b < s3.heap.objs.size := fun b hb => by
    obtain ⟨o, eo, _⟩ := T.obj _ _ st2 b hb
    have hlt := Heap.lt_size eo
    refine ⟨⟨?_, (f2 b hb).2⟩, by rw [h3, Heap.size_push]; exact Nat.lt_succ_of_lt hlt⟩
    rw [upd_ne (by rw [← hD]; exact Nat.ne_of_lt hlt)]
    exact (f2 b hb).1
  have st3 : tn 0 s3.heap := T.keep _ _ _ st2 fun b _ o e => by rw [h3]; exact Heap.get?_push_of_some _ e
  have I4 := block_start I3 ok hN f3
  have pg := hg s3 (upd H2 D (.ext (DI D []))) s3.heap.objs.size (cellsFrom (s3.heap.objs.size + 1) scope.names (cloFrom X.env.cells scope.names [])) fp
  have pk := hk s3 (upd H2 D (.ext (DI D []))) s3.heap.objs.size (cellsFrom (s3.heap.objs.size + 1) scope.names (cloFrom X.env.cells scope.names [])) fp
  have pe := he s3 (upd H2 D (.ext (DI D []))) s3.heap.objs.size (cellsFrom (s3.heap.objs.size + 1) scope.names (cloFrom X.env.cells scope.names [])) fp
  have nfp : ∀ b ∈ fp, (upd H2 D (.ext (DI D []))) b = none := fun b hb => (f3 b hb).1.1
  show codeAny _ _ (.compStart (.DictComp kx vx [⟨tg, iter, [], 0⟩] scope pos) 0 (.ref it) (.ref D) (compEnvC scope (cellsFrom (s3.heap.objs.size + 1) scope.names (cloFrom X.env.cells scope.names [])) s3.heap.objs.size X.env)) _ { s3 with heap := pushCells (s3.heap.push { cls := .type "dict", data := .dict #[] }) scope.names }
  generalize hce : compEnvC scope (cellsFrom (s3.heap.objs.size + 1) scope.names (cloFrom X.env.cells scope.names [])) s3.heap.objs.size X.env = ce at I4 pg pk pe ⊢
  have cL : ce.locals = s3.heap.objs.size := by subst hce; rfl
  generalize hH3 : upd H2 D (.ext (DI D [])) = H3 at I3 I4 pg pk pe w0 nfp f3
  generalize hs4 : ({ s3 with heap := pushCells (s3.heap.push { cls := .type "dict", data := .dict #[] }) scope.names } : Shared) = s4 at I4 ⊢
  have st4 : tn 0 s4.heap := T.keep _ _ _ st3 fun b _ o e => by rw [← hs4]; exact pushCells_keeps _ _ _ _ (Heap.get?_push_of_some _ e)
  have stat : ∀ {σ' : L2.St} {H' : Hp} {s' : Shared}, Inv (X.blk s3 H3 scope ce fp) [] σ' H' s' → (∀ b ∈ fp, H' b = none) → ∀ b ∈ fp, FpOk (X.blk s3 H3 scope ce fp) [] H' b := fun {σ' H' s'} I' hn b hb =>
    ⟨hn b hb, (I'.ok.exf b hb).1, I'.ok.exfs b hb, .inl hb, fun x c e => (I'.ok.exf b hb).2 x c e, fun p hp => absurd (show p ∈ ([] : List (Addr × Obj)) ++ [] from hp) (by simp)⟩
  have loop : codeAny (model X.prog X.w) X.A (.compLoop (.DictComp kx vx [⟨tg, iter, [], 0⟩] scope pos) 0 (.ref it) (.ref D) ce) (compPost (model X.prog X.w) X.A X.xe none (fun v s' => ∃ x H', Inv X pins σ H' s' ∧ RelV x v ∧ Q x H') (.ref D) s3.heap.objs.size) s4 := by
    refine compLoop_anyD (fun n s' => ∃ i H', Inv (X.blk s3 H3 scope ce fp) [] (L2.wipe σ (own.map (·.2))) H' s' ∧ tn i s'.heap ∧ (∀ b ∈ fp, H' b = none) ∧ W i n H') ?_ m0 ⟨0, H3, I4, st4, nfp, w0⟩
    rintro n s5 ⟨i, H5, I5, st5, n5, w5⟩
    rcases turn i n H5 w5 with ⟨stop, qq⟩ | ⟨go, Nx, hNx, step⟩
    · refine thnF (T.done (X.blk s3 H3 scope ce fp) rfl rfl rfl hc i [] s5 _ H5 (fun _ _ => False) I5 (stat I5 n5) st5 stop) fun r s6 ⟨hr, I6⟩ => ?_
      subst hr
      have I7 : Inv X pins σ H5 s6 := I3.call' (ch := fp) I6.os I6.base I6.hok I6.bare fun b hb => ⟨(f3 b hb).1.2.2.2.1, (f3 b hb).1.2.1, (f3 b hb).1.2.2.2.2.1, (f3 b hb).1.2.2.2.2.2⟩
      have nC : H5 s3.heap.objs.size = none := by
        have z : H5 ce.locals = none := I6.free
        rw [cL] at z
        exact z
      obtain ⟨m, hn, _⟩ := I6.loc
      have hn : s6.heap.Ns ce.locals m := hn
      rw [cL] at hn
      obtain ⟨f0, f1, _, f3', f4, f5⟩ := I3.fpOk (Nat.le_refl _) nC
      exact ⟨m, hn, fun h'' sb => ⟨.ref D, H5, I7.turned (t' := s6.toks) (fun b o hb e => (sb.2 b hb).trans e) f0 f1 f3' f4 f5, rfl, qq⟩⟩
    · refine thnF (T.item (X.blk s3 H3 scope ce fp) rfl rfl rfl hc i [] s5 _ H5 (fun _ _ => False) I5 (stat I5 n5) st5 go) fun r s6 ⟨u, hr, h6⟩ => ?_
      subst hr
      refine thnF h6 fun _ s7 ⟨x, H7, I7, r7, y7, st7, n7⟩ => ?_
      refine thnF (pg.run _ s7 _ H7 x u _ (I7.pinned (stat I7 n7) (T.obj _ _ st7)) r7 (step x H7 y7)) fun _ s8 ⟨σ8, H8, I8, hw8, q8⟩ => ?_
      have fin : ∀ {s' : Shared} {H' : Hp}, Inv (X.blk s3 H3 scope ce fp) ([] ++ pinsAt fp s7.heap) σ8 H' s' → Nx H' → ∃ m, m < n ∧ ∃ i H', Inv (X.blk s3 H3 scope ce fp) [] (L2.wipe σ (own.map (·.2))) H' s' ∧ tn i s'.heap ∧ (∀ b ∈ fp, H' b = none) ∧ W i m H' := fun {s' H'} I' nx => by
        obtain ⟨m', hm, w'⟩ := hNx H' nx
        have pin' : ∀ b ∈ fp, ∀ o, s7.heap.get? b = some o → s'.heap.get? b = some o ∧ H' b = none := fun b hb o e =>
          let z := I'.pin (b, o) (List.mem_append_right _ (List.mem_append_right _ (mem_pinsAt hb e)))
          ⟨z.1, z.2.1⟩
        refine ⟨m', hm, i + 1, H', (I'.unpinned (pins := [])).weak (by rw [← hw8, wipe_length]) (fun j v e => ?_), T.keep _ _ _ st7 fun b hb o e => (pin' b hb o e).1, fun b hb => ?_, w'⟩
        · rw [← hw8] at e
          exact (wipe_some e).1
        · obtain ⟨o, e, _⟩ := T.obj _ _ st7 b hb
          exact (pin' b hb o e).2
      refine wpAny_pure ?_
      rw [if_pos rfl]
      refine thnF (pk.run _ s8 σ8 H8 _ I8 q8) fun z s10 ⟨yk, H10, I10, r10, q10⟩ => ?_
      refine thnF (pe.run _ s10 σ8 H10 _ I10 q10) fun z2 s11 ⟨yv, H11, I11, r11, xs, kk, cc, ek, hcc, hD11, hks, hnd, hz11, nx⟩ => ?_
      subst ek
      exact d_putI (X := X.blk s3 H3 scope ce fp) hu I11 hD11 hks hnd hz11 hcc r10 fun s12 I12 nd => fin I12 (nx z2 r11 nd)
  exact codeAny_compStart_dict loop (T.self X.A 0 _ _ _ st4 loop)
def keyD : PyData → Option (List Int)
  | .tuple l => getInts l
  | _ => none
def hasD (kvs : List (List Int × PyData)) (k : List Int) : Bool := kvs.any fun kv => decide (kv.1 = k)
def putD (kvs : List (List Int × PyData)) (k : List Int) (v : PyData) : List (List Int × PyData) := if hasD kvs k = true then kvs.map (fun kv => if kv.1 = k then (kv.1, v) else kv) else kvs ++ [(k, v)]
def dcD (g : PyData → En → Option En) (fk fv : FE) (env : En) : List PyData → List (List Int × PyData) → Option (List (List Int × PyData))
  | [], acc => some acc
  | d :: ds, acc => (g d env).bind fun e1 => (fk e1).bind fun kd => (fv e1).bind fun v => (keyD kd).bind fun k => dcD g fk fv env ds (putD acc k v)
def dDc (fi : FL) (g : PyData → En → Option En) (fk fv : FE) (vs : List Nat) : En → Option (List (List Int × PyData)) := fun env => (fi env).bind fun ds => if ds.length < 100000 then dcD g fk fv (wipeE env vs) ds [] else none
def tD (K : PySem.W.Frag) (f : En → Option (List (List Int × PyData))) : TE := fun σ H Q => ∃ (Z : Hp × Hp) (Hf : Hp) (env : En) (kvs : List (List Int × PyData)), Rel K Z Hf H env σ ∧ f env = some kvs ∧
  ∀ p xs H' Hf', Stp Hf H Hf' H' → H p = none → Hf' p = none → H' p = some (.ext (DI p xs)) → (p == sysModules) = false → DctOk K Hf' xs kvs → Q (.ref p) H'
section
variable {K : PySem.W.Frag} {H Hf : Hp}
theorem ints_all : ∀ {vs : List V} {k : List Int}, DpAll K H vs (k.map .int) → vs = k.map V.int
  | _, [], h => by cases h; rfl
  | _, i :: k, h => by
    cases h with
    | cons a b => rw [a.int_eq, ints_all b]; rfl
theorem key_tup {v : V} {d : PyData} {k : List Int} (h : Dp K H v d) (e : keyD d = some k) : ∃ c, v = .ref c ∧ SqT K H c (k.map V.int) := by
  cases d with
  | tuple l =>
    have e : getInts l = some k := e
    have e2 := getInts_eq e
    subst e2
    cases h with
    | tup hs ha => exact ⟨_, rfl, by rw [← ints_all ha]; exact hs⟩
  | _ => cases e
theorem at_has {k : List Int} : ∀ {xs : List (List Int × Addr × Value)} {kvs : List (List Int × PyData)}, Paired (KeyOk K Hf) xs kvs → (atKey xs k).isSome = hasD kvs k
  | _, _, .nil => rfl
  | x :: xs, kv :: kvs, .cons a b => by
    have ih := at_has (k := k) b
    unfold atKey at ih ⊢
    unfold hasD at ih ⊢
    rw [List.find?_cons, List.any_cons, a.1]
    by_cases e : kv.1 = k
    · simp [e]
    · simp only [decide_eq_false e, Bool.false_or]
      exact ih
theorem put_map {k : List Int} {r : Value} {w : V} {v : PyData} (rw' : RelV w r) (hw : Dp K Hf w v) : ∀ {xs : List (List Int × Addr × Value)} {kvs : List (List Int × PyData)}, Paired (KeyOk K Hf) xs kvs → Paired (KeyOk K Hf) (xs.map (putAt k r)) (kvs.map fun kv => if kv.1 = k then (kv.1, v) else kv)
  | _, _, .nil => .nil
  | x :: xs, kv :: kvs, .cons a b => by
    refine .cons ?_ (put_map rw' hw b)
    obtain ⟨a1, a2, a3⟩ := a
    show KeyOk K Hf (putAt k r x) (if kv.1 = k then (kv.1, v) else kv)
    unfold putAt
    by_cases e : x.1 = k
    · rw [if_pos e, if_pos (a1 ▸ e)]
      exact ⟨a1, a2, w, rw', hw⟩
    · rw [if_neg e, if_neg (a1 ▸ e)]
      exact ⟨a1, a2, a3⟩
theorem pair_app {α β : Type} {F : α → β → Prop} {x : α} {y : β} (h : F x y) : ∀ {l : List α} {m : List β}, Paired F l m → Paired F (l ++ [x]) (m ++ [y])
  | _, _, .nil => .cons h .nil
  | _, _, .cons a b => .cons a (pair_app h b)
theorem put_ok {xs : List (List Int × Addr × Value)} {kvs : List (List Int × PyData)} {k : List Int} {c : Addr} {r : Value} {w : V} {v : PyData} (h : DctOk K Hf xs kvs) (hl : xs.length < 100000) (hc : SqT K Hf c (k.map V.int)) (rw' : RelV w r) (hw : Dp K Hf w v) (nd : ((storedH xs k c r).map (·.1)).Nodup) :
    DctOk K Hf (storedH xs k c r) (putD kvs k v) ∧ (storedH xs k c r).length ≤ xs.length + 1 := by
  have e := at_has (k := k) h.2.2
  cases ha : atKey xs k with
  | none =>
    rw [ha] at e
    have e' : hasD kvs k = false := e.symm
    rw [storedH_new ha] at nd ⊢
    unfold putD
    rw [e', if_neg Bool.false_ne_true]
    exact ⟨⟨nd, by rw [List.length_append]; exact hl, pair_app ⟨rfl, hc, w, rw', hw⟩ h.2.2⟩, by rw [List.length_append]; exact Nat.le_refl _⟩
  | some q =>
    rw [ha] at e
    have e' : hasD kvs k = true := e.symm
    rw [storedH_old ha] at nd ⊢
    unfold putD
    rw [if_pos e']
    exact ⟨⟨nd, by rw [List.length_map]; exact h.2.1, put_map rw' hw h.2.2⟩, by rw [List.length_map]; omega⟩
theorem DctOk.keys {xs : List (List Int × Addr × Value)} {kvs : List (List Int × PyData)} (h : DctOk K Hf xs kvs) (s : Same Hf H) : ∀ x ∈ xs, SqT K H x.2.1 (x.1.map V.int) := by
  have all : ∀ {l : List (List Int × Addr × Value)} {m : List (List Int × PyData)}, Paired (KeyOk K Hf) l m → ∀ x ∈ l, SqT K H x.2.1 (x.1.map V.int) := by
    intro l m q
    induction q with
    | nil => intro x hx; exact nomatch hx
    | cons a b ih =>
      intro x hx
      rcases List.mem_cons.mp hx with e | hx
      · subst e
        exact sqT_up s a.2.1
      · exact ih x hx
  exact all h.2.2
theorem tDcT_of {fi : FL} {g : PyData → En → Option En} {fk fv : FE} {vs sl : List Nat} (hsl : ∀ i ∈ sl, i ∈ vs) {σ : L2.St} {H : Hp} {Q : VK} (w : tD K (dDc fi g fk fv vs) σ H Q) : tDcT K (tI K fi) (tG K false sl g) (tE K fk) (tE K fv) vs σ H Q := by
  obtain ⟨Z, Hf, env, out, R, hf, k⟩ := w
  obtain ⟨ds, hds, hf⟩ := Option_bind_some hf
  split at hf
  · rename_i hlen
    refine ⟨Z, Hf, env, ds, R, hds, fun J H1 Hf1 s1 w D hD hDs => ?_⟩
    have hD0 : H D = none := s1.h.free hD
    have hDf : Hf1 D = none := s1.i.free hD
    have hid := Stp.hid (o := .ext (DI D [])) s1.i hD
    refine ⟨fun i m H' => m = ds.length - i ∧ i ≤ ds.length ∧ ∃ (Hf' : Hp) (xs : List (List Int × Addr × Value)) (acc : List (List Int × PyData)), Stp Hf1 H1 Hf' H' ∧ Hf' D = none ∧ H' D = some (.ext (DI D xs)) ∧ DctOk K Hf' xs acc ∧ xs.length ≤ i ∧ dcD g fk fv (wipeE env vs) (ds.drop i) acc = some out,
      ⟨ds.length, by simp, Nat.zero_le _, Hf1, [], [], hid, hDf, upd_same, ⟨List.nodup_nil, by simp, .nil⟩, Nat.le_refl _, hf⟩, ?_⟩
    rintro i m H' ⟨rfl, hi, Hf', xs, acc, st, h1, h2, h3, hl, h4⟩
    by_cases hlt : i < ds.length
    · refine .inr ⟨w.goes i H' hlt (st.f.trans st.i), fun H'' => ∃ (Hf' : Hp) (xs : List (List Int × Addr × Value)) (acc : List (List Int × PyData)), Stp Hf1 H1 Hf' H'' ∧ Hf' D = none ∧ H'' D = some (.ext (DI D xs)) ∧ DctOk K Hf' xs acc ∧ xs.length ≤ i + 1 ∧ dcD g fk fv (wipeE env vs) (ds.drop (i + 1)) acc = some out,
        fun H'' q => ⟨ds.length - (i + 1), by omega, rfl, hlt, q⟩, fun x H2 y => ?_⟩
      have y := w.yields i H' x H2 hlt (st.f.trans st.i) y
      obtain ⟨d, hd, hdr⟩ := drop_get hlt
      rw [hdr] at h4
      obtain ⟨e1, hg1, h4⟩ := Option_bind_some h4
      obtain ⟨kd, hk1, h4⟩ := Option_bind_some h4
      obtain ⟨vd, hv1, h4⟩ := Option_bind_some h4
      obtain ⟨kk, hkk, h4⟩ := Option_bind_some h4
      have R1 : Rel K Z Hf' H' (wipeE env vs) (L2.wipe σ vs) := ((R.step s1).wipe vs).step st
      obtain ⟨Hf2, st2, hx⟩ := yd_item y hd R1 st.f
      refine ⟨Z, Hf2, wipeE env vs, d, e1, R1.step st2, hx, hg1, fun σ3 H3 Hf3 s3 R3 pt ln mm => ?_⟩
      obtain ⟨rfl, rfl⟩ := mm rfl
      have hw : L2.wipe σ3 vs = L2.wipe σ vs := by
        rw [← wipe_wipe σ vs]
        exact wipe_same (ln.trans rfl) fun i hi => pt i fun q => hi (hsl i q)
      refine ⟨hw, Z, Hf3, e1, kd, R3, hk1, fun yv H4 Hf4 s4 d4 => ⟨Z, Hf4, e1, vd, R3.step s4, hv1, fun zv H5 Hf5 s5 d5 => ?_⟩⟩
      obtain ⟨c, rfl, hc⟩ := key_tup (Dp_up s5.f d4) hkk
      have st5 := ((st.trans st2).trans s4).trans s5
      have up : Same Hf' Hf5 := st2.f.trans (s4.f.trans s5.f)
      have g1 : Hf5 D = none := s5.n D _ (s4.h D _ (st2.h D _ h2)) (s4.n D _ (st2.h D _ h2) (st2.n D _ h2 h1))
      have g2 : H5 D = some (.ext (DI D xs)) := s5.h D _ (s4.h D _ (st2.h D _ h2))
      have h3' := h3.up up
      have hxl : xs.length < 100000 := by omega
      refine ⟨xs, kk, c, rfl, sqT_up s5.i hc, g2, h3'.keys s5.i, h3.1, Nat.lt_of_lt_of_le hxl (by decide : 100000 ≤ sizeLine), fun r hr nd => ?_⟩
      obtain ⟨q1, q2⟩ := put_ok h3' hxl hc hr d5 nd
      refine ⟨Hf5, _, _, ⟨st5.f, fun b o e => ?_, fun b o e => ?_, st5.n⟩, g1, upd_same, q1, by omega, h4⟩
      · rw [upd_ne (ne_of_none e g1)]
        exact st5.i b o e
      · rw [upd_ne (ne_of_none e hD)]
        exact st5.h b o e
    · have e : i = ds.length := by omega
      subst e
      rw [List.drop_of_length_le (Nat.le_refl _)] at h4
      cases h4
      exact .inl ⟨w.stops H' (st.f.trans st.i), k D xs H' Hf' (s1.trans st) hD0 h1 h2 hDs h3⟩
  · cases hf
end
/-- a new dict is stored -/
theorem Rel.setDct {K : PySem.W.Frag} {Z : Hp × Hp} {Hf H Hf' H' : Hp} {env : En} {σ : L2.St} {p : Addr} {xs : List (List Int × Addr × Value)} {kvs : List (List Int × PyData)} (R : Rel K Z Hf H env σ) (s : Stp Hf H Hf' H') (i : Nat) (h0 : H p = none) (h1 : Hf' p = none) (h2 : H' p = some (.ext (DI p xs))) (hm : (p == sysModules) = false) (h3 : DctOk K Hf' xs kvs) :
    Rel K Z Hf' H' (env.set i (some (.dct kvs))) (σ.set i (some (.ref p))) := by
  have R' := R.step s
  have hz : Z.2 p = none := R.st.h.free h0
  refine ⟨R'.st, by rw [List.length_set, List.length_set, R.len], fun j t e => ?_, fun j k x y q ej ek hj hk => ?_⟩
  · rcases set_cases e with ⟨rfl, z⟩ | ⟨hn, z⟩
    · cases z
      have hl := set_some_lt e
      exact ⟨.ref p, List.getElem?_set_self (by rw [← R.len]; exact hl), p, xs, rfl, hz, h1, h2, hm, h3⟩
    · obtain ⟨w, g1, g2⟩ := R'.sl j t z
      exact ⟨w, by rw [List.getElem?_set_ne hn]; exact g1, g2⟩
  · rcases set_cases ej with ⟨rfl, z⟩ | ⟨hn, z⟩
    · cases z
    · rcases set_cases ek with ⟨rfl, z2⟩ | ⟨hn2, z2⟩
      · cases z2
      · rw [List.getElem?_set_ne hn] at hj
        rw [List.getElem?_set_ne hn2] at hk
        exact R.ds j k x y q z z2 hj hk
def sDct (i : Nat) (f : En → Option (List (List Int × PyData))) : FS := fun env => (f env).map fun kvs => .next (env.set i (some (.dct kvs)))
section
variable {X : Cx} {e : Expr} {pos : Pos}
theorem s_dct (i : Nat) {x : Str} {pos' : Pos} {f : En → Option (List (List Int × PyData))} (hN : X.N.Nodup) (he : PE X e (tD X.K f)) (hi : X.N[i]? = some x := by rfl) (hx : Loc X.env.scope x := by first | exact Or.inl rfl | exact Or.inr rfl) (hs : swapsWith e (some (.Name x pos')) pos.line X.env = pure false := by rfl) (hf : X.fn x = true ∨ X.env.scope.names.lookup x = some .local := by first | exact .inl rfl | exact .inr rfl | assumption) :
    PS X (.Assign [.Name x pos'] e pos) (tS X.K (sDct i f)) := ps_le (ps_set hN hi hx he hs hf) fun D σ H ⟨Z, Hf, env, o, R, hf, k⟩ => by
  obtain ⟨d, hd, rfl⟩ := Option.map_eq_some_iff.mp hf
  exact ⟨Z, Hf, env, d, R, hd, fun p xs H1 Hf1 s1 h0 h1 h2 hm d1 => k _ H1 Hf1 s1.f (R.setDct s1 i h0 h1 h2 hm d1)⟩
variable {kx vx tg iter : Expr} {scope : Scope} {own : List (Str × Nat)} {fi : FL} {g : PyData → En → Option En} {fk fv : FE} {sl vs : List Nat}
theorem x_dc (hu : X.A.units < cLine) (hc : X.calm = true) (hN : X.N.Nodup) (hi : PI X tg iter (tI X.K fi)) (ok : BlkOk X.N X.env.scope scope own)
    (hg : ∀ (s : Shared) (H : Hp) (C : Addr) (cl : List (Str × Addr)) (fp : List Addr), PG (X.blk s H scope (compEnvC scope cl C X.env) fp) tg (tG X.K false sl g))
    (hk : ∀ (s : Shared) (H : Hp) (C : Addr) (cl : List (Str × Addr)) (fp : List Addr), PE (X.blk s H scope (compEnvC scope cl C X.env) fp) kx (tE X.K fk))
    (he : ∀ (s : Shared) (H : Hp) (C : Addr) (cl : List (Str × Addr)) (fp : List Addr), PE (X.blk s H scope (compEnvC scope cl C X.env) fp) vx (tE X.K fv)) (hvs : own.map (·.2) = vs := by rfl) (hsl : ∀ i ∈ sl, i ∈ vs := by decide) (hs : ∀ x, foldedSetIterable iter X.env x = pure x := by intro _; rfl) :
    PE X (.DictComp kx vx [⟨tg, iter, [], 0⟩] scope pos) (tD X.K (dDc fi g fk fv vs)) := by
  subst hvs
  exact pe_le (pe_dcT hu hc hN hi ok hg hk he hs) fun _ _ _ w => tDcT_of hsl w
/-- y in d -/
def dctIn (i : Nat) (f : FE) : FE := fun env => match env[i]? with
  | some (some (.dct kvs)) => (f env).bind fun y => (keyD y).bind fun k => some (.bool (hasD kvs k))
  | _ => none
def rInI (K : PySem.W.Frag) : R2 := fun x y H Q => ∃ c p xs k, x = .ref c ∧ y = .ref p ∧ SqT K H c (k.map V.int) ∧ H p = some (.ext (DI p xs)) ∧ (p == sysModules) = false ∧ (∀ x ∈ xs, SqT K H x.2.1 (x.1.map V.int)) ∧ (xs.map (·.1)).Nodup ∧ Q (.bl (atKey xs k).isSome) H
theorem op_inI (hu : X.A.units + 1 < cLine) : OpR X (compareOp .In) (rInI X.K) := by
  intro pins s σ H x y v u Q I rx ry h
  obtain ⟨c, p, xs, k, rfl, rfl, hc, hp, hm, hk, hn, q⟩ := h
  cases (show u = Value.ref p from ry)
  exact d_inI hu I hp hm hk hn hc rx fun s' I' => ⟨.bl _, _, I', rfl, q⟩
theorem x_dctIn (i : Nat) {x : Str} {p : Pos} {f : FE} (hu : X.A.units + 1 < cLine) (hb : PE X e (tE X.K f)) (hm : behindInMarks .In (.Name x p) = false) (hN : X.N[i]? = some x := by rfl) (hv : Vis X.env.scope x := by first | exact Or.inl rfl | exact Or.inr (Or.inl rfl) | exact Or.inr (Or.inr rfl)) (hd : (x == ("__debug__" : Str)) = false := by decide)
    (hcd : (x == ("__classdict__" : Str)) = false := by decide) : PE X (.Compare e [.In] [.Name x p] pos) (tE X.K (dctIn i f)) := pe_le (pe_cmpR (op_inI hu) hb (pe_var hN hv hd hcd) hm) fun σ H Q ⟨Z, Hf, env, d, R, hf, k⟩ => by
  unfold dctIn at hf
  split at hf
  · rename_i l hl
    obtain ⟨y, hy, hf⟩ := Option_bind_some hf
    obtain ⟨kk, hkk, hf⟩ := Option_bind_some hf
    cases hf
    refine ⟨Z, Hf, env, _, R, hy, fun v H1 Hf1 s1 d1 => ?_⟩
    obtain ⟨w, hs, p, xs, rfl, hz, hfp, hp, hm, ha⟩ := (R.step s1).sl i _ hl
    obtain ⟨c, rfl, hc⟩ := key_tup d1 hkk
    refine ⟨.ref p, hs, c, p, xs, kk, rfl, rfl, sqT_up s1.i hc, hp, hm, ha.keys s1.i, ha.1, ?_⟩
    rw [at_has ha.2.2]
    exact k _ _ _ s1 (.bl _)
  · cases hf
end
theorem u0 {k : Nat} {A : Around} (r : Room k A) : A.units < cLine := by have := r.un; omega
theorem u1 {k : Nat} {A : Around} (r : Room k A) : A.units + 1 < cLine := by have := r.un; omega
/-- x, y = [..], [..] : two new lists -/
def sOwn2 (i j : Nat) (la lb : FL) : FS := fun env => (la env).bind fun xs => (lb env).bind fun ys => some (.next ((env.set i (some (.own xs))).set j (some (.own ys))))
end Fi

namespace Fi
open PySem PySem.Spec PyProof.Rows L2
section
variable {X : Cx} {pins : List (Addr × Obj)} {σ : L2.St} {H : Hp} {s : Shared} {p c : Addr} {xs : List (List Int × Addr × Value)} {k : List Int} {E : Value → Shared → Prop}
end
def tDisp1 (K : PySem.W.Frag) (tk tv : TE) : TE := fun σ H Q => ∀ p, H p = none → (p == sysModules) = false → tk σ (upd H p (.ext (DI p []))) fun y H1 => tv σ H1 fun z H2 => H2 p = some (.ext (DI p [])) ∧ ∃ k c, y = .ref c ∧ SqT K H2 c (k.map V.int) ∧
  ∀ r, RelV z r → Q (.ref p) (upd H2 p (.ext (DI p (storedH [] k c r))))
def dDisp1 (fk fv : FE) : En → Option (List (List Int × PyData)) := fun env => (fk env).bind fun kd => (fv env).bind fun v => (keyD kd).bind fun k => some [(k, v)]
section
variable {X : Cx} {kx vx e : Expr} {pos : Pos} {fk fv f h g : FE}
def noD (env : En) : Bool := env.all fun s => match s with
  | some (.dct _) => false
  | _ => true
def sDPutI (K : PySem.W.Frag) (td ty tv : TE) : TS := fun D σ H => tv σ H fun v H1 => td σ H1 fun x H2 => ty σ H2 fun y H3 => ∃ p xs k c, x = .ref p ∧ y = .ref c ∧ SqT K H3 c (k.map V.int) ∧ H3 p = some (.ext (DI p xs)) ∧ (∀ x ∈ xs, SqT K H3 x.2.1 (x.1.map V.int)) ∧ (xs.map (·.1)).Nodup ∧ xs.length < sizeLine ∧
  ∀ r, RelV v r → ((storedH xs k c r).map (·.1)).Nodup → D.nx σ (upd H3 p (.ext (DI p (storedH xs k c r))))
def sDPut (i : Nat) (f g : FE) : FS := fun env => match env[i]? with
  | some (some (.dct kvs)) => (g env).bind fun v => (f env).bind fun kd => (keyD kd).bind fun k => if kvs.length < 100000 ∧ noD (env.set i none) = true then some (.next (env.set i (some (.dct (putD kvs k v))))) else none
  | _ => none
def dctNotIn (i : Nat) (f : FE) : FE := fun env => match env[i]? with
  | some (some (.dct kvs)) => (f env).bind fun y => (keyD y).bind fun k => some (.bool (!hasD kvs k))
  | _ => none
def rNotInI (K : PySem.W.Frag) : R2 := fun x y H Q => ∃ c p xs k, x = .ref c ∧ y = .ref p ∧ SqT K H c (k.map V.int) ∧ H p = some (.ext (DI p xs)) ∧ (p == sysModules) = false ∧ (∀ x ∈ xs, SqT K H x.2.1 (x.1.map V.int)) ∧ (xs.map (·.1)).Nodup ∧ Q (.bl (!(atKey xs k).isSome)) H
def getDct (kvs : List (List Int × PyData)) (k : List Int) : Option PyData := (kvs.find? fun kv => decide (kv.1 = k)).map (·.2)
def dctIx (i : Nat) (f : FE) : FE := fun env => match env[i]? with
  | some (some (.dct kvs)) => (f env).bind fun y => (keyD y).bind fun k => getDct kvs k
  | _ => none
def tDGetI (K : PySem.W.Frag) (td ty : TE) : TE := fun σ H Q => td σ H fun x H1 => ty σ H1 fun y H2 => ∃ p xs k c q w, x = .ref p ∧ y = .ref c ∧ SqT K H2 c (k.map V.int) ∧ H2 p = some (.ext (DI p xs)) ∧ (∀ x ∈ xs, SqT K H2 x.2.1 (x.1.map V.int)) ∧ (xs.map (·.1)).Nodup ∧ atKey xs k = some q ∧ RelV w q.2 ∧ Q w H2
def sRetDct (i : Nat) : FS := fun env => match env[i]? with
  | some (some (.dct l)) => some (.retD l)
  | _ => none
def dCallF (F : List PyData → Option Sl) (r : FL) : En → Option (List (List Int × PyData)) := fun env => (r env).bind fun ds => match F ds with
  | some (.dct l) => some l
  | _ => none
/-- x, y, z = {..}, a, b -/
def sParD (i j k : Nat) (d : En → Option (List (List Int × PyData))) (f g : FE) : FS := fun env => (d env).bind fun kvs => (f env).bind fun u => (g env).bind fun v => some (.next (((env.set i (some (.dct kvs))).set j (some (.val u))).set k (some (.val v))))
end
end Fi

namespace Fi
open PySem PySem.Spec PyProof.Rows L2
def rRep1 (K : PySem.W.Frag) : R2 := fun x y H Q => ∃ l xs, x = .ref l ∧ y = .int 1 ∧ SqT K H l xs ∧ Q (.ref l) H
section
variable {X : Cx}
def fMulT : PyData → PyData → Option PyData
  | .tuple ds, .int k => if ds ≠ [] ∧ 1 ≤ k ∧ k ≤ 1000 ∧ ds.length ≤ 1000 then some (.tuple (List.replicate k.toNat ds).flatten) else none
  | _, _ => none
end
def getStrs : List PyData → Option (List Str)
  | [] => some []
  | .str x :: r => (getStrs r).bind fun l => some (x :: l)
  | _ => none
def fNotInT : PyData → PyData → Option PyData
  | .str x, .tuple ds => (getStrs ds).bind fun ss => some (.bool (!inV (.str x) (ss.map V.str)))
  | _, _ => none
end Fi

namespace Fi
open PySem PySem.Spec PyProof.Rows L2
section
variable {prog : Program} {w : World} {A : Around} {E : Value → Shared → Prop} {s : Shared} {z TI TO i1 i2 : Addr} {fp1 fp2 : List Addr} {n1 n2 i : Nat} {P1 P2 : Nat → Value → Prop} {St1 St2 : Nat → Heap → Prop}
/-- the next of a zip whose last tuple is still held -/
theorem zh_item {T : Addr} {f : Bool} {oT : Obj} {Q : Option Value → Shared → Prop} (S : ZipSep2 z TI TO i1 i2 fp1 fp2) (D1 : Draws prog w A.in1 i1 fp1 n1 P1 St1) (D2 : Draws prog w A.in1 i2 fp2 n2 P2 St2)
    (hz : IsZipHeld s.heap z TI TO T f) (hT : s.heap.get? T = some oT) (hTI : IsTupOf2 s.heap TI (.ref i1) (.ref i2)) (st1 : St1 i s.heap) (st2 : St2 i s.heap) (hlt1 : i < n1) (hlt2 : i < n2)
    (hQ : ∀ x1 x2 h' tk, P1 i x1 → P2 i x2 → IsZipHeld h' z TI TO T true → St1 (i + 1) h' → St2 (i + 1) h' → IsTupOf2 h' s.heap.objs.size x1 x2 → h'.objs.size = s.heap.objs.size + 1 →
      (∀ c o, c ≠ z → c ≠ i1 → c ≠ i2 → s.heap.get? c = some o → h'.get? c = some o) → Q (some (.ref s.heap.objs.size)) { s with heap := h', toks := tk }) :
    wpAny (model prog w) A (pyNext (.ref z)) Q E s := by
  have hTy : s.TypeIs (.ref z) "zip" := ⟨_, hz, rfl⟩
  unfold pyNext
  refine wpAny_bind (wpAny_attempt (wpAny_callSpecial?_slot (name := Str.ofString "__next__") hTy F.slot_zip_next (wpAny_call_entry F.slot_zip_next hTy F.entry_zip_next ?_ (F.args_zip_next_1 _))))
  obtain ⟨hp, g, d, tk0, os⟩ := s
  show wpAny _ _ (field (.ref z) 2 >>= _) _ _ _
  refine wpAny_bind (wpAny_field hz rfl (x := .bool false) rfl ?_)
  show wpAny _ _ (field (.ref z) 3 >>= _) _ _ _
  refine wpAny_bind (wpAny_field hz rfl (x := .ref TI) rfl (wpAny_bind (wpAny_seqItems hTI rfl ?_)))
  show wpAny _ _ (Builtin.SmallTypes.ownedTupleIsFree (.ref z) >>= _) _ _ _
  refine wpAny_bind (wpAny_tupleHeld_zip hz hT fun g0 hz0 hs0 => ?_)
  replace hs0 : Heap.SameBut z hp g0 := hs0
  simp only [Bool.false_eq_true, if_false]
  refine wpAny_bind ?_
  rw [← Array.forIn_toList]
  simp only [List.forIn_cons, List.forIn_nil]
  refine wpAny_bind (wpAny_bind (wpAny_holding ?_))
  show wpAny _ _ (Builtin.SmallTypes.nextOf (.ref i1) >>= _) _ _ ⟨g0, g, d, tk0, os⟩
  refine wpAny_bind (D1.item i _ _ _ hlt1 (D1.over st1 hs0 S.zf1) fun x1 p1 tk1 hx1 sn1 hp1 => wpAny_pure (wpAny_pure ?_))
  replace hp1 : Heap.SameBut i1 g0 p1 := hp1
  refine wpAny_bind (wpAny_bind (wpAny_holding ?_))
  show wpAny _ _ (Builtin.SmallTypes.nextOf (.ref i2) >>= _) _ _ ⟨p1, g, d, tk1, os⟩
  refine wpAny_bind (D2.item i _ _ _ hlt2 (D2.over (D2.over st2 hs0 S.zf2) hp1 S.sep1_2) fun x2 p2 tk2 hx2 sn2 hp2 => wpAny_pure (wpAny_pure (wpAny_pure ?_)))
  replace hp2 : Heap.SameBut i2 p1 p2 := hp2
  show wpAny _ _ (newTuple [x1, x2] >>= _) _ _ ⟨p2, g, d, tk2, os⟩
  refine wpAny_bind (wpAny_newTuple ?_)
  have hsz : p2.objs.size = hp.objs.size := by rw [hp2.1, hp1.1, hs0.1]
  have hzz : IsZipHeld p2 z TI TO T true := hp2.extBut _ _ S.zi2 (hp1.extBut _ _ S.zi1 hz0)
  refine wpAny_pure ⟨_, rfl, wpAny_pure ?_⟩
  show Q (some (.ref p2.objs.size)) _
  have hpair : IsTupOf2 (p2.push { cls := .type "tuple", data := .seq #[x1, x2] }) p2.objs.size x1 x2 := Heap.get?_push_size _ rfl
  have hsz2 : (p2.push { cls := .type "tuple", data := .seq #[x1, x2] }).objs.size = p2.objs.size + 1 := Heap.size_push ..
  rw [hsz] at hpair hsz2 ⊢
  exact hQ x1 x2 _ tk2 hx1 hx2 (Heap.get?_push_of_some _ hzz) (D1.frame _ _ _ (D1.over sn1 hp2 S.sep2_1) fun b _ o e => Heap.get?_push_of_some _ e) (D2.frame _ _ _ sn2 fun b _ o e => Heap.get?_push_of_some _ e) hpair hsz2
    fun c o c1 c2 c3 e => Heap.get?_push_of_some _ (hp2.extBut _ _ c3 (hp1.extBut _ _ c2 (hs0.extBut _ _ c1 e)))
theorem zh_done {T : Addr} {f : Bool} {oT : Obj} {Q : Option Value → Shared → Prop} (S : ZipSep2 z TI TO i1 i2 fp1 fp2) (D1 : Draws prog w A.in1 i1 fp1 n1 P1 St1) (D2 : Draws prog w A.in1 i2 fp2 n2 P2 St2)
    (hz : IsZipHeld s.heap z TI TO T f) (hT : s.heap.get? T = some oT) (hTI : IsTupOf2 s.heap TI (.ref i1) (.ref i2)) (st1 : St1 i s.heap) (st2 : St2 i s.heap) (hle1 : i ≤ n1) (hle2 : i ≤ n2) (hend : i = n1 ∨ i = n2)
    (hQ : ∀ h' tk, (∀ c o, c ≠ z → c ≠ i1 → c ≠ i2 → s.heap.get? c = some o → h'.get? c = some o) → Q none { s with heap := h', toks := tk }) :
    wpAny (model prog w) A (pyNext (.ref z)) Q E s := by
  have hTy : s.TypeIs (.ref z) "zip" := ⟨_, hz, rfl⟩
  unfold pyNext
  refine wpAny_bind (wpAny_attempt (wpAny_callSpecial?_slot (name := Str.ofString "__next__") hTy F.slot_zip_next (wpAny_call_entry F.slot_zip_next hTy F.entry_zip_next ?_ (F.args_zip_next_1 _))))
  obtain ⟨hp, g, d, tk0, os⟩ := s
  show wpAny _ _ (field (.ref z) 2 >>= _) _ _ _
  refine wpAny_bind (wpAny_field hz rfl (x := .bool false) rfl ?_)
  show wpAny _ _ (field (.ref z) 3 >>= _) _ _ _
  refine wpAny_bind (wpAny_field hz rfl (x := .ref TI) rfl (wpAny_bind (wpAny_seqItems hTI rfl ?_)))
  show wpAny _ _ (Builtin.SmallTypes.ownedTupleIsFree (.ref z) >>= _) _ _ _
  refine wpAny_bind (wpAny_tupleHeld_zip hz hT fun g0 hz0 hs0 => ?_)
  replace hs0 : Heap.SameBut z hp g0 := hs0
  simp only [Bool.false_eq_true, if_false]
  refine wpAny_bind ?_
  rw [← Array.forIn_toList]
  simp only [List.forIn_cons, List.forIn_nil]
  refine wpAny_bind (wpAny_bind (wpAny_holding ?_))
  show wpAny _ _ (Builtin.SmallTypes.nextOf (.ref i1) >>= _) _ _ ⟨g0, g, d, tk0, os⟩
  by_cases hlt1 : i < n1
  · refine wpAny_bind (D1.item i _ _ _ hlt1 (D1.over st1 hs0 S.zf1) fun x1 p1 tk1 hx1 sn1 hp1 => wpAny_pure (wpAny_pure ?_))
    replace hp1 : Heap.SameBut i1 g0 p1 := hp1
    have hi2 : i = n2 := by omega
    refine wpAny_bind (wpAny_bind (wpAny_holding ?_))
    show wpAny _ _ (Builtin.SmallTypes.nextOf (.ref i2) >>= _) _ _ ⟨p1, g, d, tk1, os⟩
    refine wpAny_bind (D2.done ⟨p1, g, d, tk1, os⟩ _ _ (by rw [← hi2]; exact D2.over (D2.over st2 hs0 S.zf2) hp1 S.sep1_2) fun q e hq he => ?_)
    replace hq : Heap.ExtBut i2 p1 q := hq
    obtain ⟨o, ho, hce⟩ := he
    refine wpAny_bind (wpAny_isInstance (T := "StopIteration") (b := true) ⟨o, ho, hce⟩ isSubtype_stop ?_)
    exact wpAny_pure (hQ q tk1 fun c o c1 c2 c3 x => hq _ _ c3 (hp1.extBut _ _ c2 (hs0.extBut _ _ c1 x)))
  · have hi1 : i = n1 := by omega
    refine wpAny_bind (D1.done ⟨g0, g, d, tk0, os⟩ _ _ (by rw [← hi1]; exact D1.over st1 hs0 S.zf1) fun q e hq he => ?_)
    replace hq : Heap.ExtBut i1 g0 q := hq
    obtain ⟨o, ho, hce⟩ := he
    refine wpAny_bind (wpAny_isInstance (T := "StopIteration") (b := true) ⟨o, ho, hce⟩ isSubtype_stop ?_)
    exact wpAny_pure (hQ q tk0 fun c o c1 c2 c3 x => hq _ _ c2 (hs0.extBut _ _ c1 x))
end
/-- a zip at its turn i, L the list that is filled -/
def ZS (k1 k2 : Kd) (a b z TI TO i1 i2 L : Addr) (i : Nat) (h : Heap) : Prop :=
  (IsZip h z TI TO .none ∨ ∃ T f oT, IsZipHeld h z TI TO T f ∧ h.get? T = some oT ∧ T ≠ z ∧ T ≠ i1 ∧ T ≠ i2 ∧ T ≠ L) ∧ (∃ x y, IsTupOf2 h TO x y) ∧ IsTupOf2 h TI (.ref i1) (.ref i2) ∧ ItK k1 h i1 a i ∧ ItK k2 h i2 b i
theorem ZS.keep {k1 k2 : Kd} {a b z TI TO i1 i2 L : Addr} {i : Nat} {h h' : Heap} (x : ZS k1 k2 a b z TI TO i1 i2 L i h) (hn : z ≠ L ∧ TI ≠ L ∧ TO ≠ L ∧ i1 ≠ L ∧ i2 ≠ L) (k : ∀ c o, c ≠ L → h.get? c = some o → h'.get? c = some o) : ZS k1 k2 a b z TI TO i1 i2 L i h' := by
  obtain ⟨n1, n2, n3, n4, n5⟩ := hn
  obtain ⟨x1, ⟨u, v, y2⟩, x2, x3, x4⟩ := x
  refine ⟨?_, ⟨u, v, k _ _ n3 y2⟩, k _ _ n2 x2, itK_at x3 fun o q => k _ _ n4 q, itK_at x4 fun o q => k _ _ n5 q⟩
  rcases x1 with y1 | ⟨T, f, oT, y1, y2, y3, y4, y5, y6⟩
  · exact .inl (k _ _ n1 y1)
  · exact .inr ⟨T, f, oT, k _ _ n1 y1, k _ _ y6 y2, y3, y4, y5, y6⟩
section
variable {X : Cx} {pins : List (Addr × Obj)} {σ : L2.St} {a b z TI TO i1 i2 L : Addr} {k1 k2 : Kd}
/-- the list's loop over a zip -/
theorem lz_loop {A : Around} {R : Result → Shared → Prop} (hh : A.handled = none) (D : ZipSep2 z TI TO i1 i2 [i1, a] [i2, b]) (hn : z ≠ L ∧ TI ≠ L ∧ TO ≠ L ∧ i1 ≠ L ∧ i2 ≠ L) {xs ys : List V} {H0 : Hp} (hsz : min xs.length ys.length ≤ 100000) (res : Value) (hL0 : H0 L = none) (hqx : SqK X.K k1 H0 a xs) (hqy : SqK X.K k2 H0 b ys)
    (hR : ∀ H s vs, Inv X pins σ H s → (∀ c o, H0 c = some o → H c = some o) → H L = some (.lst vs) → vs.length = min xs.length ys.length → (∀ (j : Nat) (v : V), vs[j]? = some v → ∃ T x y, v = .ref T ∧ H0 T = none ∧ T ≠ L ∧ H T = some (.tup [x, y]) ∧ xs[j]? = some x ∧ ys[j]? = some y) → R (.ok (.ret res)) s) :
    ∀ (k i : Nat) (H : Hp) (s : Shared) (vs : List V), min xs.length ys.length - i = k → i ≤ min xs.length ys.length → Inv X pins σ H s → (∀ c o, H0 c = some o → H c = some o) → H L = some (.lst vs) → vs.length = i →
      (∀ (j : Nat) (v : V), vs[j]? = some v → ∃ T x y, v = .ref T ∧ H0 T = none ∧ T ≠ L ∧ H T = some (.tup [x, y]) ∧ xs[j]? = some x ∧ ys[j]? = some y) → ZS k1 k2 a b z TI TO i1 i2 L i s.heap → (∀ c ∈ [z, TI, TO, i1, i2], FpOk X pins H c) →
      codeAny (model X.prog X.w) A (.builtin "list.extend.loop" ⟨[.ref L, .ref z, res], []⟩) R s := by
  intro k
  induction k with
  | zero =>
    intro i H s vs hk hi I up hL hvl hvs st hf
    refine codeAny_builtin PySem.F.entry_extend_loop ?_
    rw [Around.under_plainId PySem.F.plain_extend_loop _]
    show wpAny _ A.in1 (pyNext (.ref z) >>= _) _ _ _
    obtain ⟨x1, ⟨u0, v0, y0⟩, x2, x3, x4⟩ := st
    have same : Same H0 H := up
    obtain ⟨its, rv, p⟩ := hasK_of I (sqK_up same hqx)
    obtain ⟨its2, rv2, p2⟩ := hasK_of I (sqK_up same hqy)
    have l1 := rv.length
    have l2 := rv2.length
    have d1 := drawsK k1 (prog := X.prog) (w := X.w) (A := A.in1.in1) hh i1 a (itK_ne x3 p) its.toArray
    have d2 := drawsK k2 (prog := X.prog) (w := X.w) (A := A.in1.in1) hh i2 b (itK_ne x4 p2) its2.toArray
    have fin : ∀ h' tk, (∀ c o, c ≠ z → c ≠ TO → c ≠ i1 → c ≠ i2 → s.heap.get? c = some o → h'.get? c = some o) → R (.ok (.ret res)) { s with heap := h', toks := tk } := fun h' tk hk =>
      hR H _ vs (I.turnedL (t' := tk) (ch := [z, TI, TO, i1, i2]) (fun c o hb q => hk c o (fun q' => hb (by simp [q'])) (fun q' => hb (by simp [q'])) (fun q' => hb (by simp [q'])) (fun q' => hb (by simp [q'])) q) hf) up hL (by omega) hvs
    rcases x1 with y1 | ⟨T, f, oT, y1, y2, y3, y4, y5, y6⟩
    · exact wpAny_bind (wpAny_pyNext_zipD2_end D d1 d2 y1 x2 y0 ⟨x3, p⟩ ⟨x4, p2⟩ (by rw [List.size_toArray]; omega) (by rw [List.size_toArray]; omega) (by rw [List.size_toArray, List.size_toArray]; omega) fun h' tk hk => wpAny_pure (fin h' tk hk))
    · exact wpAny_bind (zh_done D d1 d2 y1 y2 x2 ⟨x3, p⟩ ⟨x4, p2⟩ (by rw [List.size_toArray]; omega) (by rw [List.size_toArray]; omega) (by rw [List.size_toArray, List.size_toArray]; omega) fun h' tk hk => wpAny_pure (fin h' tk fun c o c1 _ c3 c4 e => hk c o c1 c3 c4 e))
  | succ k ih =>
    intro i H s vs hk hi I up hL hvl hvs st hf
    refine codeAny_builtin PySem.F.entry_extend_loop ?_
    rw [Around.under_plainId PySem.F.plain_extend_loop _]
    show wpAny _ A.in1 (pyNext (.ref z) >>= _) _ _ _
    obtain ⟨x1, ⟨u0, v0, y0⟩, x2, x3, x4⟩ := st
    have same : Same H0 H := up
    obtain ⟨its, rv, p⟩ := hasK_of I (sqK_up same hqx)
    obtain ⟨its2, rv2, p2⟩ := hasK_of I (sqK_up same hqy)
    have l1 := rv.length
    have l2 := rv2.length
    have hx : xs[i]? = some xs[i] := List.getElem?_eq_getElem (by omega)
    have hy : ys[i]? = some ys[i] := List.getElem?_eq_getElem (by omega)
    obtain ⟨u, hu, ru⟩ := rv.get hx
    obtain ⟨u2, hu2, ru2⟩ := rv2.get hy
    have d1 := drawsK k1 (prog := X.prog) (w := X.w) (A := A.in1.in1) hh i1 a (itK_ne x3 p) its.toArray
    have d2 := drawsK k2 (prog := X.prog) (w := X.w) (A := A.in1.in1) hh i2 b (itK_ne x4 p2) its2.toArray
    obtain ⟨zL, lits, ln, lr, ll, le⟩ := I.lstM hL
    have hLlt : L < s.heap.objs.size := Heap.lt_size le
    have fin : ∀ v1 v2 h' tk, its.toArray[i]? = some v1 → its2.toArray[i]? = some v2 → ZS k1 k2 a b z TI TO i1 i2 L (i + 1) h' → IsTupOf2 h' s.heap.objs.size v1 v2 → (∀ c o, c ≠ z → c ≠ TO → c ≠ i1 → c ≠ i2 → s.heap.get? c = some o → h'.get? c = some o) →
        wpAny (model X.prog X.w) A.in1 (updateSeq L (·.push (Value.ref s.heap.objs.size)) >>= fun _ => again (.builtin "list.extend.loop" ⟨[.ref L, .ref z, res], []⟩)) (fun fin s' => match fin with | .done f => R (.ok f) s' | .again c' => c'.quiet = true ∧ codeAny (model X.prog X.w) A c' R s') (fun e s' => R (.error e) s') { s with heap := h', toks := tk } := fun v1 v2 h' tk e1 e2 st' hT hk => by
      have ex1 : v1 = u := Option.some.inj (e1.symm.trans (by simpa using hu))
      have ex2 : v2 = u2 := Option.some.inj (e2.symm.trans (by simpa using hu2))
      subst ex1 ex2
      have new : ObjOk X.prog X.w (upd H s.heap.objs.size (.tup [xs[i], ys[i]])) h' s.heap.objs.size (.tup [xs[i], ys[i]]) :=
        ⟨by show 2 ≤ sizeLine; decide, [v1, v2], .cons ru (.cons ru2 .nil), ⟨_, hT, rfl, _, rfl⟩⟩
      have I1 : Inv X pins σ (upd H s.heap.objs.size (.tup [xs[i], ys[i]])) { s with heap := h', toks := tk } :=
        I.turnedNew (t' := tk) (ch := [z, TI, TO, i1, i2]) (fun c o hb q => hk c o (fun q' => hb (by simp [q'])) (fun q' => hb (by simp [q'])) (fun q' => hb (by simp [q'])) (fun q' => hb (by simp [q'])) q) hf (Nat.le_refl _) new
      have hfr : H s.heap.objs.size = none := I.fresh
      have hLne : L ≠ s.heap.objs.size := Nat.ne_of_lt hLlt
      have hL1 : upd H s.heap.objs.size (.tup [xs[i], ys[i]]) L = some (.lst vs) := by rw [upd_ne hLne]; exact hL
      obtain ⟨_, lits', ln', lr', ll', le'⟩ := I1.lstM hL1
      have up' : ∀ c o, c ≠ L → h'.get? c = some o → (h'.update L (Obj.mapSeq (·.push (Value.ref s.heap.objs.size)))).get? c = some o := fun c o hb e => (Heap.get?_update_other _ _ (Ne.symm hb)).trans e
      refine wpAny_bind (wpAny_updateSeq le' rfl (wpAny_pure ⟨plainId_quiet PySem.F.plain_extend_loop _, ?_⟩) (by rw [List.size_toArray]; rw [← ll', hvl]; exact Nat.le_trans (by omega : i ≤ 100000) (by decide)) (by show (lits'.toArray.push (Value.ref s.heap.objs.size)).size ≤ sizeLine + 1; rw [Array.size_push, List.size_toArray, ← ll', hvl]; exact Nat.succ_le_succ (Nat.le_trans (by omega : i ≤ 100000) (by decide))))
      have I2 := I1.lset (f := fun x => x.push (Value.ref s.heap.objs.size)) (its' := lits' ++ [Value.ref s.heap.objs.size]) (ys := vs ++ [V.ref s.heap.objs.size]) (t' := tk) hL1 le' (by simp) (lr'.append (.cons rfl .nil)) (by rw [List.length_append, hvl]; exact Nat.le_trans (show i + [V.ref s.heap.objs.size].length ≤ 100001 by rw [List.length_singleton]; omega) (by decide))
      refine ih (i + 1) _ _ (vs ++ [V.ref s.heap.objs.size]) (by omega) (by omega) I2 (fun c o e => ?_) upd_same (by rw [List.length_append, hvl]; rfl) (fun j v ej => ?_) (st'.keep hn up') (fun c hc => ?_)
      · have h1 : c ≠ L := fun q => by rw [q, hL0] at e; cases e
        have h2 := up c o e
        have h3 : c ≠ s.heap.objs.size := fun q => by rw [q, hfr] at h2; cases h2
        rw [upd_ne h1, upd_ne h3]
        exact h2
      · by_cases hj : j < vs.length
        · rw [List.getElem?_append_left hj] at ej
          obtain ⟨T, x, y, e1, e2, e3, e4, e5⟩ := hvs j v ej
          have h3 : T ≠ s.heap.objs.size := fun q => by rw [q, hfr] at e4; cases e4
          exact ⟨T, x, y, e1, e2, e3, by rw [upd_ne e3, upd_ne h3]; exact e4, e5⟩
        · have hj2 : j = vs.length := by
            have := (List.getElem?_eq_some_iff.mp ej).1
            rw [List.length_append, List.length_singleton] at this
            omega
          subst hj2
          rw [List.getElem?_append_right (Nat.le_refl _), Nat.sub_self] at ej
          have ev : V.ref s.heap.objs.size = v := Option.some.inj ej
          subst ev
          refine ⟨_, xs[i], ys[i], rfl, ?_, Ne.symm hLne, ?_, by rw [hvl]; exact hx, by rw [hvl]; exact hy⟩
          · cases q : H0 s.heap.objs.size with
            | none => rfl
            | some o => have := up _ _ q; rw [hfr] at this; cases this
          · rw [upd_ne (Ne.symm hLne), upd_same]
      · have hc1 : c ≠ L := by
          obtain ⟨n1, n2, n3, n4, n5⟩ := hn
          have e' : c = z ∨ c = TI ∨ c = TO ∨ c = i1 ∨ c = i2 := by simpa using hc
          rcases e' with q | q | q | q | q <;> rw [q] <;> assumption
        have hc2 : c ≠ s.heap.objs.size := by
          have hlt : c < s.heap.objs.size := by
            have e' : c = z ∨ c = TI ∨ c = TO ∨ c = i1 ∨ c = i2 := by simpa using hc
            rcases e' with q | q | q | q | q
            · rw [q]
              rcases x1 with y1 | ⟨T, f, oT, y1, _⟩
              · exact Heap.lt_size y1
              · exact Heap.lt_size y1
            · rw [q]; exact Heap.lt_size x2
            · rw [q]; exact Heap.lt_size y0
            · rw [q]; obtain ⟨_, e1, _⟩ := itK_obj x3; exact Heap.lt_size e1
            · rw [q]; obtain ⟨_, e2, _⟩ := itK_obj x4; exact Heap.lt_size e2
          exact Nat.ne_of_lt hlt
        refine ⟨?_, (hf c hc).2⟩
        rw [upd_ne hc1, upd_ne hc2]
        exact (hf c hc).1
    rcases x1 with y1 | ⟨T, f, oT, y1, y2, y3, y4, y5, y6⟩
    · refine wpAny_bind (wpAny_pyNext_zipD2_item D d1 d2 y1 x2 y0 ⟨x3, p⟩ ⟨x4, p2⟩ (by rw [List.size_toArray]; omega) (by rw [List.size_toArray]; omega) fun v1 v2 h' tk e1 e2 z' TO' s1' s2' hT hs hk => ?_)
      exact fin v1 v2 h' tk e1 e2 ⟨.inr ⟨_, false, _, z', hT, Nat.ne_of_gt (Heap.lt_size y1), fun q => by
        obtain ⟨_, e, _⟩ := itK_obj x3
        exact absurd (Heap.lt_size e) (by rw [← q]; exact Nat.lt_irrefl _), fun q => by
        obtain ⟨_, e, _⟩ := itK_obj x4
        exact absurd (Heap.lt_size e) (by rw [← q]; exact Nat.lt_irrefl _), Nat.ne_of_gt hLlt⟩, ⟨_, _, TO'⟩, hk _ _ D.TIz D.TITO D.TIi1 D.TIi2 x2, s1'.1, s2'.1⟩ hT hk
    · refine wpAny_bind (zh_item D d1 d2 y1 y2 x2 ⟨x3, p⟩ ⟨x4, p2⟩ (by rw [List.size_toArray]; omega) (by rw [List.size_toArray]; omega) fun v1 v2 h' tk e1 e2 z' s1' s2' hT hs hk => ?_)
      exact fin v1 v2 h' tk e1 e2 ⟨.inr ⟨T, true, oT, z', hk _ _ y3 y4 y5 y2, y3, y4, y5, y6⟩, ⟨_, _, hk _ _ D.TOz D.Ti1 D.Ti2 y0⟩, hk _ _ D.TIz D.TIi1 D.TIi2 x2, s1'.1, s2'.1⟩ hT fun c o c1 _ c3 c4 e => hk c o c1 c3 c4 e
theorem zip_no_len : typeLookup (.type "zip") "__len__" = pure none := by rw [typeLookup_type, builtinLookup_eq_fast]; kernel_rfl
theorem zip_no_hint : typeLookup (.type "zip") "__length_hint__" = pure none := by rw [typeLookup_type, builtinLookup_eq_fast]; kernel_rfl
/-- list(z), z a zip that stands at its start -/
theorem lz_call {H : Hp} {s : Shared} {xs ys : List V} {Q : VK} (hh : X.A.handled = none) (I : Inv X pins σ H s) (D : ZipSep2 z TI TO i1 i2 [i1, a] [i2, b]) (hsz : min xs.length ys.length ≤ 100000) (hqx : SqK X.K k1 H a xs) (hqy : SqK X.K k2 H b ys)
    (hz : IsZip s.heap z TI TO .none) (hTI : IsTupOf2 s.heap TI (.ref i1) (.ref i2)) (hTO : ∃ x y, IsTupOf2 s.heap TO x y) (h1 : ItK k1 s.heap i1 a 0) (h2 : ItK k2 s.heap i2 b 0) (hf : ∀ c ∈ [z, TI, TO, i1, i2], FpOk X pins H c)
    (hQ : ∀ p vs H', H p = none → Same H H' → H' p = some (.lst vs) → vs.length = min xs.length ys.length → (∀ (j : Nat) (v : V), vs[j]? = some v → ∃ T x y, v = .ref T ∧ H T = none ∧ T ≠ p ∧ H' T = some (.tup [x, y]) ∧ xs[j]? = some x ∧ ys[j]? = some y) → Q (.ref p) H') :
    wpAny (model X.prog X.w) X.A (call (.type "list") [.ref z]) (EP X pins σ Q) X.xe s := by
  obtain ⟨tx, ty, hTO⟩ := hTO
  have n1 : z < s.heap.objs.size := Heap.lt_size hz
  have n2 : TI < s.heap.objs.size := Heap.lt_size hTI
  have n3 : TO < s.heap.objs.size := Heap.lt_size hTO
  have n4 : i1 < s.heap.objs.size := by obtain ⟨_, e, _⟩ := itK_obj h1; exact Heap.lt_size e
  have n5 : i2 < s.heap.objs.size := by obtain ⟨_, e, _⟩ := itK_obj h2; exact Heap.lt_size e
  have hne : z ≠ s.heap.objs.size ∧ TI ≠ s.heap.objs.size ∧ TO ≠ s.heap.objs.size ∧ i1 ≠ s.heap.objs.size ∧ i2 ≠ s.heap.objs.size := ⟨Nat.ne_of_lt n1, Nat.ne_of_lt n2, Nat.ne_of_lt n3, Nat.ne_of_lt n4, Nat.ne_of_lt n5⟩
  have hL0 : H s.heap.objs.size = none := I.fresh
  have I1 : Inv X pins σ (upd H s.heap.objs.size (.lst [])) { s with heap := s.heap.push { cls := .type "list", data := .seq #[] } } := I.lnew (its := []) (t' := s.toks) .nil (Nat.zero_le _)
  refine callType_codes (Q₁ := fun obj s₁ => obj = .ref s.heap.objs.size ∧ s₁ = { s with heap := s.heap.push { cls := .type "list", data := .seq #[] } }) PySem.F.called_list (PySem.F.typeCall_list_1 _) PySem.F.entry_list_init
    (code_list_new _ ⟨rfl, rfl⟩) fun obj s₁ h₁ => ?_
  obtain ⟨rfl, rfl⟩ := h₁
  generalize hLL : s.heap.objs.size = L at *
  have hS : (s.heap.push { cls := .type "list", data := .seq #[] }).get? L = some { cls := .type "list", data := .seq #[] } := by rw [← hLL]; exact Heap.get?_push_size _ rfl
  have keep0 : ∀ c o, c ≠ L → s.heap.get? c = some o → (s.heap.push { cls := .type "list", data := .seq #[] }).get? c = some o := fun c o _ e => Heap.get?_push_of_some _ e
  refine ⟨⟨_, hS, rfl⟩, PySem.F.args_list_init_2 _ _, ?_⟩
  generalize hs1 : ({ s with heap := s.heap.push { cls := .type "list", data := .seq #[] } } : Shared) = s1 at I1 ⊢
  have hS : s1.heap.get? L = some { cls := .type "list", data := .seq #[] } := by rw [← hs1]; exact hS
  have keep1 : ∀ c o, c ≠ L → s.heap.get? c = some o → s1.heap.get? c = some o := by rw [← hs1]; exact keep0
  show wpAny _ _ (do let old ← Builtin.List.listItems (.ref L); Builtin.List.listUpdate (.ref L) (fun _ => #[]); letGo old.toList.reverse; Builtin.List.listExtendWith (.ref L) (.ref z) .none) _ _ s1
  refine wpAny_bind ?_
  unfold Builtin.List.listItems
  refine wpAny_bind (wpAny_seqItems hS rfl (wpAny_pure ?_))
  show wpAny _ _ (updateSeq L (fun _ => #[]) >>= fun _ => letGo (#[] : Array Value).toList.reverse >>= fun _ => Builtin.List.listExtendWith (.ref L) (.ref z) .none) _ _ s1
  refine wpAny_bind (wpAny_updateSeq hS rfl ?_)
  have I2 := I1.lset (f := fun _ => #[]) (its := []) (its' := []) (ys := []) (t' := s1.toks) upd_same hS rfl .nil (Nat.zero_le _)
  have hS2 := Heap.get?_update_self (Obj.mapSeq (fun _ => (#[] : Array Value))) hS rfl
  have keep2 : ∀ c o, c ≠ L → s.heap.get? c = some o → (s1.heap.update L (Obj.mapSeq (fun _ => (#[] : Array Value)))).get? c = some o := fun c o hb e => (Heap.get?_update_other _ _ (Ne.symm hb)).trans (keep1 c o hb e)
  refine wpAny_bind (wpAny_letGo ?_)
  generalize hs2 : ({ s1 with heap := s1.heap.update L (Obj.mapSeq (fun _ => (#[] : Array Value))), toks := s1.toks } : Shared) = s2 at I2
  obtain ⟨ep, hS2⟩ : ∃ n, s2.heap.get? L = some { cls := .type "list", data := .seq #[] n } := ⟨_, by rw [← hs2]; exact hS2⟩
  have keep2 : ∀ c o, c ≠ L → s.heap.get? c = some o → s2.heap.get? c = some o := by rw [← hs2]; exact keep2
  have hz2 := keep2 _ _ hne.1 hz
  have hT2 : s2.TypeIs (.ref z) "zip" := ⟨_, hz2, rfl⟩
  unfold Builtin.List.listExtendWith
  refine wpAny_bind (wpAny_typeOf hT2 ?_)
  have q1 : Builtin.List.listSameRef (.ref L) (.ref z) = false := by simp [Builtin.List.listSameRef, Ne.symm hne.1]
  have q2 : (Value.type "zip" == Value.type "list") = false := by decide
  have q3 : (Value.type "zip" == Value.type "tuple") = false := by decide
  simp only [q1, q2, q3, Bool.or_false, Bool.false_eq_true, if_false]
  refine wpAny_bind (wpAny_pyIter_zip hz2 (wpAny_bind (wpAny_holding ?_)))
  unfold Builtin.List.listLengthHint
  refine wpAny_bind (wpAny_specialOf hT2 zip_no_len ?_)
  show wpAny _ _ (specialOf (Value.ref z) (Str.ofString "__length_hint__") >>= _) _ _ _
  refine wpAny_bind (wpAny_specialOf hT2 zip_no_hint (wpAny_pure ?_))
  show wpAny _ _ (rule "list.extend.makes-room" >>= fun _ => Builtin.List.listTouch (.ref L) >>= fun _ => again (.builtin "list.extend.loop" ⟨[.ref L, .ref z, .none], []⟩)) _ _ _
  refine wpAny_bind (wpAny_rule (wpAny_bind ?_))
  show wpAny _ _ (updateSeq L (·.push .none) >>= fun _ => updateSeq L (·.pop)) _ _ _
  refine wpAny_bind (wpAny_updateSeq hS2 rfl ?_)
  have I3 := I2.lset (f := fun x => x.push Value.none) (its := []) (its' := [Value.none]) (ys := [V.non]) (t' := s2.toks) upd_same hS2 (by simp) (.cons rfl .nil) (by decide)
  have hS3 := Heap.get?_update_self (Obj.mapSeq (·.push Value.none)) hS2 rfl
  refine wpAny_updateSeq (hz := by seq_fits) hS3 rfl ?_
  have I4 := I3.lset (f := fun x => x.pop) (its := [Value.none]) (its' := []) (ys := []) (t' := s2.toks) upd_same hS3 (by simp) .nil (Nat.zero_le _)
  have keep4 : ∀ c o, c ≠ L → s.heap.get? c = some o → ((s2.heap.update L (Obj.mapSeq (·.push Value.none))).update L (Obj.mapSeq (·.pop))).get? c = some o := fun c o hb e => (Heap.get?_update_other _ _ (Ne.symm hb)).trans ((Heap.get?_update_other _ _ (Ne.symm hb)).trans (keep2 c o hb e))
  have uu : ∀ o1 o2 o3 o4 : HO, upd (upd (upd (upd H L o1) L o2) L o3) L o4 = upd H L o4 := fun o1 o2 o3 o4 => by
    funext c
    by_cases hc : c = L
    · subst hc
      rw [upd_same, upd_same]
    · rw [upd_ne hc, upd_ne hc, upd_ne hc, upd_ne hc, upd_ne hc]
  rw [uu] at I4
  refine wpAny_pure ⟨plainId_quiet PySem.F.plain_extend_loop _, ?_⟩
  refine lz_loop (X := X) (pins := pins) (σ := σ) (H0 := H) (xs := xs) (ys := ys) (A := X.A.in1) hh D hne hsz .none hL0 hqx hqy (fun H' s' vs I' up hL hl hv => ?_) (min xs.length ys.length) 0 _ _ [] (Nat.sub_zero _) (Nat.zero_le _) I4 (fun c o e => ?_) upd_same rfl (fun j v e => by simp at e)
    (ZS.keep (h := s.heap) ⟨.inl hz, ⟨tx, ty, hTO⟩, hTI, h1, h2⟩ hne keep4) (fun c hc => ?_)
  · exact ⟨rfl, .ref L, H', I', rfl, hQ L vs H' hL0 up hL hl hv⟩
  · rw [upd_ne (fun q => by rw [q, hL0] at e; cases e)]
    exact e
  · have hcn : c ≠ L := by
      obtain ⟨m1, m2, m3, m4, m5⟩ := hne
      have e' : c = z ∨ c = TI ∨ c = TO ∨ c = i1 ∨ c = i2 := by simpa using hc
      rcases e' with q | q | q | q | q <;> rw [q] <;> assumption
    refine ⟨?_, (hf c hc).2⟩
    rw [upd_ne hcn]
    exact (hf c hc).1
end
theorem DpAll_of {K : PySem.W.Frag} {H : Hp} : ∀ {vs : List V} {ds : List PyData}, vs.length = ds.length → (∀ (j : Nat) (v : V) (d : PyData), vs[j]? = some v → ds[j]? = some d → Dp K H v d) → DpAll K H vs ds
  | [], [], _, _ => .nil
  | v :: vs, d :: ds, hl, h => .cons (h 0 v d rfl rfl) (DpAll_of (by simpa using hl) fun j v' d' e1 e2 => h (j + 1) v' d' (by simpa using e1) (by simpa using e2))
  | [], _ :: _, hl, _ => by simp at hl
  | _ :: _, [], hl, _ => by simp at hl
def lLZ (k1 k2 : Kd) (r : FL) : FL := fun env => (iZ k1 k2 r env).bind fun l => if l.length ≤ 1000 then some l else none
/-- list(zip(x, y)) -/
theorem l_listZip (k1 k2 : Kd) {X : Cx} {e e2 : Expr} {r : FL} {p p2 pos pos2 : Pos} (hc : X.calm = true) (hg : Gl X "list") (hm : X.mg "list" = none) (hgz : Gl X "zip") (hmz : X.mg "zip" = none) (ha : PA X [e, e2] (tA X.K r))
    (hs : starEach [e, e2] X.env = (false, eval e X.env) :: starEach [e2] X.env := by rfl) (hpl : (backTo pos2 (starEach [e2] X.env)).any (·.1) = false := by rfl)
    (na : starEach [.Call (.Name "zip" p2) [e, e2] [] pos2] X.env = (false, eval (.Call (.Name "zip" p2) [e, e2] [] pos2) X.env) :: starEach [] X.env := by rfl) :
    PE X (.Call (.Name "list" p) [.Call (.Name "zip" p2) [e, e2] [] pos2] [] pos) (tL X.K (lLZ k1 k2 r)) := by
  refine ⟨fun pins s σ H Q I h => ?_⟩
  obtain ⟨Z, Hf, env, out, R, hf, kq⟩ := h
  unfold lLZ at hf
  obtain ⟨l, hz, hf⟩ := Option_bind_some hf
  split at hf
  · rename_i hlen
    cases hf
    unfold iZ at hz
    split at hz
    · rename_i dx dy hr
      obtain ⟨xs, hx, hz⟩ := Option_bind_some hz
      obtain ⟨ys, hy, hz⟩ := Option_bind_some hz
      cases hz
      have hin : tA X.K r σ H (fun vs H1 => ∃ a b us ws Hf1, vs = [.ref a, .ref b] ∧ Stp Hf H Hf1 H1 ∧ SqK X.K k1 Hf1 a us ∧ SqK X.K k2 Hf1 b ws ∧ DpAll X.K Hf1 us xs ∧ DpAll X.K Hf1 ws ys) :=
        ⟨Z, Hf, env, _, R, hr, fun vs H1 Hf1 s1 d1 => by
          obtain ⟨v, w, rfl, hv, hw⟩ := d1.two
          obtain ⟨a, us, rfl, ha, hda⟩ := dp_itemsK hv hx
          obtain ⟨b, ws, rfl, hb, hdb⟩ := dp_itemsK hw hy
          exact ⟨a, b, us, ws, Hf1, rfl, s1, ha, hb, hda, hdb⟩⟩
      have inner : wpAny (model X.prog X.w) X.A (eval (.Call (.Name "zip" p2) [e, e2] [] pos2) X.env) (fun x s' => ∃ z TI TO i1 i2 a b us ws Hf1 H1, x = .ref z ∧ Inv X pins σ H1 s' ∧ ZipSep2 z TI TO i1 i2 [i1, a] [i2, b] ∧ IsZip s'.heap z TI TO .none ∧ IsTupOf2 s'.heap TI (.ref i1) (.ref i2) ∧ (∃ x y, IsTupOf2 s'.heap TO x y) ∧ ItK k1 s'.heap i1 a 0 ∧ ItK k2 s'.heap i2 b 0 ∧
          (∀ c ∈ [z, TI, TO, i1, i2], FpOk X pins H1 c) ∧ Stp Hf H Hf1 H1 ∧ SqK X.K k1 Hf1 a us ∧ SqK X.K k2 Hf1 b ws ∧ DpAll X.K Hf1 us xs ∧ DpAll X.K Hf1 ws ys) X.xe s := by
        refine Call_ (ld_blt I hgz hmz PyProof.Rows.boot_zip (PyProof.Rows.callWith_type1 (thn (ha.run pos2 pins s σ H _ I hin) fun us s1 ⟨vs, H1, I1, r1, q1⟩ => ?_) hs hpl))
        obtain ⟨a, b, us', ws', Hf1, ex, s1', hqx, hqy, hda, hdb⟩ := q1
        subst ex
        cases r1 with
        | cons ra rr =>
          cases rr with
          | cons rb rr =>
            cases rr
            cases ra
            cases rb
            obtain ⟨its, rv, p1⟩ := hasK_of I1 (sqK_up s1'.i hqx)
            obtain ⟨its2, rv2, p2'⟩ := hasK_of I1 (sqK_up s1'.i hqy)
            refine zip_begins2 (beginsK k1 a its.toArray) (beginsK k2 b its2.toArray) p1 p2' fun h' hz hTI hTO h1 h2 hsz hk => ?_
            have hsep := zip_sep2 (N := s1.heap.objs.size) (fp1 := [a]) (fp2 := [b]) (fun c hc => by rw [List.mem_singleton.mp hc]; exact hasK_lt p1) (fun c hc => by rw [List.mem_singleton.mp hc]; exact hasK_lt p2')
            refine ⟨s1.heap.objs.size + 4, s1.heap.objs.size + 2, s1.heap.objs.size + 3, s1.heap.objs.size, s1.heap.objs.size + 1, a, b, us', ws', Hf1, H1, rfl, I1.kept (t' := s1.toks) hk, hsep, hz, hTI, ⟨_, _, hTO⟩, itK_0 h1, itK_0 h2, fun c hcm => ?_, s1', hqx, hqy, hda, hdb⟩
            have e' : c = s1.heap.objs.size + 4 ∨ c = s1.heap.objs.size + 2 ∨ c = s1.heap.objs.size + 3 ∨ c = s1.heap.objs.size ∨ c = s1.heap.objs.size + 1 := by simpa using hcm
            have hle : s1.heap.objs.size ≤ c := by
              rcases e' with q | q | q | q | q <;> rw [q]
              · exact Nat.le_add_right _ _
              · exact Nat.le_add_right _ _
              · exact Nat.le_add_right _ _
              · exact Nat.le_refl _
              · exact Nat.le_add_right _ _
            exact I1.fpOk hle (I1.hok.fresh hle)
      refine Call_ (ld_blt I hg hm PyProof.Rows.boot_list (PyProof.Rows.callWith_type1 (args_cons (thn inner fun x s1 ⟨z, TI, TO, i1, i2, a, b, us, ws, Hf1, H1, ex, I1, D, hz, hTI, hTO, h1, h2, hfp, st, hqx, hqy, hda, hdb⟩ => args_nil ?_) na) na))
      subst ex
      have hpl : (pairs xs ys).length = min us.length ws.length := by
        unfold pairs
        rw [List.length_zipWith, hda.len, hdb.len]
      refine lz_call (xs := us) (ys := ws) (I1.ok.hd hc) I1 D (by omega) (sqK_up st.i hqx) (sqK_up st.i hqy) hz hTI hTO h1 h2 hfp fun p vs H' hp hup hL hvl hvs => ?_
      have hpf : Hf1 p = none := st.i.free hp
      let Hf' : Hp := fun c => match Hf1 c with
        | some o => some o
        | none => if H1 c = none ∧ c ≠ p then H' c else none
      have a1 : Same Hf1 Hf' := fun c o e => by
        show (match Hf1 c with | some o => some o | none => _) = some o
        rw [e]
      have a2 : Same Hf' H' := fun c o e => by
        have e : (match Hf1 c with | some o => some o | none => if H1 c = none ∧ c ≠ p then H' c else none) = some o := e
        cases q : Hf1 c with
        | some o' =>
          rw [q] at e
          cases e
          exact hup c _ (st.i c _ q)
        | none =>
          rw [q] at e
          simp only at e
          split at e
          · exact e
          · cases e
      have a3 : ∀ c, H1 c = none → c ≠ p → Hf' c = H' c := fun c e1 e2 => by
        show (match Hf1 c with | some o => some o | none => if H1 c = none ∧ c ≠ p then H' c else none) = _
        rw [st.i.free e1]
        simp only
        rw [if_pos ⟨e1, e2⟩]
      have a4 : ∀ c o, H1 c = some o → Hf1 c = none → Hf' c = none := fun c o e1 e2 => by
        show (match Hf1 c with | some o => some o | none => if H1 c = none ∧ c ≠ p then H' c else none) = _
        rw [e2]
        simp only
        rw [if_neg (fun q => by rw [q.1] at e1; cases e1)]
      have a5 : Hf' p = none := by
        show (match Hf1 p with | some o => some o | none => if H1 p = none ∧ p ≠ p then H' p else none) = _
        rw [hpf]
        simp only
        rw [if_neg (fun q => q.2 rfl)]
      have st2 : Stp Hf1 H1 Hf' H' := ⟨a1, a2, hup, a4⟩
      refine kq p vs H' Hf' (st.trans st2) (st.h.free hp) a5 hL (DpAll_of (by rw [hvl, hpl]) fun j v d e1 e2 => ?_)
      obtain ⟨T, x, y, rfl, g1, g2, g3, g4, g5⟩ := hvs j v e1
      obtain ⟨dx', m1, m2⟩ := hda.get g4
      obtain ⟨dy', m3, m4⟩ := hdb.get g5
      unfold pairs at e2
      rw [List.getElem?_zipWith, m1, m3] at e2
      cases e2
      exact .tup (SqT.of (by rw [a3 T g1 g2]; exact g3)) (.cons (Dp_up a1 m2) (.cons (Dp_up a1 m4) .nil))
    · cases hz
  · cases hf
end Fi

namespace Fi
open PySem PySem.Spec PyProof.Rows L2
section
variable {prog : Program} {w : World} {A : Around} {E : Value → Shared → Prop} {s : Shared} {z TI TO i1 i2 i3 : Addr} {fp1 fp2 fp3 : List Addr} {n1 n2 n3 i : Nat} {P1 P2 P3 : Nat → Value → Prop} {St1 St2 St3 : Nat → Heap → Prop}
end
/-- a zip at its turn i, L the list that is filled -/
def ZS3 (k1 k2 k3 : Kd) (a b d3 z TI TO i1 i2 i3 L : Addr) (i : Nat) (h : Heap) : Prop :=
  (IsZip h z TI TO .none ∨ ∃ T f oT, IsZipHeld h z TI TO T f ∧ h.get? T = some oT ∧ T ≠ z ∧ T ≠ i1 ∧ T ≠ i2 ∧ T ≠ i3 ∧ T ≠ L) ∧ (∃ x y u, IsTupOf3 h TO x y u) ∧ IsTupOf3 h TI (.ref i1) (.ref i2) (.ref i3) ∧ ItK k1 h i1 a i ∧ ItK k2 h i2 b i ∧ ItK k3 h i3 d3 i
theorem ZS3.keep {k1 k2 k3 : Kd} {a b d3 z TI TO i1 i2 i3 L : Addr} {i : Nat} {h h' : Heap} (x : ZS3 k1 k2 k3 a b d3 z TI TO i1 i2 i3 L i h) (hn : z ≠ L ∧ TI ≠ L ∧ TO ≠ L ∧ i1 ≠ L ∧ i2 ≠ L ∧ i3 ≠ L) (k : ∀ c o, c ≠ L → h.get? c = some o → h'.get? c = some o) : ZS3 k1 k2 k3 a b d3 z TI TO i1 i2 i3 L i h' := by
  obtain ⟨n1, n2, n3, n4, n5, n6⟩ := hn
  obtain ⟨x1, ⟨u, v, u3, y2⟩, x2, x3, x4, x5⟩ := x
  refine ⟨?_, ⟨u, v, u3, k _ _ n3 y2⟩, k _ _ n2 x2, itK_at x3 fun o q => k _ _ n4 q, itK_at x4 fun o q => k _ _ n5 q, itK_at x5 fun o q => k _ _ n6 q⟩
  rcases x1 with y1 | ⟨T, f, oT, y1, y2, y3, y4, y5, y6, y7⟩
  · exact .inl (k _ _ n1 y1)
  · exact .inr ⟨T, f, oT, k _ _ n1 y1, k _ _ y7 y2, y3, y4, y5, y6, y7⟩
section
variable {X : Cx} {pins : List (Addr × Obj)} {σ : L2.St} {a b d3 z TI TO i1 i2 i3 L : Addr} {k1 k2 k3 : Kd}
end
def lLZ3 (k1 k2 k3 : Kd) (r : FL) : FL := fun env => (iZ3 k1 k2 k3 r env).bind fun l => if l.length ≤ 1000 then some l else none
end Fi

namespace Ob
open PySem PySem.Spec PyProof.Rows L2 GenW
section
variable {M : Model} {A : Around} {R : GenEnd} {Y : Protocol} {n : Nat} {s₀ : Shared} {c : Code} {fs : List Frame} {s : Shared} {env : Env}
  {K : Flow → Sem PySem.Fin} {J : Value → Sem PySem.Fin} {gd : Bool → Bool} {lv : List Value → List Value}
end
section
variable {prog : Program} {w : World} {A : Around} {R : GenEnd} {Y : Protocol} {n : Nat} {s₀ : Shared} {fs : List Frame} {s : Shared} {env : Env}
abbrev noted (env : Env) (e : Value) : Sem PySem.Fin := (do noteFrame e env; theTreesLotGoes e : Sem Unit).wrap (fun _ => .raise e) .raise id id
end
def tGFor (wi : TI) (g : TG) (tb : TGn) : TGn := fun D ys σ H => wi σ H fun J H1 => ∃ W : Nat → Nat → List V → L2.St → Hp → Prop, (∃ m, W 0 m ys σ H1) ∧ ∀ i m ys σ H, W i m ys σ H → (J.stop i H ∧ D.nx ys σ H) ∨
  (J.go i H ∧ ∃ N : List V → L2.St → Hp → Prop, (∀ ys' σ' H', N ys' σ' H' → ∃ m', m' < m ∧ W (i + 1) m' ys' σ' H') ∧ ∀ x H', J.yld i H x H' → g x σ H' fun σ1 H1 => tb { D with nx := N, ct := N, bk := D.nx } ys σ1 H1)
section
variable {X : Cx} {tg : Expr}
end
end Ob

namespace Ob
open PySem PySem.Spec PyProof.Rows L2 Fi
abbrev GFS := En → Stor → List D → Option (En × Stor × List D)
def tGS (K : PySem.W.Frag) (f : GFS) : TGn := fun N ys σ H => ∃ (Z : Zt) (ρ : List Addr) (Hf : Hp) (env : En) (st : Stor) (out : List D) (o : En × Stor × List D), Rel K Z ρ Hf H env st σ ∧ DqAll K Hf ρ ys out ∧ f env st out = some o ∧
  ∀ ys' σ' H' ρ' Hf', Up Hf ρ Hf' ρ' → Rel K Z ρ' Hf' H' o.1 o.2.1 σ' → DqAll K Hf' ρ' ys' o.2.2 → N.nx ys' σ' H'
def gPlain (f : FS) : GFS := fun env st out => match f env st with
  | some (.next e s) => some (e, s, out)
  | _ => none
def gNil : GFS := fun env st out => some (env, st, out)
def gSeq (f g : GFS) : GFS := fun env st out => (f env st out).bind fun r => g r.1 r.2.1 r.2.2
def gYield (f : F D) : GFS := fun env st out => match f env st with
  | some (.ok d s) => if out.length < 100000 then some (env, s, out ++ [d]) else none
  | _ => none
def gforD (g : D → En → Option En) (fb : GFS) : List D → GFS
  | [], env, st, out => some (env, st, out)
  | d :: ds, env, st, out => (g d env).bind fun e1 => (fb e1 st out).bind fun r => gforD g fb ds r.1 r.2.1 r.2.2
def gFor (fi : F (List D)) (g : D → En → Option En) (fb : GFS) : GFS := fun env st out => match fi env st with
  | some (.ok ds s) => gforD g fb ds env s out
  | _ => none
section
variable {X : Cx} {s1 : Stmt} {rest body : List Stmt} {f : FS} {u v fb : GFS} {e : Expr} {h : F D} {pos yp : Pos}
end
abbrev Gn' := List D → Stor → Option (List D × Stor)
def fnG (n : Nat) (b : GFS) : Gn' := fun ds st => (b (entry n ds) st []).map fun r => (r.2.2, r.2.1)
def spG (K : PySem.W.Frag) (n : Nat) (G : Gn') : SpG := fun vs H Q E => vs.length = n ∧ ∃ (ρ : List Addr) (Hf : Hp) (ds : List D) (st : Stor) (o : List D × Stor), StOk K ρ Hf H st ∧ DqAll K Hf ρ vs ds ∧ G ds st = some o ∧
  ∀ ys H' ρ' Hf', OStp ρ Hf H ρ' Hf' H' → StOk K ρ' Hf' H' o.2 → DqAll K Hf' ρ' ys o.1 → Q ys H'
structure GMt (P : Program) (w : World) (K : PySem.W.Frag) (mg : Str → Option Value) (base : Heap) (k : Nat) (m : Str) (n : Nat) (c : Str) (G : Gn') : Prop where
  cls : Cls K (He.ga K c)
  ex : ∃ (f : Addr) (fd : FuncData) (ps : List Str), Meth K (He.ga K c) m f ∧ GFn P w K mg base k f fd ps (spG K (n + 1) G) ∧ Binds K fd ps []
def lGen (c m : Str) (n : Nat) (G : Gn') (f : F D) (r : F (List D)) : F (List D) := bnd f fun d env st => match pick [(c, fun _ _ => none)] m d st with
  | some _ => bnd r (fun ds _ st => if ds.length = n then (G (d :: ds) st).map fun o => .ok o.1 o.2 else none) env st
  | none => none
section
variable {X : Cx} {W : WX} {j k n : Nat} {G : Gn'} {c m : Str} {p pos apos pos' : Pos} {e o : Expr} {es : List Expr} {r : F (List D)} {f : F D}
end
end Ob

namespace Ob
open PySem PySem.Spec PyProof.Rows L2 Fi
def eSlTD (f : F D) (fl fh : F (Option Int)) : F D := bnd f fun x => bnd fl fun a => bnd fh fun b => lft (match x with
  | .py (.tuple l) => some (.py (.tuple (Fi.cutD l a b)))
  | _ => none)
section
variable {X : Cx} {W : WX} {e : Expr} {f : F D} {lo hi : Option Expr} {fl fh : F (Option Int)} {pos p2 : Pos}
end
def iZipT (r : F (List D)) : F (List D) := bnd r fun ds => lft (match ds with
  | [.py (.tuple xs), .py (.tuple ys)] => some ((pairs xs ys).map .py)
  | _ => none)
end Ob
namespace Fi
open PySem PySem.Spec PyProof.Rows L2
def rRep0 (K : PySem.W.Frag) : R2 := fun x y H Q => ∃ l xs, x = .ref l ∧ y = .int 0 ∧ SqT K H l xs ∧ xs ≠ [] ∧ ∀ p, H p = none → Q (.ref p) (upd H p (.tup []))
section
variable {X : Cx}
def fMulB : PyData → PyData → Option PyData
  | .tuple [d], .int k => if k = 0 then some (.tuple []) else if k = 1 then some (.tuple [d]) else none
  | _, _ => none
end
end Fi

namespace Ob
open PySem PySem.Spec PyProof.Rows L2 Fi
structure ParK (p : Arguments) (pv : Str) : Prop where
  po : p.posonlyargs = []
  ar : p.args.map (·.arg) = (["self"] : List Str)
  ko : p.kwonlyargs = []
  va : p.vararg = none
  ka : ∃ a, p.kwarg = some a ∧ a.arg = pv
section
variable {P : Program} {w : World} {A : Around} {E : Value → Shared → Prop} {h : Heap} {g : Array GenState} {d : Drawn} {t : Nat} {os : OsState}
theorem bindKw2 {fd : FuncData} {pv : Str} {a v1 v2 : Value} {Q : List (Str × Value) → Shared → Prop} (hp : ParK fd.params pv) (hD : fd.defaults = .none)
    (q : ∀ h' t' t1 t2, h'.get? h.objs.size = some (dctO #[⟨hashStr w "rent", .str "rent" t1, v1⟩, ⟨hashStr w "food", .str "food" t2, v2⟩] 2) → (∀ b o, h.get? b = some o → h'.get? b = some o) → Q [("self", a), (pv, .ref h.objs.size)] ⟨h', g, d, t', os⟩) :
    wpAny (model P w) A (bindArgs fd ⟨[a], [("rent", v1), ("food", v2)]⟩) Q E ⟨h, g, d, t, os⟩ := by
  obtain ⟨ka, q1, q2⟩ := hp.ka
  unfold bindArgs
  simp only [hp.po, hp.ar, hp.ko, hp.va, q1, hD, List.map_nil, List.nil_append]
  refine wpAny_bind ?_
  repeat (first | wp_step | (with_reducible refine wpAny_askSetting ?_))
  rw [q2]
  have g0 : (h.push (dctO #[] 0)).get? h.objs.size = some (dctO #[] 0) := Heap.get?_push_at rfl rfl
  refine q _ _ t (t + 1) (Heap.get?_update_self _ (Heap.get?_update_self _ g0 rfl) rfl) fun b o e => ?_
  rw [Heap.get?_update_ne _ _ _ _ (Nat.ne_of_lt (Heap.lt_size e)), Heap.get?_update_ne _ _ _ _ (Nat.ne_of_lt (Heap.lt_size e))]
  exact Heap.get?_push_of_some _ e
end
section
variable {P : Program} {w : World} {K : PySem.W.Frag} {mg : Str → Option Value} {base : Heap} {A : Around} {outer : List Env} {s s2 : Shared} {H : Hp}
theorem env0_laid2 {u : HO} (e0 : Env0 P w K mg base A outer s H) (kp : ∀ b x, s.heap.get? b = some x → s2.heap.get? b = some x) (hs : s.heap.objs.size ≤ s2.heap.objs.size) (hg : s2.gens = s.gens) (new : ObjOk P w (upd H s.heap.objs.size u) s2.heap s.heap.objs.size u) :
    Env0 P w K mg base A outer s2 (upd H s.heap.objs.size u) := by
  refine ⟨e0.frames, e0.mod, fun b x e => ⟨kp b x (e0.bs b x e).1, ?_⟩, Nat.le_trans e0.bsz hs, Heap.FunFrames.of_keeps (fun b x e _ => ⟨x, kp b x e, rfl⟩) e0.funs, fun b hb => ?_, e0.hok.laid kp (Nat.le_refl _) new, by rw [hg]; exact e0.bare⟩
  · rw [upd_ne (Nat.ne_of_lt (Heap.lt_size (e0.bs b x e).1))]
    exact (e0.bs b x e).2
  · obtain ⟨_, x, hx, _⟩ := e0.funs.mem hb
    rw [upd_ne (Nat.ne_of_lt (Heap.lt_size hx))]
    exact e0.frf b hb
end
def fnKw2 (n : Nat) (b : FS) : Fn := fun ds st => match ds with
  | [d, x, y] => fnO n b [d, .obj st.length] (st ++ [.dct [("rent", x), ("food", y)]])
  | _ => none
theorem kw_cal2 {P : Program} {w : World} {K : PySem.W.Frag} {mg : Str → Option Value} {base : Heap} {x qual : Str} {params : Arguments} {body : List Stmt} {scope : Scope} {kws : List (Str × V)} {f : Addr} {fd : FuncData} {N : List Str} {pv : Str} {b : FS} {n k : Nat}
    (hF : FunD K x qual params body scope [] kws f fd) (S : FnScope N ["self", pv] scope) (hn : N.length = n) (hpar : ParK params pv)
    (hb : ∀ (cdv : Value) (A : Around) (outer : List Env) (s : Shared) (H : Hp) (E : XK), Room k (A.deeper (envOfC qual scope s.heap.objs.size f cdv)) → L2N.Takes (cxOf (L2N.CX P w) P w K mg base N qual scope f cdv A outer s H E) (fun cls d _ H => E cls d H) →
      PSs (cxOf (L2N.CX P w) P w K mg base N qual scope f cdv A outer s H E) body (tS K (fun cls d _ H => E cls d H) b)) :
    CalK P w K mg base (k + 1) f 1 ["rent", "food"] (spO K 3 (fnKw2 n b)) := by
  obtain ⟨oc, od, dV, kV, doc, pm, an, cdv, ct, osl, rfl, lk, hcd, hD, _⟩ := hF.ex
  obtain rfl : dV = .none := by
    rcases hD with ⟨_, e⟩ | ⟨e, _⟩
    · exact e
    · exact absurd rfl e
  intro A outer s H us ws vs zs Q E hr e0 r rz l1 l2 h
  obtain ⟨hl, ρ, Hf, ds, st, rr, SO, hd, hG, hfin⟩ := h
  obtain ⟨v, rfl⟩ : ∃ v, vs = [v] := by
    match vs, l1 with
    | [v], _ => exact ⟨v, rfl⟩
  obtain ⟨z1, z2, rfl⟩ : ∃ z1 z2, zs = [z1, z2] := by
    match zs, l2 with
    | [z1, z2], _ => exact ⟨z1, z2, rfl⟩
  cases r with
  | cons r1 r0 =>
    cases r0
    rename_i u
    cases rz with
    | cons q1 q0 =>
      rename_i w1 _
      cases q0 with
      | cons q2 q0 =>
        cases q0
        rename_i w2
        obtain ⟨d, dx, dy, rfl, hv, hx, hy⟩ : ∃ d dx dy, ds = [d, dx, dy] ∧ Dq K Hf ρ v d ∧ Dq K Hf ρ z1 dx ∧ Dq K Hf ρ z2 dy := by
          cases hd with
          | cons a1 hd => cases hd with
            | cons a2 hd => cases hd with
              | cons a3 hd =>
                cases hd
                exact ⟨_, _, _, rfl, a1, a2, a3⟩
        have hn0 : H s.heap.objs.size = none := e0.hok.fresh (Nat.le_refl _)
        refine StX.run_bnd (ps := ["self", pv]) lk hcd S hr e0 (G := fun xs H2 => ∃ p, H p = none ∧ xs = [v, V.ref p] ∧ H2 = upd H p (.dK [(Sum.inr "rent", z1), (Sum.inr "food", z2)])) (fun A' Ex Q' h => ?_) fun s2 H2 xs ⟨p, hp, ex, eH⟩ hr' => ?_
        · refine bindKw2 (P := P) (w := w) (h := s.heap) (g := s.gens) (d := s.drawn) (t := s.toks) (os := s.os) (fd := PySem.W.fnOf x qual params body scope .none kV doc pm an cdv ct) hpar rfl fun h' t' t1 t2 e1 kp => ?_
          have hs : s.heap.objs.size ≤ h'.objs.size := Nat.le_of_lt (Heap.lt_size e1)
          have new : ObjOk P w (upd H s.heap.objs.size (.dK [(Sum.inr "rent", z1), (Sum.inr "food", z2)])) h' s.heap.objs.size (.dK [(Sum.inr "rent", z1), (Sum.inr "food", z2)]) := by
            refine ⟨by show 2 ≤ sizeLine; decide, beq_eq_false_iff_ne.mpr (Ne.symm (Nat.ne_of_lt (StX.env0_big e0))), [(Sum.inr "rent", w1), (Sum.inr "food", w2)], ?_, _, _, _, e1, ⟨rfl, rfl, rfl⟩, rfl, ?_, ?_, ?_⟩
            · exact .cons ⟨rfl, q1⟩ (.cons ⟨rfl, q2⟩ .nil)
            · intro e he
              simp only [List.mem_toArray, List.mem_cons, List.not_mem_nil, or_false] at he
              rcases he with rfl | rfl
              · exact ⟨Sum.inr "rent", mixKind_str P w "rent" t1, rfl⟩
              · exact ⟨Sum.inr "food", mixKind_str P w "food" t2, rfl⟩
            · exact .cons (mixKind_str P w "rent" t1) rfl (.cons (mixKind_str P w "food" t2) rfl .nil)
            · show ([Sum.inr ("rent" : Str), Sum.inr ("food" : Str)] : List Key).Nodup
              decide +kernel
          have un : Un (frs outer) [] H (upd H s.heap.objs.size (.dK [(Sum.inr "rent", z1), (Sum.inr "food", z2)])) s.heap h' := Un.laid kp (Nat.le_refl _) hn0
          exact h ⟨h', s.gens, s.drawn, t', s.os⟩ _ [v, V.ref s.heap.objs.size] [u, Value.ref s.heap.objs.size] (env0_laid2 e0 kp hs rfl new) un rfl (fun e s' => cxUpN outer s H _ _ E e s' un kp rfl) (.cons r1 (.cons rfl .nil)) rfl ⟨_, hn0, rfl, rfl⟩
        · subst ex eH
          refine ⟨_, hb cdv A outer s2 _ E hr' fin_takes, body_ok (X := cxOf (L2N.CX P w) P w K mg base N qual scope f cdv A outer s2 (upd H p (.dK [(Sum.inr "rent", z1), (Sum.inr "food", z2)])) E) (sts := body) (np := 2) hn ⟨rfl, ρ ++ [p], Hf, [d, .obj st.length], st ++ [.dct [("rent", dx), ("food", dy)]], rr, ?_, ?_, (show fnO n b [d, .obj st.length] (st ++ [.dct [("rent", dx), ("food", dy)]]) = some rr from hG), ?_⟩⟩
          · exact SO.push hp (fun b u e => same_new hp b u (SO.i b u e)) (same_new hp) ⟨_, upd_same, .cons ⟨rfl, hx.up ⟨Same.refl _, List.prefix_append _ _⟩⟩ (.cons ⟨rfl, hy.up ⟨Same.refl _, List.prefix_append _ _⟩⟩ .nil)⟩
          · exact .cons (hv.up ⟨Same.refl _, List.prefix_append _ _⟩) (.cons (.obj (by rw [← SO.len, List.getElem?_append_right (Nat.le_refl _), Nat.sub_self]; rfl)) .nil)
          · exact hfin.step (.push SO.i hp (same_new hp))
end Ob

namespace Ob
open PySem PySem.Spec PyProof.Rows L2 Fi
section
variable {X : Cx} {pins : List (Addr × Obj)} {σ : L2.St} {H : Hp} {s : Shared} {f : Addr} {k n : Nat} {sp : Sp} {E : XK} {Q : VK} {us ws : List Value} {vs zs : List V} {ks : List Str}
theorem run_calK (F : CalK X.prog X.w X.K X.mg X.base k f n ks sp) (hr : Room k X.A) (hx : PassesAt (L2N.CX X.prog X.w) X σ E) (I : Inv X pins σ H s) (r : Vals vs us) (rz : Vals zs ws) (l1 : vs.length = n) (l2 : zs.length = ks.length) (h : sp (vs ++ zs) H Q E) : wpAny (model X.prog X.w) X.A (call (.ref f) us (ks.zip ws)) (EP X pins σ Q) X.xe s := by
  refine wpAny_call (codeAny_mono (F X.A X.stack s H us ws vs zs Q E hr I.env0 r rz l1 l2 h) fun r s' hq => ?_)
  cases r with
  | error e => exact hx pins H s e s' I hq
  | ok fl =>
    cases fl with
    | ret u => exact I.after hq
    | next => exact False.elim hq
    | brk => exact False.elim hq
    | cont => exact False.elim hq
end
structure MetK (P : Program) (w : World) (K : PySem.W.Frag) (mg : Str → Option Value) (base : Heap) (k : Nat) (m : Str) (ks : List Str) (c : Str) (G : Fn) : Prop where
  cls : Cls K (He.ga K c)
  ex : ∃ f : Addr, Meth K (He.ga K c) m f ∧ CalK P w K mg base k f 1 ks (spO K (ks.length + 1) G)
def MetsK (P : Program) (w : World) (K : PySem.W.Frag) (mg : Str → Option Value) (base : Heap) (k : Nat) (m : Str) (ks : List Str) (T : Tab) : Prop := ∀ p ∈ T, MetK P w K mg base k m ks p.1 p.2
section
variable {X : Cx} {W : WX} {j k : Nat} {m : Str} {ks : List Str} {apos pos : Pos} {o : Expr} {f : F D} {q : F (List D)} {kws : List Keyword}
theorem x_methK {T : Tab} {pl : Sem Bool} (M : MetsK X.prog X.w X.K X.mg X.base j m ks T) (hr : Room k X.A) (tk : L2N.Takes X W) (he : PE X o (tE X.K W f)) (hkw : PK X kws (tA X.K W q)) (hjk : j ≤ k := by decide)
    (hall : (backToKw pos (keywordEach kws X.env)).all (·.1.isSome) = true := by rfl) (hks : (backToKw pos (keywordEach kws X.env)).filterMap (·.1) = ks := by rfl)
    (hpl : ((backTo pos (starEach [] X.env)).any (·.1) || (backToKw pos (keywordEach kws X.env)).any (·.1.isNone)) = false := by rfl)
    (ht : eval (.Call (.Attribute o m apos) [] kws pos) X.env = (do
      let ov ← eval o X.env
      standAt apos.atName
      let (f, first) ← holding [ov] (getMethod ov m pl)
      callWith pos f first (backTo pos (starEach [] X.env)) (backToKw pos (keywordEach kws X.env))) := by rfl) :
    PE X (.Call (.Attribute o m apos) [] kws pos) (tE X.K W (eMeth T m ks.length f q)) := by
  refine ⟨fun pins s σ H Q I ⟨Z, ρ, Hf, env, st, o, R, e, k⟩ => ?_⟩
  refine PySem.W.methodCall_KW (pl := pl) (thn (he.run pins s σ H _ I (bind_at bE R e k (P := fun v H1 => ∃ ρ1 Hf1 s1 d, Dq X.K Hf1 ρ1 v d ∧ Rel X.K Z ρ1 Hf1 H1 env s1 σ ∧ (match pick T m d s1 with
    | some G => bnd q (fun ds _ st => if ds.length = ks.length then goE G (d :: ds) st else none) env s1
    | none => none) = some o ∧ Fin rE X.K W σ ρ1 Hf1 H1 Q o) fun v H1 ρ1 Hf1 s1 d t1 r1 R1 e1 k1 => ⟨ρ1, Hf1, s1, d, r1, R1, e1, k1⟩)) fun u s1 ⟨x, H1, I1, rx, ρ1, Hf1, st1, d, r1, R1, e1, k1⟩ => ?_) ht
  cases hp : pick T m d st1 with
  | none => rw [hp] at e1; cases e1
  | some G =>
    rw [hp] at e1
    obtain ⟨a, c, dx, vs, rfl, hm, ea, hl⟩ := pick_some R1.ok r1 hp
    obtain rfl : u = Value.ref a := rx
    obtain ⟨fa, hme, hcal⟩ := (M _ hm).ex
    refine getmeth_ok I1 ea (M _ hm).cls hme hl ?_
    refine PySem.W.callWith_KW0 (first := [.ref a]) (h₀ := X.base) I.ok.mod.kin hme.kp hall (thn (hkw.run pos pins s1 σ H1 _ I1 (bind_at bE R1 e1 k1 (P := fun zs H2 => zs.length = ks.length ∧ spO X.K (ks.length + 1) G (.ref a :: zs) H2 Q (WE W σ)) fun zs H2 ρ2 Hf2 s2 ds t2 r2 R2 e2 k2 => ?_)) fun ws s2 ⟨zs, H2, I2, rz, l2, q2⟩ => ⟨I2.kIn, ?_⟩) hpl
    · obtain ⟨hn, e2⟩ := ite_some e2
      exact ⟨(DqAll.len r2).trans hn, spO_E R2.ok (.cons (Dq.up t2.up r1) r2) (congrArg Nat.succ hn) e2 k2⟩
    · rw [hks]
      exact run_calK (us := [.ref a]) (vs := [.ref a]) hcal (hr.mono hjk) (L2N.passAt tk σ) I2 (.cons rfl .nil) rz rfl l2 q2
end
theorem perm2 {ys : List Str} {a b : Str} (h : ys.Perm [a, b]) : ys = [a, b] ∨ ys = [b, a] := by
  obtain ⟨x, y, rfl⟩ : ∃ x y, ys = [x, y] := by
    match ys, h.length_eq with
    | [x, y], _ => exact ⟨x, y, rfl⟩
  have hx : x ∈ [a, b] := h.subset (List.mem_cons_self ..)
  rcases (by simpa using hx : x = a ∨ x = b) with rfl | rfl
  · left
    have := List.Perm.cons_inv h
    rw [List.perm_singleton.mp this]
  · right
    have h2 := h.trans (List.Perm.swap x a [])
    have := List.Perm.cons_inv h2
    rw [List.perm_singleton.mp this]
def srt2 (a b : Str) : Option (List Str) := if sortedS [a, b] = false then some [b, a] else if sortedS [b, a] = false then some [a, b] else none
theorem srt2_eq {a b : Str} {l ys : List Str} (h : srt2 a b = some l) (hp : ys.Perm [a, b]) (hs : sortedS ys = true) : ys = l := by
  unfold srt2 at h
  split at h
  · rename_i h1
    cases h
    rcases perm2 hp with rfl | rfl
    · rw [hs] at h1; cases h1
    · rfl
  · split at h
    · rename_i h1
      cases h
      rcases perm2 hp with rfl | rfl
      · rfl
      · rw [hs] at h1; cases h1
    · cases h
def eSortD (f : F D) : F D := bnd f fun d _ st => match d with
  | .obj n => (match st[n]? with
    | some (.dct [(a, _), (b, _)]) => (srt2 a b).map fun l => .ok (.py (.list (l.map .str))) st
    | _ => none)
  | _ => none
section
variable {X : Cx} {W : WX} {e : Expr} {f : F D} {p pos : Pos}
theorem x_sortD (hc : X.calm = true) (hg : Gl X "sorted") (hm : X.mg "sorted" = none) (he : PE X e (tE X.K W f)) (hs : starEach [e] X.env = (false, eval e X.env) :: starEach [] X.env := by rfl) (hpl : (backTo pos (starEach [] X.env)).any (·.1) = false := by rfl) :
    PE X (.Call (.Name "sorted" p) [e] [] pos) (tE X.K W (eSortD f)) := pe_le (pe_callB (call_sortedD hc) hg hm boot_sorted (pa_cons he pa_nil hs) (by decide) (by decide) hs hpl) fun σ H Q ⟨Z, ρ, Hf, env, st, o, R, e, k⟩ => by
  refine bind_at bE R e k fun x H1 ρ1 Hf1 s1 d t1 r1 R1 e1 k1 => ?_
  split at e1
  · rename_i n
    split at e1
    · rename_i a da b db hst
      obtain ⟨l, hl, rfl⟩ := map_ok e1
      cases r1 with
      | obj ha =>
        obtain ⟨vs, h1, h2⟩ := R1.ok.ob n _ _ ha hst
        cases h2 with
        | cons g1 h2 => cases h2 with
          | cons g2 h2 =>
            cases h2
            rename_i p1 p2
            refine ⟨_, [p1, p2], [a, b], rfl, .inl h1, ?_, by show 2 < 64; decide, fun ys q hq1 hq2 hq => ?_⟩
            · rw [List.map_cons, List.map_cons, List.map_nil, g1.1, g2.1]
              rfl
            · have ey := srt2_eq hl hq1 hq2
              subst ey
              have s := Stp.new (o := .lst (ys.map V.str)) R1.ok.i hq
              exact k1.stp R1 s (.py (.lst (SqL.of upd_same) (strs_dp ys)))
    · cases e1
  · cases e1
end
end Ob

namespace Ht
open PySem PySem.Spec PyProof.Rows L2 HotX
section
variable {prog : Program} {w : World} {A : Around} {E : Value → Shared → Prop} {s : Shared}
theorem pyNext_list_endG {it l : Addr} {i : Nat} {items : Array Value} {Q : Option Value → Shared → Prop} (lv : Lv A s.heap) (hne : ∀ x1, A.handled = some (.ref x1) → x1 ≠ it)
    (hit : s.heap.IsListIter it l i) (hl : s.heap.IsList l items) (hx : items[i]? = none)
    (hQ : ∀ h', Heap.ExtBut it s.heap h' → Q none { s with heap := h' }) :
    wpAny (model prog w) A (pyNext (.ref it)) Q E s := by
  obtain ⟨o, ho, hc, hd⟩ := id hit
  obtain ⟨ol, hol, _, nl, hdl⟩ := hl
  unfold pyNext
  refine wpAny_bind (wpAny_attempt (wpAny_callSpecial?_slot (name := Str.ofString "__next__") hit.typeIs slot_listiter_next
    (wpAny_call_entry slot_listiter_next hit.typeIs entry_listiter_next ?_ (args_listiter_next _))))
  show wpAny _ _ (field (.ref it) 0 >>= _) _ _ s
  refine wpAny_bind (wpAny_field ho hd (x := .ref l) rfl ?_)
  show wpAny _ _ (if (Value.ref l == Value.none) = true then _ else _) _ _ s
  rw [if_neg (show ¬ ((Value.ref l == Value.none) = true) from Bool.false_ne_true)]
  show wpAny _ _ (field (.ref it) 1 >>= _) _ _ s
  refine wpAny_bind (wpAny_field ho hd (x := .int i 0) rfl ?_)
  show wpAny _ _ (seqItems? (.ref l) >>= _) _ _ s
  refine wpAny_bind (wpAny_seqItems hol hdl ?_)
  simp only [Int.toNat_natCast, hx]
  refine wpAny_bind (wpAny_rule (wpAny_bind (wpAny_setField ho hd (by simp) ?_)))
  show wpAny _ _ (newExc (.type "StopIteration") [] >>= _) _ _ _
  refine wpAny_bind ?_
  simp only [newExc, newTuple]
  refine wpAny_bind (wpAny_newObj_type ?_ (by size_fits))
  refine wpAny_bind (m := firstArgMember _ _) (wpAny_of_eq (a := Value.none) (by first | rfl | (simp only [firstArgMember]; rfl)) ?_)
  refine wpAny_newObj_type ?_ (by size_fits)
  have up : ∀ b u, b ≠ it → s.heap.get? b = some u → (s.heap.update it (Obj.mapFields (·.setIfInBounds 0 .none))).get? b = some u := fun b u hb e => by
    rw [Heap.get?_update_other _ _ (Ne.symm hb)]
    exact e
  refine raiseG ?_ ?_ (Heap.get?_push_size _ rfl) rfl (by first | (simp; done) | (simp; omega) | (simp only [Array.size_append]; simp; omega)) fun h' sb ⟨o', e', c'⟩ => wpAny_bind (wpAny_isInstance (T := "StopIteration") (b := true) ⟨o', e', c'⟩ isSubtype_stop (wpAny_pure (hQ h' fun b u hb e => ?_)))
  · exact lv.up fun x1 hh o e => Heap.get?_push_of_some _ (Heap.get?_push_of_some _ (up _ _ (hne x1 hh) e))
  · intro x1 hh
    rcases lv with q | ⟨x2, hh2, o2, vs2, h2, _⟩
    · have z : A.handled = some (.ref x1) := hh
      rw [q] at z
      cases z
    · have z : A.handled = some (.ref x1) := hh
      rw [hh2] at z
      cases z
      exact Nat.ne_of_lt (Heap.lt_size (Heap.get?_push_of_some _ (up _ _ (hne _ hh2) h2)))
  · have q := Heap.get?_push_of_some { cls := .type "tuple", data := .seq ([] : List Value).toArray } (up b u hb e)
    rw [sb.2 b (Nat.ne_of_lt (Heap.lt_size q))]
    exact Heap.get?_push_of_some _ q
end
theorem turn_listG {P : Program} {w : World} {K : PySem.W.Frag} {tg : Expr} (a it : Addr) : TurnG P w K tg (Itl K a) [it] it (fun i h => h.IsListIter it a i) where
  mem := by simp
  obj := fun i h st b hb => by
    have e : b = it := by simpa using hb
    subst e
    obtain ⟨o, e, c, d⟩ := st
    exact ⟨o, e, fun v z => by rw [d] at z; cases z⟩
  keep := fun i h h' st k => st.at fun o e => k it (by simp) o e
  item := by
    intro X hP hw hK i pins s σ H E I hf st hg
    subst hP hw hK
    obtain ⟨xs, x, hq, hx⟩ := hg
    obtain ⟨its, rv, p, hz⟩ := I.list hq
    obtain ⟨u, hu, ru⟩ := rv.get hx
    obtain ⟨f0, f1, f2, f3, f4, f5⟩ := hf it (by simp)
    refine wpAny_pyNext_list_item st p.isList (x := u) (by simpa using hu) fun h' st' sb => ?_
    have I1 : Inv X pins σ H { s with heap := h' } := I.turned (t' := s.toks) (fun b o hb e => (sb.2 b hb).trans e) f0 f1 f3 f4 f5
    obtain ⟨o, e, c, d⟩ := id st'
    exact ⟨u, rfl, go_of (s := { s with heap := h' }) e c d (by decide) ⟨x, H, I1, ru, ⟨rfl, fun ys hy => by rw [I.list_inj hy hq]; exact hx⟩, st', fun b hb => (hf b hb).1⟩⟩
  done := by
    intro X hP hw hK i pins s σ H E I hf lv hne st hg
    subst hP hw hK
    obtain ⟨xs, hq, hx⟩ := hg
    obtain ⟨its, rv, p, hz⟩ := I.list hq
    obtain ⟨f0, f1, f2, f3, f4, f5⟩ := hf it (by simp)
    have hl := rv.length
    exact pyNext_list_endG lv (fun x1 hh q => hne x1 hh (by simp [q])) st p.isList (by simp; omega) fun h' eb => ⟨rfl, I.turned (t' := s.toks) (fun b o hb e => eb b o hb e) f0 f1 f3 f4 f5⟩
  self := fun _ _ _ _ _ st h => wpAny_pyIter_listiter st h
theorem pig_list {X : Cx} {tg l : Expr} {tl : TE} (hl : PE X l tl) : PIG X tg l (iList X.K tl) := by
  refine ⟨fun pins s σ H R I h => ?_⟩
  refine thn (hl.run pins s σ H _ I h) fun v s1 ⟨x, H1, I1, r1, q1⟩ => ?_
  obtain ⟨a, e, ⟨xs, hq⟩, q⟩ := q1
  subst e
  cases r1
  obtain ⟨its, rv, p, hz⟩ := I1.list hq
  refine wpAny_pyIter_list p.isList ?_
  refine ⟨s1.heap.objs.size, [s1.heap.objs.size], _, _, H1, rfl, I1.kept (t' := s1.toks) fun b o e => Heap.get?_push_of_some _ e, turn_listG a _, ⟨_, Heap.get?_push_size _ rfl, rfl, rfl⟩, fun b hb => ?_, q⟩
  have e : b = s1.heap.objs.size := by simpa using hb
  subst e
  exact I1.fpOk (Nat.le_refl _) (I1.hok.fresh (Nat.le_refl _))
end Ht
namespace Ob
open PySem PySem.Spec PyProof.Rows L2 Fi
section
variable {X : Cx} {W : WX} {e tg : Expr} {f : F D}
theorem i_listH (he : PE X e (tE X.K W f)) : Ht.PIG X tg e (tI X.K W (iL f)) := Ht.pig_le (Ht.pig_list he) fun σ H R ⟨Z, ρ, Hf, env, st, o, Rl, e, k⟩ => by
  refine bind_at bW Rl e k fun x H1 ρ1 Hf1 s1 dx t1 r1 R1 e1 k1 => ?_
  obtain ⟨z, h1, rfl⟩ := lft_some e1
  obtain ⟨a, xs, rfl, hp, ha⟩ := Dq.lst_of r1 h1
  exact ⟨a, rfl, ⟨xs, R1.ok.i.seq hp⟩, k1.now R1 (walkQ_seq ha walk_list fun H h => h.seq hp)⟩
variable {elt iter : Expr} {ifs : List Expr} {scope : Scope} {own : List (Str × Nat)} {pos : Pos} {fi : F (List D)} {g : D → En → Option En} {p : F Bool} {fe : F D} {sl vs : List Nat} {Wp We : WX}
theorem l_lcH {pn : Addr × Obj} (hc : Ht.Hot1 X.A pn) (hpn : pn ∈ X.pn) (hN : X.N.Nodup) (hi : Ht.PIG X tg iter (tI X.K W fi)) (ok : BlkOk X.N X.env.scope scope own)
    (hg : ∀ (s : Shared) (H : Hp) (C : Addr) (cl : List (Str × Addr)) (fp : List Addr), PG (Ht.blkH X pn s H scope (compEnvC scope cl C X.env) fp) tg (tG X.K sl g)) (ht : ∀ (s : Shared) (H : Hp) (C : Addr) (cl : List (Str × Addr)) (fp : List Addr), PTs (Ht.blkH X pn s H scope (compEnvC scope cl C X.env) fp) ifs (tT X.K Wp p))
    (he : ∀ (s : Shared) (H : Hp) (C : Addr) (cl : List (Str × Addr)) (fp : List Addr), PE (Ht.blkH X pn s H scope (compEnvC scope cl C X.env) fp) elt (tE X.K We fe)) (hvs : own.map (·.2) = vs := by rfl) (hsl : ∀ i ∈ sl, i ∈ vs := by decide) (hs : ∀ x, foldedSetIterable iter X.env x = pure x := by intro _; rfl) :
    PE X (.ListComp elt [⟨tg, iter, ifs, 0⟩] scope pos) (tL X.K W (lLc fi g p fe vs)) := by
  subst hvs
  refine pe_le (Ht.pe_lcH hc hpn hN hi ok hg ht he hs) fun σ H Q ⟨Z, ρ, Hf, env, st, o, R, e, k⟩ => ?_
  refine bind_at bL R e k fun J H1 ρ1 Hf1 s1 ds t1 w R1 e1 k1 => ?_
  split at e1
  · rename_i hlen
    obtain ⟨⟨out, s'⟩, h1, rfl⟩ := map_ok e1
    exact tLc_at hsl R1 w hlen h1 fun P acc H' ρ' Hf' t S hP n1 n2 n3 n4 => k1 _ H' ρ' Hf' t S ⟨P, acc, rfl, hP, n1, n2, n3, n4⟩
  · cases e1
end
end Ob
namespace Fi
open PySem PySem.Spec PyProof.Rows L2
def fStrI : List PyData → Option PyData
  | [.int i] => if i.natAbs.log2 < 1920 then some (.str (toString i)) else none
  | _ => none
theorem cd_strI {X : Cx} : CallD X (.type "str") fStrI := by
  intro pins s σ H vs us Q I r ⟨Hf, ds, d, hi, hd, hF, k⟩
  unfold fStrI at hF
  split at hF
  · rename_i i
    split at hF
    · rename_i hl
      cases hF
      obtain ⟨v, rfl, hv⟩ := hd.one
      exact call_str_int pins s σ H _ us Q I r ⟨i, by rw [hv.int_eq], hl, k _ H Hf (.refl hi) (.str _)⟩
    · cases hF
  · cases hF
end Fi

namespace Ob
open PySem PySem.Spec PyProof.Rows L2 Fi
theorem roomH_in1 {k : Nat} {A : Around} (r : L2H.RoomH (k + 1) A) : L2H.RoomH k A.in1 := ⟨by have := r.dp; show _ ; simp only [Around.in1] at *; omega, by have := r.un; simp only [Around.in1] at *; omega⟩
structure PrpH (P : Program) (w : World) (K : PySem.W.Frag) (mg : Str → Option Value) (base : Heap) (k : Nat) (m : Str) (c : Str) (G : Fn) : Prop where
  cls : Cls K (He.ga K c)
  ex : ∃ p g : Addr, PropOf K (He.ga K c) m p g ∧ CalH P w K mg base k g (spO K 1 G)
def PrpsH (P : Program) (w : World) (K : PySem.W.Frag) (mg : Str → Option Value) (base : Heap) (k : Nat) (m : Str) (T : Tab) : Prop := ∀ p ∈ T, PrpH P w K mg base k m p.1 p.2
section
variable {X : Cx} {W : WX} {j k n : Nat} {G : Fn} {x m : Str} {p pos apos pos' tpos : Pos} {e o value : Expr} {es : List Expr} {r : F (List D)} {f g : F D}
theorem getpropH {pins : List (Addr × Obj)} {σ : L2.St} {H : Hp} {s : Shared} {Q : VK} {b : Bool} {E' : Value → Shared → Prop} {a C dx p g : Addr} {fs : List (Str × V)} {sp : Sp} (I : Inv X pins σ H s) (ea : H a = some (.ins C dx fs)) (c : Cls X.K C) (hp : PropOf X.K C m p g)
    (F : CalH X.prog X.w X.K X.mg X.base k g sp) (hr : L2H.RoomH (k + 1) X.A) (hc0 : L2H.HotC X) (h : sp [.ref a] H Q (fun _ _ _ => False)) : wpAny (model X.prog X.w) X.A (getAttr (.ref a) m b) (EP X pins σ Q) E' s := by
  obtain ⟨pn, hot, hpn⟩ := hc0
  obtain ⟨mA, O, _, _, _, _⟩ := ins_get I.hok ea
  obtain ⟨od, J, _⟩ := O.look
  obtain ⟨rest, hrec⟩ := hp.rec_
  have I1 := I.tok (s.toks + 1)
  have hc : (PySem.W.clsIn X.K C).isSome = true := by
    obtain ⟨cd, hc, _⟩ := PySem.W.any_some c.hd
    rw [hc]
    rfl
  refine PySem.W.get_bind I.kIn J (PySem.W.plainGet_of (c.get m)).1 (PySem.W.findObj_data hc hp.at_ hp.get hp.tak) (PySem.W.plainGet_of (c.get m)).2 (wpAny_call (PySem.W.prop_get (s := { s with toks := s.toks + 1 }) I.kIn hrec ?_))
  refine codeAny_mono (F X.A.in1 X.stack { s with toks := s.toks + 1 } H [.ref a] [.ref a] Q _ pn (roomH_in1 hr) hot (pinOk_of hpn I1) I1.env0.in1 (.cons rfl .nil) h) fun r s' hq => ?_
  cases r with
  | error er =>
    obtain ⟨_, _, _, _, _, _, _, _, _, _, _, _, z⟩ := hq
    exact z.elim
  | ok fl =>
    cases fl with
    | ret u =>
      obtain ⟨v, H', I3, rv, q3⟩ := I1.after hq
      show wpAny _ _ (handedOut u) _ _ _
      rw [PySem.W.handedOut_of (handed_of rv)]
      exact wpAny_pure ⟨v, H', I3, rv, q3⟩
    | next => exact False.elim hq
    | brk => exact False.elim hq
    | cont => exact False.elim hq
theorem x_propH {T : Tab} (M : PrpsH X.prog X.w X.K X.mg X.base j m T) (hr : L2H.RoomH k X.A) (hc : L2H.HotC X) (he : PE X e (tE X.K W f)) (hjk : j + 1 ≤ k := by decide) (hab : attributeBase e m X.env (eval e X.env) = eval e X.env := by rfl) : PE X (.Attribute e m pos) (tE X.K W (eProp T f)) := by
  refine ⟨fun pins s σ H Q I ⟨Z, ρ, Hf, env, st, o, R, e, k⟩ => ?_⟩
  refine attr_of hab (thn (he.run pins s σ H _ I (bind_at bE R e k (P := fun v H1 => ∃ ρ1 Hf1 s1 d, Dq X.K Hf1 ρ1 v d ∧ Rel X.K Z ρ1 Hf1 H1 env s1 σ ∧ (match pickP T d s1 with
    | some G => goN G [d] s1
    | none => none) = some o ∧ Fin rE X.K W σ ρ1 Hf1 H1 Q o) fun v H1 ρ1 Hf1 s1 d t1 r1 R1 e1 k1 => ⟨ρ1, Hf1, s1, d, r1, R1, e1, k1⟩)) fun u s1 ⟨x, H1, I1, rx, ρ1, Hf1, st1, d, r1, R1, e1, k1⟩ => ?_)
  cases hp : pickP T d st1 with
  | none => rw [hp] at e1; cases e1
  | some G =>
    rw [hp] at e1
    obtain ⟨a, c, dx, vs, rfl, hm, ea⟩ := pickP_some R1.ok r1 hp
    obtain rfl : u = Value.ref a := rx
    obtain ⟨p, ga, hpr, hcal⟩ := (M _ hm).ex
    obtain ⟨z, sz, rfl, e2⟩ := goN_some e1
    exact getpropH I1 ea (M _ hm).cls hpr hcal (hr.mono hjk) hc (spO_E (W := W0) (σ := σ) R1.ok (.cons r1 .nil) rfl e2 k1)
end
section
variable {P : Program} {w : World} {K : PySem.W.Frag} {mg : Str → Option Value} {base : Heap} {j k n : Nat} {c C Dn m : Str} {G : Fn} {T : Tab}
theorem prpH_of (h1 : (Ck.fa (.cls c)).ok K = true) (h2 : (Ck.prop c m).ok K = true) (h3 : samB K c m C = true) (F : CalH P w K mg base j (Lo.ad K (.p C m)) (spO K 1 G)) (hk : j ≤ k := by decide) : PrpH P w K mg base k m c G := by
  have e : He.ma K (He.ga K c) m = He.ma K (He.ga K C) m := of_decide_eq_true h3
  have hp := prop_of h2
  refine ⟨He.cls_ok h1, _, _, hp, ?_⟩
  have e2 : Lo.ad K (.p c m) = Lo.ad K (.p C m) := by
    show recAt K (He.ma K (He.ga K c) m) "property" 0 = recAt K (He.ma K (He.ga K C) m) "property" 0
    rw [e]
  rw [e2]
  exact F.mono hk
theorem prpsH_nil : PrpsH P w K mg base k m [] := fun _ h => by cases h
theorem prpsH_cons (h : PrpH P w K mg base k m c G) (t : PrpsH P w K mg base k m T) : PrpsH P w K mg base k m ((c, G) :: T) := fun p hp => by
  rcases List.mem_cons.mp hp with e | hp
  · rw [e]; exact h
  · exact t p hp
end
end Ob

namespace Ob
open PySem PySem.Spec PyProof.Rows L2 Fi
theorem s_cut {X : Cx} {W : WX} {ss : List Stmt} : PSs X ss (tS X.K W fun _ _ => none) := ⟨fun _ _ _ _ _ _ h => by
  obtain ⟨_, _, _, _, _, _, _, h, _⟩ := h
  cases h⟩
section
variable {P : Program} {w : World} {K : PySem.W.Frag} {mg : Str → Option Value} {base : Heap} {j k : Nat} {c C m : Str} {ks : List Str} {G : Fn} {T : Tab}
theorem metK_of (h1 : (Ck.fa (.cls c)).ok K = true) (h2 : (Ck.fa (.meth c m)).ok K = true) (h3 : samB K c m C = true) (F : CalK P w K mg base j (Lo.ad K (.m C m)) 1 ks (spO K (ks.length + 1) G)) (hk : j ≤ k := by decide) : MetK P w K mg base k m ks c G :=
  ⟨He.cls_ok h1, _, He.meth_ok h2, by rw [of_decide_eq_true h3]; exact F.mono hk⟩
theorem metsK_nil : MetsK P w K mg base k m ks [] := fun _ h => by cases h
theorem metsK_cons (h : MetK P w K mg base k m ks c G) (t : MetsK P w K mg base k m ks T) : MetsK P w K mg base k m ks ((c, G) :: T) := fun p hp => by
  rcases List.mem_cons.mp hp with e | hp
  · rw [e]; exact h
  · exact t p hp
end
section
variable {X : Cx} {W : WX} {elt tg iter : Expr} {ifs : List Expr} {scope : Scope} {own : List (Str × Nat)} {pos : Pos} {fi : F (List D)} {g : D → En → Option En} {p : F Bool} {fe : F D} {sl vs : List Nat} {Wp We : WX}
theorem l_lcHC (hc : L2H.HotC X) (hN : X.N.Nodup) (hi : Ht.PIG X tg iter (tI X.K W fi)) (ok : BlkOk X.N X.env.scope scope own)
    (hg : ∀ (pn : Addr × Obj) (s : Shared) (H : Hp) (C : Addr) (cl : List (Str × Addr)) (fp : List Addr), L2H.HotC (Ht.blkH X pn s H scope (compEnvC scope cl C X.env) fp) → PG (Ht.blkH X pn s H scope (compEnvC scope cl C X.env) fp) tg (tG X.K sl g)) (ht : ∀ (pn : Addr × Obj) (s : Shared) (H : Hp) (C : Addr) (cl : List (Str × Addr)) (fp : List Addr), L2H.HotC (Ht.blkH X pn s H scope (compEnvC scope cl C X.env) fp) → PTs (Ht.blkH X pn s H scope (compEnvC scope cl C X.env) fp) ifs (tT X.K Wp p))
    (he : ∀ (pn : Addr × Obj) (s : Shared) (H : Hp) (C : Addr) (cl : List (Str × Addr)) (fp : List Addr), L2H.HotC (Ht.blkH X pn s H scope (compEnvC scope cl C X.env) fp) → PE (Ht.blkH X pn s H scope (compEnvC scope cl C X.env) fp) elt (tE X.K We fe)) (hvs : own.map (·.2) = vs := by rfl) (hsl : ∀ i ∈ sl, i ∈ vs := by decide) (hs : ∀ x, foldedSetIterable iter X.env x = pure x := by intro _; rfl) :
    PE X (.ListComp elt [⟨tg, iter, ifs, 0⟩] scope pos) (tL X.K W (lLc fi g p fe vs)) := by
  obtain ⟨pn, h1, h2⟩ := hc
  exact l_lcH h1 h2 hN hi ok (fun s H C cl fp => hg pn s H C cl fp ⟨pn, h1, List.mem_singleton.mpr rfl⟩) (fun s H C cl fp => ht pn s H C cl fp ⟨pn, h1, List.mem_singleton.mpr rfl⟩) (fun s H C cl fp => he pn s H C cl fp ⟨pn, h1, List.mem_singleton.mpr rfl⟩) hvs hsl hs
end
theorem cmt_of2 {P : Program} {w : World} {K : PySem.W.Frag} {mg : Str → Option Value} {base : Heap} {c C m : Str} {j k n : Nat} {G : Fn} (h : cmB K c m = true) (g : mg c = some (.ref (He.ga K c))) (h3 : samB K c m C = true) (F : Cal P w K mg base j (Lo.ad K (.k C m)) (spO K (n + 1) G)) (hk : j ≤ k := by decide) : CMt P w K mg base k c m n G := by
  have e : He.ma K (He.ga K c) m = He.ma K (He.ga K C) m := of_decide_eq_true h3
  have e2 : Lo.ad K (.k c m) = Lo.ad K (.k C m) := by
    show recAt K (He.ma K (He.ga K c) m) "classmethod" 0 = recAt K (He.ma K (He.ga K C) m) "classmethod" 0
    rw [e]
  exact cmt_of h g (by rw [e2]; exact F) hk
end Ob

noncomputable section
namespace HandSHeadRun
open PySem PySem.W PySem.Calls PyProof.Rows
variable {r : OpenRow} {q : Program} {H : Hook} {ob : SharedT → H.α} {M : Nat} {loose : List PySem.Str} {w : World}
end HandSHeadRun
namespace Ob
open HandSHeadRun PySem
end Ob

namespace Lw
open PySem PySem.Spec PyProof.Rows L2 Fi
abbrev N__law_cell : List Str := ["script", "index"]
theorem sc__law_cell : FnScope N__law_cell ["script", "index"] (defScope s__law_cell) := ⟨rfl, rfl, rfl, by decide +kernel, rfl, by decide +kernel, by decide +kernel⟩
abbrev N_all_levels : List Str := ["caps", "result", "cap", "levels", "level"]
theorem sc_all_levels : FnScope N_all_levels ["caps"] (defScope s_all_levels) := ⟨rfl, rfl, rfl, by decide +kernel, rfl, by decide +kernel, by decide +kernel⟩
abbrev N_poured : List Str := ["caps", "levels", "amount", "result", "cap", "level", "taken"]
theorem sc_poured : FnScope N_poured ["caps", "levels", "amount"] (defScope s_poured) := ⟨rfl, rfl, rfl, by decide +kernel, rfl, by decide +kernel, by decide +kernel⟩
abbrev N_first_sums : List Str := ["numbers", "number", "result", "total"]
theorem sc_first_sums : FnScope N_first_sums ["numbers"] (defScope s_first_sums) := ⟨rfl, rfl, rfl, by decide +kernel, rfl, by decide +kernel, by decide +kernel⟩
abbrev N_commute : List Str := ["caps", "one", "other", "pour", "spend"]
theorem sc_commute : FnScope N_commute ["caps", "one", "other"] (defScope s_commute) := ⟨rfl, rfl, rfl, by decide +kernel, rfl, by decide +kernel, by decide +kernel⟩
abbrev N_largest_amount : List Str := ["caps", "script", "index"]
theorem sc_largest_amount : FnScope N_largest_amount ["caps", "script", "index"] (defScope s_largest_amount) := ⟨rfl, rfl, rfl, by decide +kernel, rfl, by decide +kernel, by decide +kernel⟩
abbrev N_with_amount : List Str := ["script", "index", "amount"]
theorem sc_with_amount : FnScope N_with_amount ["script", "index", "amount"] (defScope s_with_amount) := ⟨rfl, rfl, rfl, by decide +kernel, rfl, by decide +kernel, by decide +kernel⟩
abbrev N_shortest_script : List Str := ["caps", "levels", "target", "places", "raised", "script", "place", "last", "amount"]
theorem sc_shortest_script : FnScope N_shortest_script ["caps", "levels", "target"] (defScope s_shortest_script) := ⟨rfl, rfl, rfl, by decide +kernel, rfl, by decide +kernel, by decide +kernel⟩
abbrev N_is_number_text : List Str := ["text", "sign"]
theorem sc_is_number_text : FnScope N_is_number_text ["text"] (defScope s_is_number_text) := ⟨rfl, rfl, rfl, by decide +kernel, rfl, by decide +kernel, by decide +kernel⟩
abbrev N_Envelope_is_name : List Str := ["value", "sign"]
theorem sc_Envelope_is_name : FnScope N_Envelope_is_name ["value"] (defScope s_Envelope_is_name) := ⟨rfl, rfl, rfl, by decide +kernel, rfl, by decide +kernel, by decide +kernel⟩
abbrev N_is_integer : List Str := ["value", "low", "high"]
theorem sc_is_integer : FnScope N_is_integer ["value", "low", "high"] (defScope s_is_integer) := ⟨rfl, rfl, rfl, by decide +kernel, rfl, by decide +kernel, by decide +kernel⟩
abbrev N_Envelope_text : List Str := ["self"]
theorem sc_Envelope_text : FnScope N_Envelope_text ["self"] (defScope s_Envelope_text) := ⟨rfl, rfl, rfl, by decide +kernel, rfl, by decide +kernel, by decide +kernel⟩
abbrev N_Goal_reached : List Str := ["self"]
theorem sc_Goal_reached : FnScope N_Goal_reached ["self"] (defScope s_Goal_reached) := ⟨rfl, rfl, rfl, by decide +kernel, rfl, by decide +kernel, by decide +kernel⟩
abbrev N_Envelope_free : List Str := ["self"]
theorem sc_Envelope_free : FnScope N_Envelope_free ["self"] (defScope s_Envelope_free) := ⟨rfl, rfl, rfl, by decide +kernel, rfl, by decide +kernel, by decide +kernel⟩
abbrev N_Envelope_name : List Str := ["self"]
theorem sc_Envelope_name : FnScope N_Envelope_name ["self"] (defScope s_Envelope_name) := ⟨rfl, rfl, rfl, by decide +kernel, rfl, by decide +kernel, by decide +kernel⟩
abbrev N_Plan_lost : List Str := ["self"]
theorem sc_Plan_lost : FnScope N_Plan_lost ["self"] (defScope s_Plan_lost) := ⟨rfl, rfl, rfl, by decide +kernel, rfl, by decide +kernel, by decide +kernel⟩
abbrev N_Envelope_level : List Str := ["self"]
theorem sc_Envelope_level : FnScope N_Envelope_level ["self"] (defScope s_Envelope_level) := ⟨rfl, rfl, rfl, by decide +kernel, rfl, by decide +kernel, by decide +kernel⟩
abbrev N__law_digits : List Str := ["script", "index", "count", "base", "primes", "cell", "rest", "digits", "k", "mixed"]
theorem sc__law_digits : FnScope N__law_digits ["script", "index", "count", "base"] (defScope s__law_digits) := ⟨rfl, rfl, rfl, by decide +kernel, rfl, by decide +kernel, by decide +kernel⟩
abbrev N_run : List Str := ["caps", "levels", "script", "lost", "step", "left", "place", "amount"]
theorem sc_run : FnScope N_run ["caps", "levels", "script"] (defScope s_run) := ⟨rfl, rfl, rfl, by decide +kernel, rfl, by decide +kernel, by decide +kernel⟩
abbrev N_prefix_effects : List Str := ["caps", "script", "result", "step", "total", "index", "cap", "shift", "top"]
theorem sc_prefix_effects : FnScope N_prefix_effects ["caps", "script"] (defScope s_prefix_effects) := ⟨rfl, rfl, rfl, by decide +kernel, rfl, by decide +kernel, by decide +kernel⟩
abbrev N_fewest_steps : List Str := ["caps", "levels", "target"]
theorem sc_fewest_steps : FnScope N_fewest_steps ["caps", "levels", "target"] (defScope s_fewest_steps) := ⟨rfl, rfl, rfl, by decide +kernel, rfl, by decide +kernel, by decide +kernel⟩
abbrev N_Envelope___init__ : List Str := ["self", "name", "cap", "level"]
theorem sc_Envelope___init__ : FnScope N_Envelope___init__ ["self", "name", "cap", "level"] (defScope s_Envelope___init__) := ⟨rfl, rfl, rfl, by decide +kernel, rfl, by decide +kernel, by decide +kernel⟩
abbrev N_check_amount : List Str := ["amount"]
theorem sc_check_amount : FnScope N_check_amount ["amount"] (defScope s_check_amount) := ⟨rfl, rfl, rfl, by decide +kernel, rfl, by decide +kernel, by decide +kernel⟩
abbrev N_Reserve_free : List Str := ["self"]
theorem S_Reserve_free : Ob.ScS N_Reserve_free ["self"] (defScope s_Reserve_free) := ⟨rfl, rfl, rfl, by decide +kernel, rfl, by decide +kernel, by decide +kernel, by decide +kernel⟩
abbrev N_same_results : List Str := ["caps", "first", "second", "levels", "one", "other"]
theorem sc_same_results : FnScope N_same_results ["caps", "first", "second"] (defScope s_same_results) := ⟨rfl, rfl, rfl, by decide +kernel, rfl, by decide +kernel, by decide +kernel⟩
abbrev N_least_starts : List Str := ["caps", "script", "good", "known", "result", "levels", "below", "k", "one"]
theorem sc_least_starts : FnScope N_least_starts ["caps", "script"] (defScope s_least_starts) := ⟨rfl, rfl, rfl, by decide +kernel, rfl, by decide +kernel, by decide +kernel⟩
abbrev N_least_pour : List Str := ["caps", "levels", "script", "low", "high", "middle"]
theorem sc_least_pour : FnScope N_least_pour ["caps", "levels", "script"] (defScope s_least_pour) := ⟨rfl, rfl, rfl, by decide +kernel, rfl, by decide +kernel, by decide +kernel⟩
abbrev N_largest_spending : List Str := ["caps", "levels", "script", "place", "low", "high", "middle"]
theorem sc_largest_spending : FnScope N_largest_spending ["caps", "levels", "script", "place"] (defScope s_largest_spending) := ⟨rfl, rfl, rfl, by decide +kernel, rfl, by decide +kernel, by decide +kernel⟩
abbrev N_judged : List Str := ["caps", "levels", "script", "index", "final", "amount", "found", "pairs", "one", "other"]
theorem sc_judged : FnScope N_judged ["caps", "levels", "script", "index", "final", "amount"] (defScope s_judged) := ⟨rfl, rfl, rfl, by decide +kernel, rfl, by decide +kernel, by decide +kernel⟩
abbrev N_Reserve___init__ : List Str := ["self", "name", "cap", "level", "floor"]
theorem S_Reserve___init__ : Ob.ScS N_Reserve___init__ ["self", "name", "cap", "level", "floor"] (defScope s_Reserve___init__) := ⟨rfl, rfl, rfl, by decide +kernel, rfl, by decide +kernel, by decide +kernel, by decide +kernel⟩
abbrev N_Envelope_put : List Str := ["self", "amount", "taken"]
theorem sc_Envelope_put : FnScope N_Envelope_put ["self", "amount"] (defScope s_Envelope_put) := ⟨rfl, rfl, rfl, by decide +kernel, rfl, by decide +kernel, by decide +kernel⟩
abbrev N_Goal_free : List Str := ["self"]
theorem S_Goal_free : Ob.ScS N_Goal_free ["self"] (defScope s_Goal_free) := ⟨rfl, rfl, rfl, by decide +kernel, rfl, by decide +kernel, by decide +kernel, by decide +kernel⟩
abbrev N_Plan___init__ : List Str := ["self", "envelopes", "names", "one"]
theorem sc_Plan___init__ : FnScope N_Plan___init__ ["self", "envelopes"] (defScope s_Plan___init__) := ⟨rfl, rfl, rfl, by decide +kernel, rfl, by decide +kernel, by decide +kernel⟩
abbrev N_Plan_levels : List Str := ["self", "one"]
theorem sc_Plan_levels : FnScope N_Plan_levels ["self"] (defScope s_Plan_levels) := ⟨rfl, rfl, rfl, by decide +kernel, rfl, by decide +kernel, by decide +kernel⟩
abbrev N_Plan_envelope : List Str := ["self", "name", "one"]
theorem sc_Plan_envelope : FnScope N_Plan_envelope ["self", "name"] (defScope s_Plan_envelope) := ⟨rfl, rfl, rfl, by decide +kernel, rfl, by decide +kernel, by decide +kernel⟩
abbrev N_first_amount : List Str := ["caps", "levels", "script", "index", "final", "which", "wanted", "low", "high", "middle"]
theorem sc_first_amount : FnScope N_first_amount ["caps", "levels", "script", "index", "final", "which", "wanted"] (defScope s_first_amount) := ⟨rfl, rfl, rfl, by decide +kernel, rfl, by decide +kernel, by decide +kernel⟩
abbrev N_Goal___init__ : List Str := ["self", "name", "cap", "level", "more"]
theorem S_Goal___init__ : Ob.ScS N_Goal___init__ ["self", "name", "cap", "level", "more"] (defScope s_Goal___init__) := ⟨rfl, rfl, rfl, by decide +kernel, rfl, by decide +kernel, by decide +kernel, by decide +kernel⟩
abbrev N_Goal_put : List Str := ["self", "amount", "left"]
theorem S_Goal_put : Ob.ScS N_Goal_put ["self", "amount"] (defScope s_Goal_put) := ⟨rfl, rfl, rfl, by decide +kernel, rfl, by decide +kernel, by decide +kernel, by decide +kernel⟩
abbrev N_Envelope_take : List Str := ["self", "amount"]
theorem sc_Envelope_take : FnScope N_Envelope_take ["self", "amount"] (defScope s_Envelope_take) := ⟨rfl, rfl, rfl, by decide +kernel, rfl, by decide +kernel, by decide +kernel⟩
abbrev N_Plan_spend : List Str := ["self", "amounts", "name", "one"]
theorem sc_Plan_spend : FnScope N_Plan_spend ["self", "amounts"] (defScope s_Plan_spend) := ⟨rfl, rfl, rfl, by decide +kernel, rfl, by decide +kernel, by decide +kernel⟩
abbrev N_fitting_amounts : List Str := ["caps", "levels", "script", "index", "final", "poured", "low", "high"]
theorem sc_fitting_amounts : FnScope N_fitting_amounts ["caps", "levels", "script", "index", "final"] (defScope s_fitting_amounts) := ⟨rfl, rfl, rfl, by decide +kernel, rfl, by decide +kernel, by decide +kernel⟩
abbrev N_Plan_pour : List Str := ["self", "amounts", "amount", "before", "one"]
theorem sc_Plan_pour : FnScope N_Plan_pour ["self", "amounts"] (defScope s_Plan_pour) := ⟨rfl, rfl, rfl, by decide +kernel, rfl, by decide +kernel, by decide +kernel⟩
abbrev N__law_rows_right : List Str := ["f", "caps", "start"]
theorem sc__law_rows_right : FnScope N__law_rows_right ["f"] (defScope s__law_rows_right) := ⟨rfl, rfl, rfl, by decide +kernel, rfl, by decide +kernel, by decide +kernel⟩
abbrev N_Envelope_read : List Str := ["cls", "text", "parts", "name", "numbers", "cap", "level", "part"]
theorem sc_Envelope_read : FnScope N_Envelope_read ["cls", "text"] (defScope s_Envelope_read) := ⟨rfl, rfl, rfl, by decide +kernel, rfl, by decide +kernel, by decide +kernel⟩
abbrev N_Plan_read : List Str := ["cls", "text", "envelopes", "names", "part", "one"]
theorem sc_Plan_read : FnScope N_Plan_read ["cls", "text"] (defScope s_Plan_read) := ⟨rfl, rfl, rfl, by decide +kernel, rfl, by decide +kernel, by decide +kernel⟩
abbrev N__law_envelopes_right : List Str := ["plan"]
theorem sc__law_envelopes_right : FnScope N__law_envelopes_right [] (defScope s__law_envelopes_right) := ⟨rfl, rfl, rfl, by decide +kernel, rfl, by decide +kernel, by decide +kernel⟩
abbrev N_law : List Str := ["script", "digits"]
theorem sc_law : FnScope N_law ["script"] (defScope s_law) := ⟨rfl, rfl, rfl, by decide +kernel, rfl, by decide +kernel, by decide +kernel⟩
/-! ### what the top has left -/
structure Tx (K : PySem.W.Frag) (mg : Str → Option Value) : Prop where
  n_all : mg "all" = none
  n_any : mg "any" = none
  n_bool : mg "bool" = none
  n_enumerate : mg "enumerate" = none
  n_int : mg "int" = none
  n_isinstance : mg "isinstance" = none
  n_len : mg "len" = none
  n_list : mg "list" = none
  n_max : mg "max" = none
  n_min : mg "min" = none
  n_range : mg "range" = none
  n_set : mg "set" = none
  n_sorted : mg "sorted" = none
  n_str : mg "str" = none
  n_sum : mg "sum" = none
  n_tuple : mg "tuple" = none
  n_zip : mg "zip" = none
  g__law_cell : mg "_law_cell" = some (.ref (He.ga K "_law_cell"))
  g_all_levels : mg "all_levels" = some (.ref (He.ga K "all_levels"))
  g_poured : mg "poured" = some (.ref (He.ga K "poured"))
  g_first_sums : mg "first_sums" = some (.ref (He.ga K "first_sums"))
  g_commute : mg "commute" = some (.ref (He.ga K "commute"))
  g_largest_amount : mg "largest_amount" = some (.ref (He.ga K "largest_amount"))
  g_with_amount : mg "with_amount" = some (.ref (He.ga K "with_amount"))
  g_shortest_script : mg "shortest_script" = some (.ref (He.ga K "shortest_script"))
  g_is_number_text : mg "is_number_text" = some (.ref (He.ga K "is_number_text"))
  g_is_integer : mg "is_integer" = some (.ref (He.ga K "is_integer"))
  g__law_digits : mg "_law_digits" = some (.ref (He.ga K "_law_digits"))
  g_run : mg "run" = some (.ref (He.ga K "run"))
  g_prefix_effects : mg "prefix_effects" = some (.ref (He.ga K "prefix_effects"))
  g_fewest_steps : mg "fewest_steps" = some (.ref (He.ga K "fewest_steps"))
  g_check_amount : mg "check_amount" = some (.ref (He.ga K "check_amount"))
  g_same_results : mg "same_results" = some (.ref (He.ga K "same_results"))
  g_least_starts : mg "least_starts" = some (.ref (He.ga K "least_starts"))
  g_least_pour : mg "least_pour" = some (.ref (He.ga K "least_pour"))
  g_largest_spending : mg "largest_spending" = some (.ref (He.ga K "largest_spending"))
  g_judged : mg "judged" = some (.ref (He.ga K "judged"))
  g_first_amount : mg "first_amount" = some (.ref (He.ga K "first_amount"))
  g_fitting_amounts : mg "fitting_amounts" = some (.ref (He.ga K "fitting_amounts"))
  g__law_rows_right : mg "_law_rows_right" = some (.ref (He.ga K "_law_rows_right"))
  g__law_envelopes_right : mg "_law_envelopes_right" = some (.ref (He.ga K "_law_envelopes_right"))
  g_law : mg "law" = some (.ref (He.ga K "law"))
  g_Envelope : mg "Envelope" = some (.ref (He.ga K "Envelope"))
  g_Goal : mg "Goal" = some (.ref (He.ga K "Goal"))
  g_GoalReserve : mg "GoalReserve" = some (.ref (He.ga K "GoalReserve"))
  g_InvalidAmount : mg "InvalidAmount" = some (.ref (He.ga K "InvalidAmount"))
  g_InvalidCap : mg "InvalidCap" = some (.ref (He.ga K "InvalidCap"))
  g_InvalidEnvelopes : mg "InvalidEnvelopes" = some (.ref (He.ga K "InvalidEnvelopes"))
  g_InvalidFloor : mg "InvalidFloor" = some (.ref (He.ga K "InvalidFloor"))
  g_InvalidLevel : mg "InvalidLevel" = some (.ref (He.ga K "InvalidLevel"))
  g_InvalidName : mg "InvalidName" = some (.ref (He.ga K "InvalidName"))
  g_InvalidText : mg "InvalidText" = some (.ref (He.ga K "InvalidText"))
  g_NotEnough : mg "NotEnough" = some (.ref (He.ga K "NotEnough"))
  g_Plan : mg "Plan" = some (.ref (He.ga K "Plan"))
  g_Reserve : mg "Reserve" = some (.ref (He.ga K "Reserve"))
  g_UnknownEnvelope : mg "UnknownEnvelope" = some (.ref (He.ga K "UnknownEnvelope"))
  c_FIGURES : ∃ t, mg "FIGURES" = some (.str "0123456789" t)
  c_LETTERS : ∃ t, mg "LETTERS" = some (.str "abcdefghijklmnopqrstuvwxyz" t)
  l_Envelope : (Ob.Ck.fa (.cls "Envelope")).ok K = true
  l_Goal : (Ob.Ck.fa (.cls "Goal")).ok K = true
  l_GoalReserve : (Ob.Ck.fa (.cls "GoalReserve")).ok K = true
  l_Plan : (Ob.Ck.fa (.cls "Plan")).ok K = true
  l_Reserve : (Ob.Ck.fa (.cls "Reserve")).ok K = true
  m_Envelope_free : (Ob.Ck.fa (.meth "Envelope" "free")).ok K = true
  m_Envelope_put : (Ob.Ck.fa (.meth "Envelope" "put")).ok K = true
  m_Envelope_take : (Ob.Ck.fa (.meth "Envelope" "take")).ok K = true
  m_Envelope_text : (Ob.Ck.fa (.meth "Envelope" "text")).ok K = true
  m_Goal_free : (Ob.Ck.fa (.meth "Goal" "free")).ok K = true
  m_Goal_put : (Ob.Ck.fa (.meth "Goal" "put")).ok K = true
  m_Goal_take : (Ob.Ck.fa (.meth "Goal" "take")).ok K = true
  m_Goal_text : (Ob.Ck.fa (.meth "Goal" "text")).ok K = true
  m_GoalReserve_free : (Ob.Ck.fa (.meth "GoalReserve" "free")).ok K = true
  m_GoalReserve_put : (Ob.Ck.fa (.meth "GoalReserve" "put")).ok K = true
  m_GoalReserve_take : (Ob.Ck.fa (.meth "GoalReserve" "take")).ok K = true
  m_GoalReserve_text : (Ob.Ck.fa (.meth "GoalReserve" "text")).ok K = true
  m_Plan_envelope : (Ob.Ck.fa (.meth "Plan" "envelope")).ok K = true
  m_Plan_pour : (Ob.Ck.fa (.meth "Plan" "pour")).ok K = true
  m_Plan_spend : (Ob.Ck.fa (.meth "Plan" "spend")).ok K = true
  m_Reserve_free : (Ob.Ck.fa (.meth "Reserve" "free")).ok K = true
  m_Reserve_put : (Ob.Ck.fa (.meth "Reserve" "put")).ok K = true
  m_Reserve_take : (Ob.Ck.fa (.meth "Reserve" "take")).ok K = true
  m_Reserve_text : (Ob.Ck.fa (.meth "Reserve" "text")).ok K = true
  p_Envelope_level : (Ob.Ck.prop "Envelope" "level").ok K = true
  p_Envelope_name : (Ob.Ck.prop "Envelope" "name").ok K = true
  p_Goal_level : (Ob.Ck.prop "Goal" "level").ok K = true
  p_Goal_name : (Ob.Ck.prop "Goal" "name").ok K = true
  p_Goal_reached : (Ob.Ck.prop "Goal" "reached").ok K = true
  p_GoalReserve_level : (Ob.Ck.prop "GoalReserve" "level").ok K = true
  p_GoalReserve_name : (Ob.Ck.prop "GoalReserve" "name").ok K = true
  p_GoalReserve_reached : (Ob.Ck.prop "GoalReserve" "reached").ok K = true
  p_Plan_levels : (Ob.Ck.prop "Plan" "levels").ok K = true
  p_Plan_lost : (Ob.Ck.prop "Plan" "lost").ok K = true
  p_Reserve_level : (Ob.Ck.prop "Reserve" "level").ok K = true
  p_Reserve_name : (Ob.Ck.prop "Reserve" "name").ok K = true
  y_Envelope___init__ : Ob.samB K "Envelope" "__init__" "Envelope" = true
  y_Envelope_free : Ob.samB K "Envelope" "free" "Envelope" = true
  y_Envelope_level : Ob.samB K "Envelope" "level" "Envelope" = true
  y_Envelope_name : Ob.samB K "Envelope" "name" "Envelope" = true
  y_Envelope_put : Ob.samB K "Envelope" "put" "Envelope" = true
  y_Envelope_take : Ob.samB K "Envelope" "take" "Envelope" = true
  y_Envelope_text : Ob.samB K "Envelope" "text" "Envelope" = true
  y_Goal___init__ : Ob.samB K "Goal" "__init__" "Goal" = true
  y_Goal_free : Ob.samB K "Goal" "free" "Goal" = true
  y_Goal_level : Ob.samB K "Goal" "level" "Envelope" = true
  y_Goal_name : Ob.samB K "Goal" "name" "Envelope" = true
  y_Goal_put : Ob.samB K "Goal" "put" "Goal" = true
  y_Goal_reached : Ob.samB K "Goal" "reached" "Goal" = true
  y_Goal_take : Ob.samB K "Goal" "take" "Envelope" = true
  y_Goal_text : Ob.samB K "Goal" "text" "Envelope" = true
  y_GoalReserve___init__ : Ob.samB K "GoalReserve" "__init__" "Goal" = true
  y_GoalReserve_free : Ob.samB K "GoalReserve" "free" "Goal" = true
  y_GoalReserve_level : Ob.samB K "GoalReserve" "level" "Envelope" = true
  y_GoalReserve_name : Ob.samB K "GoalReserve" "name" "Envelope" = true
  y_GoalReserve_put : Ob.samB K "GoalReserve" "put" "Goal" = true
  y_GoalReserve_reached : Ob.samB K "GoalReserve" "reached" "Goal" = true
  y_GoalReserve_take : Ob.samB K "GoalReserve" "take" "Envelope" = true
  y_GoalReserve_text : Ob.samB K "GoalReserve" "text" "Envelope" = true
  y_Plan___init__ : Ob.samB K "Plan" "__init__" "Plan" = true
  y_Plan_envelope : Ob.samB K "Plan" "envelope" "Plan" = true
  y_Plan_levels : Ob.samB K "Plan" "levels" "Plan" = true
  y_Plan_lost : Ob.samB K "Plan" "lost" "Plan" = true
  y_Plan_pour : Ob.samB K "Plan" "pour" "Plan" = true
  y_Plan_spend : Ob.samB K "Plan" "spend" "Plan" = true
  y_Reserve___init__ : Ob.samB K "Reserve" "__init__" "Reserve" = true
  y_Reserve_free : Ob.samB K "Reserve" "free" "Reserve" = true
  y_Reserve_level : Ob.samB K "Reserve" "level" "Envelope" = true
  y_Reserve_name : Ob.samB K "Reserve" "name" "Envelope" = true
  y_Reserve_put : Ob.samB K "Reserve" "put" "Envelope" = true
  y_Reserve_take : Ob.samB K "Reserve" "take" "Envelope" = true
  y_Reserve_text : Ob.samB K "Reserve" "text" "Envelope" = true
  z_NotEnough_NotEnough : (Ob.Ck.exm "NotEnough" "NotEnough" true).ok K = true
  k_Envelope : (Ob.Ck.fa (.mkr "Envelope")).ok K = true
  k_Goal : (Ob.Ck.fa (.mkr "Goal")).ok K = true
  k_GoalReserve : (Ob.Ck.fa (.mkr "GoalReserve")).ok K = true
  k_Plan : (Ob.Ck.fa (.mkr "Plan")).ok K = true
  k_Reserve : (Ob.Ck.fa (.mkr "Reserve")).ok K = true
  u_Goal_Goal___init__ : (Ob.Ck.sup "Goal" "Goal" "__init__").ok K = true
  w_Goal_Goal___init__ : Ob.spsB K "Goal" "Goal" "__init__" "Envelope" = true
  u_Goal_Goal_free : (Ob.Ck.sup "Goal" "Goal" "free").ok K = true
  w_Goal_Goal_free : Ob.spsB K "Goal" "Goal" "free" "Envelope" = true
  u_Goal_Goal_put : (Ob.Ck.sup "Goal" "Goal" "put").ok K = true
  w_Goal_Goal_put : Ob.spsB K "Goal" "Goal" "put" "Envelope" = true
  u_GoalReserve_Goal___init__ : (Ob.Ck.sup "GoalReserve" "Goal" "__init__").ok K = true
  w_GoalReserve_Goal___init__ : Ob.spsB K "GoalReserve" "Goal" "__init__" "Reserve" = true
  u_GoalReserve_Goal_free : (Ob.Ck.sup "GoalReserve" "Goal" "free").ok K = true
  w_GoalReserve_Goal_free : Ob.spsB K "GoalReserve" "Goal" "free" "Reserve" = true
  u_GoalReserve_Goal_put : (Ob.Ck.sup "GoalReserve" "Goal" "put").ok K = true
  w_GoalReserve_Goal_put : Ob.spsB K "GoalReserve" "Goal" "put" "Envelope" = true
  u_GoalReserve_Reserve___init__ : (Ob.Ck.sup "GoalReserve" "Reserve" "__init__").ok K = true
  w_GoalReserve_Reserve___init__ : Ob.spsB K "GoalReserve" "Reserve" "__init__" "Envelope" = true
  u_GoalReserve_Reserve_free : (Ob.Ck.sup "GoalReserve" "Reserve" "free").ok K = true
  w_GoalReserve_Reserve_free : Ob.spsB K "GoalReserve" "Reserve" "free" "Envelope" = true
  u_Reserve_Reserve___init__ : (Ob.Ck.sup "Reserve" "Reserve" "__init__").ok K = true
  w_Reserve_Reserve___init__ : Ob.spsB K "Reserve" "Reserve" "__init__" "Envelope" = true
  u_Reserve_Reserve_free : (Ob.Ck.sup "Reserve" "Reserve" "free").ok K = true
  w_Reserve_Reserve_free : Ob.spsB K "Reserve" "Reserve" "free" "Envelope" = true
  e_InvalidAmount : Ob.Err K mg "InvalidAmount"
  e_InvalidCap : Ob.Err K mg "InvalidCap"
  e_InvalidEnvelopes : Ob.Err K mg "InvalidEnvelopes"
  e_InvalidFloor : Ob.Err K mg "InvalidFloor"
  e_InvalidLevel : Ob.Err K mg "InvalidLevel"
  e_InvalidName : Ob.Err K mg "InvalidName"
  e_InvalidText : Ob.Err K mg "InvalidText"
  e_NotEnough : Ob.Err K mg "NotEnough"
  e_UnknownEnvelope : Ob.Err K mg "UnknownEnvelope"
  v_Envelope_LARGEST : Ob.ClsC K mg "Envelope" "LARGEST" 1000000
  v_Plan_MOST : Ob.ClsC K mg "Plan" "MOST" 6
  t_Envelope_is_name : (Ob.Ck.stat "Envelope" "is_name").ok K = true
  cm_Envelope_read : Ob.cmB K "Envelope" "read" = true
  yk_Goal_read : Ob.samB K "Goal" "read" "Envelope" = true
  cm_Goal_read : Ob.cmB K "Goal" "read" = true
  cm_Plan_read : Ob.cmB K "Plan" "read" = true
  a_Env_done : Ob.NoA K ["Envelope", "Goal", "Reserve", "GoalReserve"] "done"
  a_Env_ground : Ob.NoA K ["Envelope", "Goal", "Reserve", "GoalReserve"] "ground"
  a_Env_held : Ob.NoA K ["Envelope", "Goal", "Reserve", "GoalReserve"] "held"
  a_Env_label : Ob.NoA K ["Envelope", "Goal", "Reserve", "GoalReserve"] "label"
  a_Env_limit : Ob.NoA K ["Envelope", "Goal", "Reserve", "GoalReserve"] "limit"
  a_Plan_gone : Ob.NoA K ["Plan"] "gone"
  a_Plan_row : Ob.NoA K ["Plan"] "row"
  i_Envelope : Ob.IsC K mg "Envelope" [("Envelope", true), ("Goal", true), ("Reserve", true), ("GoalReserve", true), ("Plan", false)]
  sup : mg "super" = none
  cst : PySem.W.nsIn K cStatics "thirdparty.any" = some none
  d__law_cell : ∃ fd, FunD K "_law_cell" "_law_cell" (defArgs s__law_cell) (defBody s__law_cell) (defScope s__law_cell) [] [] (Ob.Lo.ad K (.g "_law_cell")) fd
  d_all_levels : ∃ fd, FunD K "all_levels" "all_levels" (defArgs s_all_levels) (defBody s_all_levels) (defScope s_all_levels) [] [] (Ob.Lo.ad K (.g "all_levels")) fd
  d_poured : ∃ fd, FunD K "poured" "poured" (defArgs s_poured) (defBody s_poured) (defScope s_poured) [] [] (Ob.Lo.ad K (.g "poured")) fd
  d_first_sums : ∃ fd, FunD K "first_sums" "first_sums" (defArgs s_first_sums) (defBody s_first_sums) (defScope s_first_sums) [] [] (Ob.Lo.ad K (.g "first_sums")) fd
  d_commute : ∃ fd, FunD K "commute" "commute" (defArgs s_commute) (defBody s_commute) (defScope s_commute) [] [] (Ob.Lo.ad K (.g "commute")) fd
  d_largest_amount : ∃ fd, FunD K "largest_amount" "largest_amount" (defArgs s_largest_amount) (defBody s_largest_amount) (defScope s_largest_amount) [] [] (Ob.Lo.ad K (.g "largest_amount")) fd
  d_with_amount : ∃ fd, FunD K "with_amount" "with_amount" (defArgs s_with_amount) (defBody s_with_amount) (defScope s_with_amount) [] [] (Ob.Lo.ad K (.g "with_amount")) fd
  d_shortest_script : ∃ fd, FunD K "shortest_script" "shortest_script" (defArgs s_shortest_script) (defBody s_shortest_script) (defScope s_shortest_script) [] [] (Ob.Lo.ad K (.g "shortest_script")) fd
  d_is_number_text : ∃ fd, FunD K "is_number_text" "is_number_text" (defArgs s_is_number_text) (defBody s_is_number_text) (defScope s_is_number_text) [] [] (Ob.Lo.ad K (.g "is_number_text")) fd
  d_Envelope_is_name : ∃ fd, FunD K "is_name" "Envelope.is_name" (defArgs s_Envelope_is_name) (defBody s_Envelope_is_name) (defScope s_Envelope_is_name) [] [] (Ob.Lo.ad K (.s "Envelope" "is_name")) fd
  d_is_integer : ∃ fd, FunD K "is_integer" "is_integer" (defArgs s_is_integer) (defBody s_is_integer) (defScope s_is_integer) [] [] (Ob.Lo.ad K (.g "is_integer")) fd
  d_Envelope_text : ∃ fd, FunD K "text" "Envelope.text" (defArgs s_Envelope_text) (defBody s_Envelope_text) (defScope s_Envelope_text) [] [] (Ob.Lo.ad K (.m "Envelope" "text")) fd
  d_Goal_reached : ∃ fd, FunD K "reached" "Goal.reached" (defArgs s_Goal_reached) (defBody s_Goal_reached) (defScope s_Goal_reached) [] [] (Ob.Lo.ad K (.p "Goal" "reached")) fd
  d_Envelope_free : ∃ fd, FunD K "free" "Envelope.free" (defArgs s_Envelope_free) (defBody s_Envelope_free) (defScope s_Envelope_free) [] [] (Ob.Lo.ad K (.m "Envelope" "free")) fd
  d_Envelope_name : ∃ fd, FunD K "name" "Envelope.name" (defArgs s_Envelope_name) (defBody s_Envelope_name) (defScope s_Envelope_name) [] [] (Ob.Lo.ad K (.p "Envelope" "name")) fd
  d_Plan_lost : ∃ fd, FunD K "lost" "Plan.lost" (defArgs s_Plan_lost) (defBody s_Plan_lost) (defScope s_Plan_lost) [] [] (Ob.Lo.ad K (.p "Plan" "lost")) fd
  d_Envelope_level : ∃ fd, FunD K "level" "Envelope.level" (defArgs s_Envelope_level) (defBody s_Envelope_level) (defScope s_Envelope_level) [] [] (Ob.Lo.ad K (.p "Envelope" "level")) fd
  d__law_digits : ∃ fd, FunD K "_law_digits" "_law_digits" (defArgs s__law_digits) (defBody s__law_digits) (defScope s__law_digits) [] [] (Ob.Lo.ad K (.g "_law_digits")) fd
  d_run : ∃ fd, FunD K "run" "run" (defArgs s_run) (defBody s_run) (defScope s_run) [] [] (Ob.Lo.ad K (.g "run")) fd
  d_prefix_effects : ∃ fd, FunD K "prefix_effects" "prefix_effects" (defArgs s_prefix_effects) (defBody s_prefix_effects) (defScope s_prefix_effects) [] [] (Ob.Lo.ad K (.g "prefix_effects")) fd
  d_fewest_steps : ∃ fd, FunD K "fewest_steps" "fewest_steps" (defArgs s_fewest_steps) (defBody s_fewest_steps) (defScope s_fewest_steps) [] [] (Ob.Lo.ad K (.g "fewest_steps")) fd
  d_Envelope___init__ : ∃ fd, FunD K "__init__" "Envelope.__init__" (defArgs s_Envelope___init__) (defBody s_Envelope___init__) (defScope s_Envelope___init__) [.int 0] [] (Ob.Lo.ad K (.m "Envelope" "__init__")) fd
  d_check_amount : ∃ fd, FunD K "check_amount" "check_amount" (defArgs s_check_amount) (defBody s_check_amount) (defScope s_check_amount) [] [] (Ob.Lo.ad K (.g "check_amount")) fd
  d_Reserve_free : ∃ fd, Ob.FunS K file "free" "Reserve.free" (defArgs s_Reserve_free) (defBody s_Reserve_free) (defScope s_Reserve_free) [] [] (He.ga K "Reserve") (Ob.Lo.ad K (.m "Reserve" "free")) fd
  d_same_results : ∃ fd, FunD K "same_results" "same_results" (defArgs s_same_results) (defBody s_same_results) (defScope s_same_results) [] [] (Ob.Lo.ad K (.g "same_results")) fd
  d_least_starts : ∃ fd, FunD K "least_starts" "least_starts" (defArgs s_least_starts) (defBody s_least_starts) (defScope s_least_starts) [] [] (Ob.Lo.ad K (.g "least_starts")) fd
  d_least_pour : ∃ fd, FunD K "least_pour" "least_pour" (defArgs s_least_pour) (defBody s_least_pour) (defScope s_least_pour) [] [] (Ob.Lo.ad K (.g "least_pour")) fd
  d_largest_spending : ∃ fd, FunD K "largest_spending" "largest_spending" (defArgs s_largest_spending) (defBody s_largest_spending) (defScope s_largest_spending) [] [] (Ob.Lo.ad K (.g "largest_spending")) fd
  d_judged : ∃ fd, FunD K "judged" "judged" (defArgs s_judged) (defBody s_judged) (defScope s_judged) [] [] (Ob.Lo.ad K (.g "judged")) fd
  d_Reserve___init__ : ∃ fd, Ob.FunS K file "__init__" "Reserve.__init__" (defArgs s_Reserve___init__) (defBody s_Reserve___init__) (defScope s_Reserve___init__) [.int 0] [("floor", .int 0)] (He.ga K "Reserve") (Ob.Lo.ad K (.m "Reserve" "__init__")) fd
  d_Envelope_put : ∃ fd, FunD K "put" "Envelope.put" (defArgs s_Envelope_put) (defBody s_Envelope_put) (defScope s_Envelope_put) [] [] (Ob.Lo.ad K (.m "Envelope" "put")) fd
  d_Goal_free : ∃ fd, Ob.FunS K file "free" "Goal.free" (defArgs s_Goal_free) (defBody s_Goal_free) (defScope s_Goal_free) [] [] (He.ga K "Goal") (Ob.Lo.ad K (.m "Goal" "free")) fd
  d_Plan___init__ : ∃ fd, FunD K "__init__" "Plan.__init__" (defArgs s_Plan___init__) (defBody s_Plan___init__) (defScope s_Plan___init__) [] [] (Ob.Lo.ad K (.m "Plan" "__init__")) fd
  d_Plan_levels : ∃ fd, FunD K "levels" "Plan.levels" (defArgs s_Plan_levels) (defBody s_Plan_levels) (defScope s_Plan_levels) [] [] (Ob.Lo.ad K (.p "Plan" "levels")) fd
  d_Plan_envelope : ∃ fd, FunD K "envelope" "Plan.envelope" (defArgs s_Plan_envelope) (defBody s_Plan_envelope) (defScope s_Plan_envelope) [] [] (Ob.Lo.ad K (.m "Plan" "envelope")) fd
  d_first_amount : ∃ fd, FunD K "first_amount" "first_amount" (defArgs s_first_amount) (defBody s_first_amount) (defScope s_first_amount) [] [] (Ob.Lo.ad K (.g "first_amount")) fd
  d_Goal___init__ : ∃ fd, Ob.FunS K file "__init__" "Goal.__init__" (defArgs s_Goal___init__) (defBody s_Goal___init__) (defScope s_Goal___init__) [.int 0] [] (He.ga K "Goal") (Ob.Lo.ad K (.m "Goal" "__init__")) fd
  d_Goal_put : ∃ fd, Ob.FunS K file "put" "Goal.put" (defArgs s_Goal_put) (defBody s_Goal_put) (defScope s_Goal_put) [] [] (He.ga K "Goal") (Ob.Lo.ad K (.m "Goal" "put")) fd
  d_Envelope_take : ∃ fd, FunD K "take" "Envelope.take" (defArgs s_Envelope_take) (defBody s_Envelope_take) (defScope s_Envelope_take) [] [] (Ob.Lo.ad K (.m "Envelope" "take")) fd
  d_Plan_spend : ∃ fd, FunD K "spend" "Plan.spend" (defArgs s_Plan_spend) (defBody s_Plan_spend) (defScope s_Plan_spend) [] [] (Ob.Lo.ad K (.m "Plan" "spend")) fd
  d_fitting_amounts : ∃ fd, FunD K "fitting_amounts" "fitting_amounts" (defArgs s_fitting_amounts) (defBody s_fitting_amounts) (defScope s_fitting_amounts) [] [] (Ob.Lo.ad K (.g "fitting_amounts")) fd
  d_Plan_pour : ∃ fd, FunD K "pour" "Plan.pour" (defArgs s_Plan_pour) (defBody s_Plan_pour) (defScope s_Plan_pour) [] [] (Ob.Lo.ad K (.m "Plan" "pour")) fd
  d__law_rows_right : ∃ fd, FunD K "_law_rows_right" "_law_rows_right" (defArgs s__law_rows_right) (defBody s__law_rows_right) (defScope s__law_rows_right) [] [] (Ob.Lo.ad K (.g "_law_rows_right")) fd
  d_Envelope_read : ∃ fd, FunD K "read" "Envelope.read" (defArgs s_Envelope_read) (defBody s_Envelope_read) (defScope s_Envelope_read) [] [] (Ob.Lo.ad K (.k "Envelope" "read")) fd
  d_Plan_read : ∃ fd, FunD K "read" "Plan.read" (defArgs s_Plan_read) (defBody s_Plan_read) (defScope s_Plan_read) [] [] (Ob.Lo.ad K (.k "Plan" "read")) fd
  d__law_envelopes_right : ∃ fd, FunD K "_law_envelopes_right" "_law_envelopes_right" (defArgs s__law_envelopes_right) (defBody s__law_envelopes_right) (defScope s__law_envelopes_right) [] [] (Ob.Lo.ad K (.g "_law_envelopes_right")) fd
  d_law : ∃ fd, FunD K "law" "law" (defArgs s_law) (defBody s_law) (defScope s_law) [] [] (Ob.Lo.ad K (.g "law")) fd
theorem ob_eq (s : PySem.W.SharedT) : ob s = hk.obs s.abs := Ob.obsOG_eq (HandSHeadRun.getT_eq s)
end Lw
namespace Lw
open PySem L2 Fi
/-! ### what each def computes -/
def b__law_cell : FS := (sSeq (sIf (asB (e2 fLt (eVar 1) (eCall fLen (aCons (eVar 0) aNil)))) (sRet (e2 fIx (eVar 0) (eVar 1))) sNext)
    (sSeq (sIf (asB (e2 fEq (eCall fLen (aCons (eVar 0) aNil)) (eC (.int 0)))) (sRet (e2 fAdd (e2 fMul (eC (.int 7919)) (eVar 1)) (eC (.int 101)))) sNext)
    (sRet (e2 fAdd (e2 fMod (e2 fIx (eVar 0) (e2 fMod (eVar 1) (eCall fLen (aCons (eVar 0) aNil)))) (eC (.int 1000003))) (e2 fMul (eC (.int 7919)) (eVar 1))))))
def F__law_cell : List PyData → Option Sl := fnD 2 b__law_cell
def lp_all_levels_0 : FS := (sSeq (sOwn 1 (lLc2 (iL (eVar 1)) (gSet 3) (iR1 (aCons (e2 fAdd (eVar 2) (eC (.int 1))) aNil)) (gSet 4) (e2 fAdd (eVar 3) (eTup (aCons (eVar 4) aNil))) [3, 4] [4])) (sFrz 1 sNext))
def b_all_levels : FS := (sSeq (sSet 1 (eL (lLst (aCons (eTup aNil) aNil))))
    (sSeq (sFor (iT (eVar 0)) (gSet 2) lp_all_levels_0)
    (sRet (eVar 1))))
def F_all_levels : List PyData → Option Sl := fnD 5 b_all_levels
def lp_poured_0 : FS := (sSeq (sSet 6 (eCall fMin (aCons (eVar 2) (aCons (e2 fSub (eVar 4) (eVar 5)) aNil))))
    (sSeq (sApp 3 (e2 fAdd (eVar 5) (eVar 6)))
    (sAug 2 (fun i j => i - j) (eVar 6))))
def b_poured : FS := (sSeq (sOwn 3 (lLst aNil))
    (sSeq (sFor (iZ .t .t (aCons (eVar 0) (aCons (eVar 1) aNil))) (gTupF 2 (gsCons (gSet 4) (gsCons (gSet 5) gsNil))) lp_poured_0)
    (sFrz 3 (sRet (eTup (aCons (eCall fTuple (aCons (eVar 3) aNil)) (aCons (eVar 2) aNil)))))))
def F_poured : List PyData → Option Sl := fnD 7 b_poured
def lp_first_sums_0 : FS := (sSeq (sAug 3 (fun i j => i + j) (eVar 1))
    (sApp 2 (eVar 3)))
def b_first_sums : FS := (sSeq (sParL 2 3 (lLst aNil) (eC (.int 0)))
    (sSeq (sFor (iT (eVar 0)) (gSet 1) lp_first_sums_0)
    (sRetO 2)))
def F_first_sums : List PyData → Option Sl := fnD 4 b_first_sums
def b_commute : FS := (sSeq (sIf (asB (e2 fEq (e2 fIx (eVar 1) (eC (.int 0))) (e2 fIx (eVar 2) (eC (.int 0))))) (sRet (eC (.bool true))) sNext)
    (sSeq (sAsg (eIf (asB (e2 fEq (e2 fIx (eVar 1) (eC (.int 0))) (eC (.str "pour")))) (eTup (aCons (eVar 1) (aCons (eVar 2) aNil))) (eTup (aCons (eVar 2) (aCons (eVar 1) aNil)))) (gTupF 2 (gsCons (gSet 3) (gsCons (gSet 4) gsNil))))
    (sRet (eOr (e2 fEq (e2 fIx (eVar 3) (eC (.int 1))) (eC (.int 0))) (eOr (e2 fEq (e2 fIx (eVar 4) (eC (.int 2))) (eC (.int 0))) (e2 fGt (e2 fIx (eVar 4) (eC (.int 2))) (e2 fIx (eVar 0) (e2 fIx (eVar 4) (eC (.int 1))))))))))
def F_commute : List PyData → Option Sl := fnD 5 b_commute
def b_largest_amount : FS := (sRet (eIf (asB (e2 fEq (e2 fIx (e2 fIx (eVar 1) (eVar 2)) (eC (.int 0))) (eC (.str "pour")))) (eC (.int 1000000000)) (e2 fIx (eVar 0) (e2 fIx (e2 fIx (eVar 1) (eVar 2)) (eC (.int 1))))))
def F_largest_amount : List PyData → Option Sl := fnD 3 b_largest_amount
def b_with_amount : FS := (sRet (e2 fAdd (e2 fAdd (eSlT (eVar 0) oNone (oSome (eVar 1))) (eTup (aCons (e2 fAdd (eSlT (e2 fIx (eVar 0) (eVar 1)) oNone (oSome (e1 fNeg (eC (.int 1))))) (eTup (aCons (eVar 2) aNil))) aNil))) (eSlT (eVar 0) (oSome (e2 fAdd (eVar 1) (eC (.int 1)))) oNone)))
def F_with_amount : List PyData → Option Sl := fnD 3 b_with_amount
def lp_shortest_script_0 : FS := (sIf (asB (e2 fLt (e2 fIx (eVar 2) (eVar 6)) (e2 fIx (eVar 1) (eVar 6)))) (sApp 5 (eTup (aCons (eC (.str "spend")) (aCons (eVar 6) (aCons (e2 fSub (e2 fIx (eVar 1) (eVar 6)) (e2 fIx (eVar 2) (eVar 6))) aNil))))) sNext)
def b_shortest_script : FS := (sSeq (sSet 3 (eL (lR1 (eCall fLen (aCons (eVar 0) aNil)))))
    (sSeq (sOwn 4 (lLc (iL (eVar 3)) (gSet 6) (asB (e2 fGt (e2 fIx (eVar 2) (eVar 6)) (e2 fIx (eVar 1) (eVar 6)))) (eVar 6) [6])) (sFrz 4 (sSeq (sOwn 5 (lLst aNil))
    (sSeq (sIf (asB (e2 fNe (eVar 4) (eL (lLst aNil)))) (sSeq (sSet 7 (e2 fIx (eVar 4) (e1 fNeg (eC (.int 1)))))
    (sSeq (sSet 8 (e2 fSub (e2 fAdd (eCall fSum (aCons (eL (lLc (iL (eL (lSl (eVar 3) oNone (oSome (eVar 7))))) (gSet 6) pYes (e2 fSub (e2 fIx (eVar 0) (eVar 6)) (e2 fIx (eVar 1) (eVar 6))) [6])) aNil)) (e2 fIx (eVar 2) (eVar 7))) (e2 fIx (eVar 1) (eVar 7))))
    (sSeq (sApp 5 (eTup (aCons (eC (.str "pour")) (aCons (eVar 8) aNil))))
    (sSet 1 (e2 fAdd (e2 fAdd (eSlT (eVar 0) oNone (oSome (eVar 7))) (eTup (aCons (e2 fIx (eVar 2) (eVar 7)) aNil))) (eSlT (eVar 1) (oSome (e2 fAdd (eVar 7) (eC (.int 1)))) oNone)))))) sNext)
    (sSeq (sFor (iL (eVar 3)) (gSet 6) lp_shortest_script_0)
    (sFrz 5 (sRet (eCall fTuple (aCons (eVar 5) aNil))))))))))
def F_shortest_script : List PyData → Option Sl := fnD 9 b_shortest_script
def b_is_number_text : FS := (sSeq (sIf (tOrF (asB (e2 fEq (eVar 0) (eC (.str "")))) (tOrF (asB (e2 fGt (eCall fLenS (aCons (eVar 0) aNil)) (eC (.int 9)))) (tNotF (asB (eCall fAll (aCons (eL (lLc (iS (eVar 0)) (gSet 1) pYes (e2 fInS (eVar 1) (eC (.str "0123456789"))) [1])) aNil)))))) (sRet (eC (.bool false))) sNext)
    (sRet (eOr (e2 fEq (eVar 0) (eC (.str "0"))) (e2 fNe (e2 fIxS (eVar 0) (eC (.int 0))) (eC (.str "0"))))))
def F_is_number_text : List PyData → Option Sl := fnD 2 b_is_number_text
def b_Envelope_is_name : FS := (sRet (eAnd (eIsI "str" (eVar 0)) (eAnd (eChain fLe fLe (eC (.int 1)) (eCall fLenS (aCons (eVar 0) aNil)) (eC (.int 8))) (eCall fAll (aCons (eL (lLc (iS (eVar 0)) (gSet 1) pYes (e2 fInS (eVar 1) (eC (.str "abcdefghijklmnopqrstuvwxyz"))) [1])) aNil)))))
def F_Envelope_is_name : List PyData → Option Sl := fnD 2 b_Envelope_is_name
def b_is_integer : FS := (sRet (eAnd (eIsI "int" (eVar 0)) (eAnd (eNot (eIsI "bool" (eVar 0))) (eChain fLe fLe (eVar 1) (eVar 0) (eVar 2)))))
def F_is_integer : List PyData → Option Sl := fnD 3 b_is_integer
def b_Envelope_text : Ob.FS := (Ob.sRet (Ob.e2 fAdd (Ob.e2 fAdd (Ob.e2 fAdd (Ob.e2 fAdd (Ob.eFld ["Envelope", "Goal", "Reserve", "GoalReserve"] "label" (Ob.eVar 0)) (Ob.pE (eC (.str ":")))) (Ob.eCall fStrI (Ob.aCons (Ob.eFld ["Envelope", "Goal", "Reserve", "GoalReserve"] "held" (Ob.eVar 0)) Ob.aNil))) (Ob.pE (eC (.str "/")))) (Ob.eCall fStrI (Ob.aCons (Ob.eFld ["Envelope", "Goal", "Reserve", "GoalReserve"] "limit" (Ob.eVar 0)) Ob.aNil))))
def F_Envelope_text : Ob.Fn := Ob.fnO 1 b_Envelope_text
def b_Goal_reached : Ob.FS := (Ob.sRet (Ob.eFld ["Envelope", "Goal", "Reserve", "GoalReserve"] "done" (Ob.eVar 0)))
def F_Goal_reached : Ob.Fn := Ob.fnO 1 b_Goal_reached
def b_Envelope_free : Ob.FS := (Ob.sRet (Ob.eFld ["Envelope", "Goal", "Reserve", "GoalReserve"] "held" (Ob.eVar 0)))
def F_Envelope_free : Ob.Fn := Ob.fnO 1 b_Envelope_free
def b_Envelope_name : Ob.FS := (Ob.sRet (Ob.eFld ["Envelope", "Goal", "Reserve", "GoalReserve"] "label" (Ob.eVar 0)))
def F_Envelope_name : Ob.Fn := Ob.fnO 1 b_Envelope_name
def b_Plan_lost : Ob.FS := (Ob.sRet (Ob.eFld ["Plan"] "gone" (Ob.eVar 0)))
def F_Plan_lost : Ob.Fn := Ob.fnO 1 b_Plan_lost
def b_Envelope_level : Ob.FS := (Ob.sRet (Ob.eFld ["Envelope", "Goal", "Reserve", "GoalReserve"] "held" (Ob.eVar 0)))
def F_Envelope_level : Ob.Fn := Ob.fnO 1 b_Envelope_level
def lp__law_digits_0 : FS := (sSeq (sSet 9 (e2 fMul (e2 fMod (eVar 5) (e2 fIx (eVar 4) (e2 fMod (eVar 8) (eC (.int 8))))) (e2 fAdd (eC (.int 48271)) (e2 fMul (e2 fMul (eC (.int 2)) (eVar 8)) (eVar 8)))))
    (sSeq (sSet 9 (e2 fAdd (e2 fAdd (eVar 9) (e2 fMul (e2 fMul (eC (.int 7919)) (e2 fAdd (eVar 8) (eC (.int 1)))) (e2 fAdd (eVar 8) (eC (.int 1))))) (e2 fMul (eC (.int 104729)) (eVar 1))))
    (sSeq (sSet 9 (e2 fMod (eVar 9) (e2 fIx (eVar 4) (e2 fMod (e2 fAdd (e2 fMul (eC (.int 3)) (eVar 8)) (eVar 1)) (eC (.int 8))))))
    (sSeq (sSet 9 (e2 fMod (e2 fMul (e2 fMul (eVar 9) (eVar 9)) (eVar 9)) (e2 fIx (eVar 4) (e2 fMod (e2 fAdd (eVar 8) (eC (.int 5))) (eC (.int 8))))))
    (sSeq (sIf (asB (e2 fGt (eVar 6) (eC (.int 0)))) (sSet 9 (eVar 6)) sNext)
    (sSeq (sApp 7 (e2 fMod (eVar 9) (eVar 3)))
    (sSet 6 (e2 fDiv (eVar 6) (eVar 3)))))))))
def b__law_digits : FS := (sSeq (sSet 4 (eTup (aCons (eC (.int 2147483647)) (aCons (eC (.int 2147483629)) (aCons (eC (.int 2147483587)) (aCons (eC (.int 2147483579)) (aCons (eC (.int 2147483563)) (aCons (eC (.int 2147483549)) (aCons (eC (.int 2147483543)) (aCons (eC (.int 2147483497)) aNil))))))))))
    (sSeq (sSet 5 (eCallF F__law_cell (aCons (eVar 0) (aCons (eVar 1) aNil))))
    (sSeq (sSet 6 (eIf (asB (e2 fGe (eVar 5) (e2 fPow (eC (.int 10)) (eC (.int 18))))) (eVar 5) (eC (.int 0))))
    (sSeq (sOwn 7 (lLst aNil))
    (sSeq (sFor (iR1 (aCons (eVar 2) aNil)) (gSet 8) lp__law_digits_0)
    (sRetO 7))))))
def F__law_digits : List PyData → Option Sl := fnD 10 b__law_digits
def lp_run_0 : FS := (sIf (asB (e2 fEq (e2 fIx (eVar 4) (eC (.int 0))) (eC (.str "pour")))) (sSeq (sAsg (eCallF F_poured (aCons (eVar 0) (aCons (eVar 1) (aCons (e2 fIx (eVar 4) (eC (.int 1))) aNil)))) (gTupF 2 (gsCons (gSet 1) (gsCons (gSet 5) gsNil))))
    (sAug 3 (fun i j => i + j) (eVar 5))) (sSeq (sPar 6 7 (aCons (e2 fIx (eVar 4) (eC (.int 1))) (aCons (e2 fIx (eVar 4) (eC (.int 2))) aNil)))
    (sSeq (sIf (asB (e2 fLt (e2 fIx (eVar 1) (eVar 6)) (eVar 7))) (sRet (eC .none)) sNext)
    (sSet 1 (e2 fAdd (e2 fAdd (eSlT (eVar 1) oNone (oSome (eVar 6))) (eTup (aCons (e2 fSub (e2 fIx (eVar 1) (eVar 6)) (eVar 7)) aNil))) (eSlT (eVar 1) (oSome (e2 fAdd (eVar 6) (eC (.int 1)))) oNone))))))
def b_run : FS := (sSeq (sSet 3 (eC (.int 0)))
    (sSeq (sFor (iT (eVar 2)) (gSet 4) lp_run_0)
    (sRet (eTup (aCons (eVar 1) (aCons (eVar 3) aNil))))))
def F_run : List PyData → Option Sl := fnD 8 b_run
def lp_prefix_effects_0 : FS := (sSeq (sAsg (ownIx 2 (eVar 5)) (gTupF 2 (gsCons (gSet 7) (gsCons (gSet 8) gsNil))))
    (sIf (asB (e2 fEq (e2 fIx (eVar 3) (eC (.int 0))) (eC (.str "pour")))) (sAsg (eTup (aCons (e2 fAdd (eVar 7) (e2 fIx (eVar 3) (eC (.int 1)))) (aCons (eCall fMin (aCons (eVar 6) (aCons (e2 fAdd (eVar 8) (e2 fIx (eVar 3) (eC (.int 1)))) aNil))) aNil))) (gSub 2 (eVar 5))) (sIf (asB (e2 fLe (e2 fIx (eVar 3) (eC (.int 1))) (eVar 5))) (sAsg (eTup (aCons (e2 fSub (eVar 7) (e2 fIx (eVar 3) (eC (.int 2)))) (aCons (e2 fSub (eVar 8) (e2 fIx (eVar 3) (eC (.int 2)))) aNil))) (gSub 2 (eVar 5))) sNext)))
def lp_prefix_effects_1 : FS := (sFor (iEn .l (aCons (eL (lCallF F_first_sums (aCons (eVar 0) aNil))) aNil)) (gTupF 2 (gsCons (gSet 5) (gsCons (gSet 6) gsNil))) lp_prefix_effects_0)
def b_prefix_effects : FS := (sSeq (sOwn 2 (lLc (iL (eL (lCallF F_first_sums (aCons (eVar 0) aNil)))) (gSet 4) pYes (eTup (aCons (eC (.int 0)) (aCons (eVar 4) aNil))) [4]))
    (sSeq (sFor (iT (eVar 1)) (gSet 3) lp_prefix_effects_1)
    (sRetO 2)))
def F_prefix_effects : List PyData → Option Sl := fnD 9 b_prefix_effects
def b_fewest_steps : FS := (sRet (eCall fLen (aCons (eCallF F_shortest_script (aCons (eVar 0) (aCons (eVar 1) (aCons (eVar 2) aNil)))) aNil)))
def F_fewest_steps : List PyData → Option Sl := fnD 3 b_fewest_steps
def b_Envelope___init__ : Ob.FS := (Ob.sSeq (Ob.sIf (Ob.pT (tNotF (asB (eCallF F_Envelope_is_name (aCons (eVar 1) aNil))))) (Ob.sRaise "InvalidName") Ob.sNext)
    (Ob.sSeq (Ob.sIf (Ob.pT (tNotF (asB (eCallF F_is_integer (aCons (eVar 2) (aCons (eC (.int 1)) (aCons (eC (.int 1000000)) aNil))))))) (Ob.sRaise "InvalidCap") Ob.sNext)
    (Ob.sSeq (Ob.sIf (Ob.pT (tNotF (asB (eCallF F_is_integer (aCons (eVar 3) (aCons (eC (.int 0)) (aCons (eVar 2) aNil))))))) (Ob.sRaise "InvalidLevel") Ob.sNext)
    (Ob.sSeq (Ob.sFld ["Envelope", "Goal", "Reserve", "GoalReserve"] "label" (Ob.pE (eVar 1)) (Ob.eVar 0))
    (Ob.sSeq (Ob.sFld ["Envelope", "Goal", "Reserve", "GoalReserve"] "limit" (Ob.pE (eVar 2)) (Ob.eVar 0))
    (Ob.sFld ["Envelope", "Goal", "Reserve", "GoalReserve"] "held" (Ob.pE (eVar 3)) (Ob.eVar 0)))))))
def F_Envelope___init__ : Ob.Fn := Ob.fnO 4 b_Envelope___init__
def b_check_amount : Ob.FS := (Ob.sIf (Ob.pT (tNotF (asB (eCallF F_is_integer (aCons (eVar 0) (aCons (eC (.int 0)) (aCons (eC (.int 1000000000)) aNil))))))) (Ob.sRaise "InvalidAmount") Ob.sNext)
def F_check_amount : Ob.Fn := Ob.fnO 1 b_check_amount
def b_Reserve_free : Ob.FS := (Ob.sRet (Ob.eCall fMax (Ob.aCons (Ob.pE (eC (.int 0))) (Ob.aCons (Ob.e2 fSub (Ob.eSup0 [("Reserve", F_Envelope_free), ("GoalReserve", F_Envelope_free)]) (Ob.eFld ["Envelope", "Goal", "Reserve", "GoalReserve"] "ground" (Ob.eVar 0))) Ob.aNil))))
def F_Reserve_free : Ob.Fn := Ob.fnO 1 b_Reserve_free
def lp_same_results_0 : FS := (sSeq (sPar 4 5 (aCons (eCallF F_run (aCons (eVar 0) (aCons (eVar 3) (aCons (eVar 1) aNil)))) (aCons (eCallF F_run (aCons (eVar 0) (aCons (eVar 3) (aCons (eVar 2) aNil)))) aNil)))
    (sIf (tAndF (asB (e2 fIsNot (eVar 4) (eC .none))) (tAndF (asB (e2 fIsNot (eVar 5) (eC .none))) (asB (e2 fNe (e2 fIx (eVar 4) (eC (.int 0))) (e2 fIx (eVar 5) (eC (.int 0))))))) (sRet (eC (.bool false))) sNext))
def b_same_results : FS := (sSeq (sFor (iL (eCallF F_all_levels (aCons (eVar 0) aNil))) (gSet 3) lp_same_results_0)
    (sRet (eC (.bool true))))
def F_same_results : List PyData → Option Sl := fnD 6 b_same_results
def lp_least_starts_0 : FS := (sSeq (sOwn 6 (lLc (iR1 (aCons (eCall fLen (aCons (eVar 5) aNil)) aNil)) (gSet 7) (asB (e2 fGt (e2 fIx (eVar 5) (eVar 7)) (eC (.int 0)))) (e2 fAdd (e2 fAdd (eSlT (eVar 5) oNone (oSome (eVar 7))) (eTup (aCons (e2 fSub (e2 fIx (eVar 5) (eVar 7)) (eC (.int 1))) aNil))) (eSlT (eVar 5) (oSome (e2 fAdd (eVar 7) (eC (.int 1)))) oNone)) [7])) (sFrz 6 (sIf (tNotF (asB (eCall fAny (aCons (eL (lLc (iL (eVar 6)) (gSet 8) pYes (dctIn 3 (eVar 8)) [8])) aNil)))) (sApp 4 (eVar 5)) sNext)))
def b_least_starts : FS := (sSeq (sOwn 2 (lLc (iL (eCallF F_all_levels (aCons (eVar 0) aNil))) (gSet 5) (asB (e2 fIsNot (eCallF F_run (aCons (eVar 0) (aCons (eVar 5) (aCons (eVar 1) aNil)))) (eC .none))) (eVar 5) [5])) (sFrz 2 (sSeq (sDct 3 (dDc (iL (eVar 2)) (gSet 5) (eVar 5) (eC (.bool true)) [5]))
    (sSeq (sOwn 4 (lLst aNil))
    (sSeq (sFor (iL (eVar 2)) (gSet 5) lp_least_starts_0)
    (sRetO 4))))))
def F_least_starts : List PyData → Option Sl := fnD 9 b_least_starts
def lp_least_pour_0 : FS := (sSeq (sSet 5 (e2 fDiv (e2 fAdd (eVar 3) (eVar 4)) (eC (.int 2))))
    (sIf (asB (e2 fIs (eCallF F_run (aCons (eVar 0) (aCons (eVar 1) (aCons (e2 fAdd (eTup (aCons (eTup (aCons (eC (.str "pour")) (aCons (eVar 5) aNil))) aNil)) (eVar 2)) aNil)))) (eC .none))) (sSet 3 (e2 fAdd (eVar 5) (eC (.int 1)))) (sSet 4 (eVar 5))))
def b_least_pour : FS := (sSeq (sPar 3 4 (aCons (eC (.int 0)) (aCons (eCall fSum (aCons (eVar 0) aNil)) aNil)))
    (sSeq (sIf (asB (e2 fIs (eCallF F_run (aCons (eVar 0) (aCons (eVar 1) (aCons (e2 fAdd (eTup (aCons (eTup (aCons (eC (.str "pour")) (aCons (eVar 4) aNil))) aNil)) (eVar 2)) aNil)))) (eC .none))) (sRet (eC .none)) sNext)
    (sSeq (whileD (asB (e2 fLt (eVar 3) (eVar 4))) lp_least_pour_0 64)
    (sRet (eVar 3)))))
def F_least_pour : List PyData → Option Sl := fnD 6 b_least_pour
def lp_largest_spending_0 : FS := (sSeq (sSet 6 (e2 fDiv (e2 fAdd (e2 fAdd (eVar 4) (eVar 5)) (eC (.int 1))) (eC (.int 2))))
    (sIf (asB (e2 fIs (eCallF F_run (aCons (eVar 0) (aCons (eVar 1) (aCons (e2 fAdd (eTup (aCons (eTup (aCons (eC (.str "spend")) (aCons (eVar 3) (aCons (eVar 6) aNil)))) aNil)) (eVar 2)) aNil)))) (eC .none))) (sSet 5 (e2 fSub (eVar 6) (eC (.int 1)))) (sSet 4 (eVar 6))))
def b_largest_spending : FS := (sSeq (sPar 4 5 (aCons (eC (.int 0)) (aCons (e2 fIx (eVar 1) (eVar 3)) aNil)))
    (sSeq (sIf (asB (e2 fIs (eCallF F_run (aCons (eVar 0) (aCons (eVar 1) (aCons (eVar 2) aNil)))) (eC .none))) (sRet (eC .none)) sNext)
    (sSeq (whileD (asB (e2 fLt (eVar 4) (eVar 5))) lp_largest_spending_0 64)
    (sRet (eVar 4)))))
def F_largest_spending : List PyData → Option Sl := fnD 7 b_largest_spending
def b_judged : FS := (sSeq (sSet 6 (eCallF F_run (aCons (eVar 0) (aCons (eVar 1) (aCons (eCallF F_with_amount (aCons (eVar 2) (aCons (eVar 3) (aCons (eVar 5) aNil)))) aNil)))))
    (sSeq (sIf (asB (e2 fIs (eVar 6) (eC .none))) (sRet (eTup (aCons (eC (.bool false)) (aCons (eC (.bool true)) aNil)))) sNext)
    (sSeq (sSet 7 (eL (lLZ .t .t (aCons (e2 fIx (eVar 6) (eC (.int 0))) (aCons (eVar 4) aNil)))))
    (sRet (eTup (aCons (eCall fAll (aCons (eL (lLc (iL (eVar 7)) (gTupF 2 (gsCons (gSet 8) (gsCons (gSet 9) gsNil))) pYes (e2 fGe (eVar 8) (eVar 9)) [8, 9])) aNil)) (aCons (eCall fAll (aCons (eL (lLc (iL (eVar 7)) (gTupF 2 (gsCons (gSet 8) (gsCons (gSet 9) gsNil))) pYes (e2 fLe (eVar 8) (eVar 9)) [8, 9])) aNil)) aNil)))))))
def F_judged : List PyData → Option Sl := fnD 10 b_judged
def b_Reserve___init__ : Ob.FS := (Ob.sSeq (Ob.sDrop (Ob.eSup [("Reserve", F_Envelope___init__), ("GoalReserve", F_Envelope___init__)] 3 (Ob.pL (aCons (eVar 1) (aCons (eVar 2) (aCons (eVar 3) aNil))))))
    (Ob.sSeq (Ob.sIf (Ob.pT (tNotF (asB (eCallF F_is_integer (aCons (eVar 4) (aCons (eC (.int 0)) (aCons (eVar 2) aNil))))))) (Ob.sRaise "InvalidFloor") Ob.sNext)
    (Ob.sFld ["Envelope", "Goal", "Reserve", "GoalReserve"] "ground" (Ob.pE (eVar 4)) (Ob.eVar 0))))
def F_Reserve___init__ : Ob.Fn := Ob.fnO 5 b_Reserve___init__
def b_Envelope_put : Ob.FS := (Ob.sSeq (Ob.sDrop (Ob.eG F_check_amount 1 (Ob.pL (aCons (eVar 1) aNil))))
    (Ob.sSeq (Ob.sSet 2 (Ob.eCall fMin (Ob.aCons (Ob.pE (eVar 1)) (Ob.aCons (Ob.e2 fSub (Ob.eFld ["Envelope", "Goal", "Reserve", "GoalReserve"] "limit" (Ob.eVar 0)) (Ob.eFld ["Envelope", "Goal", "Reserve", "GoalReserve"] "held" (Ob.eVar 0))) Ob.aNil))))
    (Ob.sSeq (Ob.sFldAug ["Envelope", "Goal", "Reserve", "GoalReserve"] "held" (fun i j => i + j) (Ob.eVar 0) (Ob.pE (eVar 2)))
    (Ob.sRet (Ob.pE (e2 fSub (eVar 1) (eVar 2)))))))
def F_Envelope_put : Ob.Fn := Ob.fnO 3 b_Envelope_put
def b_Goal_free : Ob.FS := (Ob.sRet (Ob.eIf (Ob.asB (Ob.eFld ["Envelope", "Goal", "Reserve", "GoalReserve"] "done" (Ob.eVar 0))) (Ob.eSup0 [("Goal", F_Envelope_free), ("GoalReserve", F_Reserve_free)]) (Ob.pE (eC (.int 0)))))
def F_Goal_free : Ob.Fn := Ob.fnO 1 b_Goal_free
def lc_Plan___init___0 : Ob.F (List Ob.D) := (Ob.lLc (Ob.iT (Ob.eVar 1)) (Ob.gSet 3) Ob.pYes (Ob.eIsC [("Envelope", true), ("Goal", true), ("Reserve", true), ("GoalReserve", true), ("Plan", false)] (Ob.eVar 3)) [3])
def lc_Plan___init___1 : Ob.F (List Ob.D) := (Ob.lLc (Ob.iT (Ob.eVar 1)) (Ob.gSet 3) Ob.pYes (Ob.eProp [("Envelope", F_Envelope_name), ("Goal", F_Envelope_name), ("Reserve", F_Envelope_name), ("GoalReserve", F_Envelope_name)] (Ob.eVar 3)) [3])
def b_Plan___init__ : Ob.FS := (Ob.sSeq (Ob.sIf (Ob.tOrF (Ob.tNotF (Ob.asB (Ob.eChain fLe fLe (Ob.pE (eC (.int 1))) (Ob.eLenD (Ob.eVar 1)) (Ob.pE (eC (.int 6)))))) (Ob.tNotF (Ob.asB (Ob.eCall fAll (Ob.aCons (Ob.eL lc_Plan___init___0) Ob.aNil))))) (Ob.sRaise "InvalidEnvelopes") Ob.sNext)
    (Ob.sSeq (Ob.sOwn 2 lc_Plan___init___1) (Ob.sFrz 2 (Ob.sSeq (Ob.sIf (Ob.asB (Ob.e2 fLt (Ob.eLenSetS (Ob.pE (eVar 2))) (Ob.pE (eCall fLen (aCons (eVar 2) aNil))))) (Ob.sRaise "InvalidEnvelopes") Ob.sNext)
    (Ob.sSeq (Ob.sFld ["Plan"] "row" (Ob.eL (Ob.lListD (Ob.eVar 1))) (Ob.eVar 0))
    (Ob.sFld ["Plan"] "gone" (Ob.pE (eC (.int 0))) (Ob.eVar 0)))))))
def F_Plan___init__ : Ob.Fn := Ob.fnStar 4 b_Plan___init__
def lc_Plan_levels_0 : Ob.F (List Ob.D) := (Ob.lLc (Ob.iL (Ob.eFld ["Plan"] "row" (Ob.eVar 0))) (Ob.gSet 1) Ob.pYes (Ob.eProp [("Envelope", F_Envelope_level), ("Goal", F_Envelope_level), ("Reserve", F_Envelope_level), ("GoalReserve", F_Envelope_level)] (Ob.eVar 1)) [1])
def b_Plan_levels : Ob.FS := (Ob.sRet (Ob.eCall fTuple (Ob.aCons (Ob.eL lc_Plan_levels_0) Ob.aNil)))
def F_Plan_levels : Ob.Fn := Ob.fnO 2 b_Plan_levels
def lp_Plan_envelope_0 : Ob.FS := (Ob.sIf (Ob.tAndF (Ob.pT (asB (eIsI "str" (eVar 1)))) (Ob.asB (Ob.e2 fEq (Ob.eProp [("Envelope", F_Envelope_name), ("Goal", F_Envelope_name), ("Reserve", F_Envelope_name), ("GoalReserve", F_Envelope_name)] (Ob.eVar 2)) (Ob.pE (eVar 1))))) (Ob.sRet (Ob.eVar 2)) Ob.sNext)
def b_Plan_envelope : Ob.FS := (Ob.sSeq (Ob.sFor (Ob.iL (Ob.eFld ["Plan"] "row" (Ob.eVar 0))) (Ob.gSet 2) lp_Plan_envelope_0)
    (Ob.sRaise "UnknownEnvelope"))
def F_Plan_envelope : Ob.Fn := Ob.fnO 3 b_Plan_envelope
def lp_first_amount_0 : FS := (sSeq (sSet 9 (e2 fDiv (e2 fAdd (eVar 7) (eVar 8)) (eC (.int 2))))
    (sIf (asB (e2 fEq (e2 fIx (eCallF F_judged (aCons (eVar 0) (aCons (eVar 1) (aCons (eVar 2) (aCons (eVar 3) (aCons (eVar 4) (aCons (eVar 9) aNil))))))) (eVar 5)) (eVar 6))) (sSet 8 (eVar 9)) (sSet 7 (e2 fAdd (eVar 9) (eC (.int 1))))))
def b_first_amount : FS := (sSeq (sPar 7 8 (aCons (eC (.int 0)) (aCons (e2 fAdd (eCallF F_largest_amount (aCons (eVar 0) (aCons (eVar 2) (aCons (eVar 3) aNil)))) (eC (.int 1))) aNil)))
    (sSeq (whileD (asB (e2 fLt (eVar 7) (eVar 8))) lp_first_amount_0 64)
    (sRet (eVar 7))))
def F_first_amount : List PyData → Option Sl := fnD 10 b_first_amount
def b_Goal___init__ : Ob.Mr → Ob.FS := fun mr => match mr with
  | .no => (Ob.sSeq (Ob.sDrop (Ob.eSupK [("Goal", F_Envelope___init__)] 3 .no (Ob.pL (aCons (eVar 1) (aCons (eVar 2) (aCons (eVar 3) aNil)))))) (Ob.sFld ["Envelope", "Goal", "Reserve", "GoalReserve"] "done" (Ob.pE (e2 fEq (eVar 3) (eVar 2))) (Ob.eVar 0)))
  | .fl p => (Ob.sSeq (Ob.sDrop (Ob.eSupK [("GoalReserve", F_Reserve___init__)] 3 (.fl p) (Ob.pL (aCons (eVar 1) (aCons (eVar 2) (aCons (eVar 3) aNil)))))) (Ob.sFld ["Envelope", "Goal", "Reserve", "GoalReserve"] "done" (Ob.pE (e2 fEq (eVar 3) (eVar 2))) (Ob.eVar 0)))
def F_Goal___init___0 : Ob.Fn := Ob.fnO 5 (b_Goal___init__ .no)
def F_Goal___init___K : Ob.Fn := Ob.fnK b_Goal___init__
def b_Goal_put : Ob.FS := (Ob.sSeq (Ob.sSet 2 (Ob.eSup [("Goal", F_Envelope_put), ("GoalReserve", F_Envelope_put)] 1 (Ob.pL (aCons (eVar 1) aNil))))
    (Ob.sSeq (Ob.sIf (Ob.asB (Ob.e2 fEq (Ob.eFld ["Envelope", "Goal", "Reserve", "GoalReserve"] "held" (Ob.eVar 0)) (Ob.eFld ["Envelope", "Goal", "Reserve", "GoalReserve"] "limit" (Ob.eVar 0)))) (Ob.sFld ["Envelope", "Goal", "Reserve", "GoalReserve"] "done" (Ob.pE (eC (.bool true))) (Ob.eVar 0)) Ob.sNext)
    (Ob.sRet (Ob.pE (eVar 2)))))
def F_Goal_put : Ob.Fn := Ob.fnO 3 b_Goal_put
def b_Envelope_take : Ob.FS := (Ob.sSeq (Ob.sDrop (Ob.eG F_check_amount 1 (Ob.pL (aCons (eVar 1) aNil))))
    (Ob.sSeq (Ob.sIf (Ob.asB (Ob.e2 fGt (Ob.pE (eVar 1)) (Ob.eMeth0 [("Envelope", F_Envelope_free), ("Goal", F_Goal_free), ("Reserve", F_Reserve_free), ("GoalReserve", F_Goal_free)] "free" (Ob.eVar 0)))) (Ob.sRaise "NotEnough") Ob.sNext)
    (Ob.sFldAug ["Envelope", "Goal", "Reserve", "GoalReserve"] "held" (fun i j => i - j) (Ob.eVar 0) (Ob.pE (eVar 1)))))
def F_Envelope_take : Ob.Fn := Ob.fnO 2 b_Envelope_take
def lp_Plan_spend_0 : Ob.FS := (Ob.sSeq (Ob.sSet 3 (Ob.eMeth [("Plan", F_Plan_envelope)] "envelope" 1 (Ob.eVar 0) (Ob.pL (aCons (eVar 2) aNil))))
    (Ob.sSeq (Ob.sDrop (Ob.eG F_check_amount 1 (Ob.aCons (Ob.eDGet (Ob.eVar 1) (Ob.pE (eVar 2))) Ob.aNil)))
    (Ob.sIf (Ob.asB (Ob.e2 fGt (Ob.eDGet (Ob.eVar 1) (Ob.pE (eVar 2))) (Ob.eMeth0 [("Envelope", F_Envelope_free), ("Goal", F_Goal_free), ("Reserve", F_Reserve_free), ("GoalReserve", F_Goal_free)] "free" (Ob.eVar 3)))) (Ob.sRaise "NotEnough") Ob.sNext)))
def b_Plan_spend : Ob.FS := (Ob.sSeq (Ob.sFor (Ob.iL (Ob.eSortD (Ob.eVar 1))) (Ob.gSet 2) lp_Plan_spend_0)
    (fun _ _ => none))
def F_Plan_spend : Ob.Fn := Ob.fnKw2 4 b_Plan_spend
def b_fitting_amounts : FS := (sSeq (sSet 5 (eCall fIntB (aCons (e2 fEq (e2 fIx (e2 fIx (eVar 2) (eVar 3)) (eC (.int 0))) (eC (.str "pour"))) aNil)))
    (sSeq (sSet 6 (eCallF F_first_amount (aCons (eVar 0) (aCons (eVar 1) (aCons (eVar 2) (aCons (eVar 3) (aCons (eVar 4) (aCons (e2 fSub (eC (.int 1)) (eVar 5)) (aCons (eC (.bool true)) aNil)))))))))
    (sSeq (sSet 7 (e2 fSub (eCallF F_first_amount (aCons (eVar 0) (aCons (eVar 1) (aCons (eVar 2) (aCons (eVar 3) (aCons (eVar 4) (aCons (eVar 5) (aCons (eC (.bool false)) aNil)))))))) (eC (.int 1))))
    (sRet (eIf (asB (e2 fLe (eVar 6) (eVar 7))) (eTup (aCons (eVar 6) (aCons (eVar 7) aNil))) (eC .none))))))
def F_fitting_amounts : List PyData → Option Sl := fnD 8 b_fitting_amounts
def lp_Plan_pour_0 : Ob.FS := (Ob.sDrop (Ob.eG F_check_amount 1 (Ob.pL (aCons (eVar 2) aNil))))
def lp_Plan_pour_1 : Ob.FS := (Ob.sSet 2 (Ob.eMeth [("Envelope", F_Envelope_put), ("Goal", F_Goal_put), ("Reserve", F_Envelope_put), ("GoalReserve", F_Goal_put)] "put" 1 (Ob.eVar 4) (Ob.pL (aCons (eVar 2) aNil))))
def lp_Plan_pour_2 : Ob.FS := (Ob.sSeq (Ob.sFor (Ob.iL (Ob.eFld ["Plan"] "row" (Ob.eVar 0))) (Ob.gSet 4) lp_Plan_pour_1)
    (Ob.sFldAug ["Plan"] "gone" (fun i j => i + j) (Ob.eVar 0) (Ob.pE (eVar 2))))
def b_Plan_pour : Ob.FS := (Ob.sSeq (Ob.sFor (Ob.pL (iT (eVar 1))) (Ob.gSet 2) lp_Plan_pour_0)
    (Ob.sSeq (Ob.sSet 3 (Ob.eFld ["Plan"] "gone" (Ob.eVar 0)))
    (Ob.sSeq (Ob.sFor (Ob.pL (iT (eVar 1))) (Ob.gSet 2) lp_Plan_pour_2)
    (Ob.sRet (Ob.e2 fSub (Ob.eFld ["Plan"] "gone" (Ob.eVar 0)) (Ob.pE (eVar 3)))))))
def F_Plan_pour : Ob.Fn := Ob.fnStar 5 b_Plan_pour
def b__law_rows_right : FS := (sSeq (sPar 1 2 (aCons (eTup (aCons (e2 fMul (eC (.int 5)) (eVar 0)) (aCons (e2 fMul (eC (.int 9)) (eVar 0)) aNil))) (aCons (eTup (aCons (eVar 0) (aCons (eC (.int 0)) aNil))) aNil)))
    (sSeq (sIf (asB (e2 fNe (eCallF F_run (aCons (eVar 1) (aCons (eTup (aCons (eC (.int 0)) (aCons (eC (.int 0)) aNil))) (aCons (eTup (aCons (eTup (aCons (eC (.str "pour")) (aCons (e2 fMul (eC (.int 7)) (eVar 0)) aNil))) (aCons (eTup (aCons (eC (.str "spend")) (aCons (eC (.int 1)) (aCons (e2 fMul (eC (.int 2)) (eVar 0)) aNil)))) (aCons (eTup (aCons (eC (.str "pour")) (aCons (e2 fMul (eC (.int 20)) (eVar 0)) aNil))) aNil)))) aNil)))) (eTup (aCons (eVar 1) (aCons (e2 fMul (eC (.int 11)) (eVar 0)) aNil))))) (sRet (eC (.bool false))) sNext)
    (sSeq (sIf (asB (e2 fNe (eL (lCallF F_prefix_effects (aCons (eVar 1) (aCons (eTup (aCons (eTup (aCons (eC (.str "pour")) (aCons (e2 fMul (eC (.int 7)) (eVar 0)) aNil))) (aCons (eTup (aCons (eC (.str "spend")) (aCons (eC (.int 1)) (aCons (e2 fMul (eC (.int 2)) (eVar 0)) aNil)))) aNil))) aNil)))) (eL (lLst (aCons (eTup (aCons (e2 fMul (eC (.int 7)) (eVar 0)) (aCons (e2 fMul (eC (.int 5)) (eVar 0)) aNil))) (aCons (eTup (aCons (e2 fMul (eC (.int 5)) (eVar 0)) (aCons (e2 fMul (eC (.int 12)) (eVar 0)) aNil))) aNil)))))) (sRet (eC (.bool false))) sNext)
    (sSeq (sIf (asB (e2 fIsNot (eCallF F_commute (aCons (eVar 1) (aCons (eTup (aCons (eC (.str "pour")) (aCons (e2 fMul (eC (.int 3)) (eVar 0)) aNil))) (aCons (eTup (aCons (eC (.str "spend")) (aCons (eC (.int 1)) (aCons (e2 fMul (eC (.int 2)) (eVar 0)) aNil)))) aNil)))) (eC (.bool false)))) (sRet (eC (.bool false))) sNext)
    (sSeq (sIf (asB (e2 fNe (eCallF F_least_pour (aCons (eVar 1) (aCons (eVar 2) (aCons (eTup (aCons (eTup (aCons (eC (.str "spend")) (aCons (eC (.int 1)) (aCons (e2 fMul (eC (.int 4)) (eVar 0)) aNil)))) aNil)) aNil)))) (e2 fMul (eC (.int 8)) (eVar 0)))) (sRet (eC (.bool false))) sNext)
    (sSeq (sIf (asB (e2 fNe (eCallF F_largest_spending (aCons (eVar 1) (aCons (eTup (aCons (e2 fMul (eC (.int 5)) (eVar 0)) (aCons (e2 fMul (eC (.int 3)) (eVar 0)) aNil))) (aCons (eTup (aCons (eTup (aCons (eC (.str "pour")) (aCons (e2 fMul (eC (.int 2)) (eVar 0)) aNil))) (aCons (eTup (aCons (eC (.str "spend")) (aCons (eC (.int 1)) (aCons (e2 fMul (eC (.int 4)) (eVar 0)) aNil)))) aNil))) (aCons (eC (.int 0)) aNil))))) (eVar 0))) (sRet (eC (.bool false))) sNext)
    (sSeq (sIf (asB (e2 fNe (eCallF F_fitting_amounts (aCons (eVar 1) (aCons (eVar 2) (aCons (eTup (aCons (eTup (aCons (eC (.str "pour")) (aCons (eC (.int 0)) aNil))) aNil)) (aCons (eC (.int 0)) (aCons (eVar 1) aNil)))))) (eTup (aCons (e2 fMul (eC (.int 13)) (eVar 0)) (aCons (e2 fPow (eC (.int 10)) (eC (.int 9))) aNil))))) (sRet (eC (.bool false))) sNext)
    (sSeq (sIf (asB (e2 fNe (eCallF F_fitting_amounts (aCons (eVar 1) (aCons (eVar 2) (aCons (eTup (aCons (eTup (aCons (eC (.str "pour")) (aCons (eC (.int 0)) aNil))) aNil)) (aCons (eC (.int 0)) (aCons (eTup (aCons (e2 fMul (eC (.int 5)) (eVar 0)) (aCons (e2 fMul (eC (.int 2)) (eVar 0)) aNil))) aNil)))))) (eTup (aCons (e2 fMul (eC (.int 6)) (eVar 0)) (aCons (e2 fMul (eC (.int 6)) (eVar 0)) aNil))))) (sRet (eC (.bool false))) sNext)
    (sSeq (sIf (asB (e2 fNe (eCallF F_fewest_steps (aCons (eVar 1) (aCons (eVar 2) (aCons (eTup (aCons (e2 fMul (eC (.int 2)) (eVar 0)) (aCons (e2 fMul (eC (.int 4)) (eVar 0)) aNil))) aNil)))) (eC (.int 2)))) (sRet (eC (.bool false))) sNext)
    (sRet (e2 fEq (eCallF F_shortest_script (aCons (eVar 1) (aCons (eVar 2) (aCons (eTup (aCons (e2 fMul (eC (.int 5)) (eVar 0)) (aCons (e2 fMul (eC (.int 2)) (eVar 0)) aNil))) aNil)))) (eTup (aCons (eTup (aCons (eC (.str "pour")) (aCons (e2 fMul (eC (.int 6)) (eVar 0)) aNil))) aNil)))))))))))))
def F__law_rows_right : List PyData → Option Sl := fnD 3 b__law_rows_right
def b_Envelope_read : Ob.FS := (Ob.sSeq (Ob.sIf (Ob.pT (tOrF (tNotF (asB (eIsI "str" (eVar 1)))) (tOrF (asB (e2 fNe (e2 fCount (eVar 1) (eC (.str ":"))) (eC (.int 1)))) (asB (e2 fGt (e2 fCount (eVar 1) (eC (.str "/"))) (eC (.int 1))))))) (Ob.sRaise "InvalidText") Ob.sNext)
    (Ob.sSeq (Ob.sAsg (Ob.pE (eL (lSplit (eVar 1) (eC (.str ":"))))) (Ob.gLst 2 (Ob.gsCons (Ob.gSet 3) (Ob.gsCons (Ob.gSet 4) Ob.gsNil))))
    (Ob.sSeq (Ob.sSet 2 (Ob.pE (eL (lSplit (eVar 4) (eC (.str "/"))))))
    (Ob.sSeq (Ob.sIf (Ob.pT (tOrF (tNotF (asB (eCallF F_Envelope_is_name (aCons (eVar 3) aNil)))) (tNotF (asB (eCall fAll (aCons (eL (lLc (iL (eVar 2)) (gSet 7) pYes (eCallF F_is_number_text (aCons (eVar 7) aNil)) [7])) aNil)))))) (Ob.sRaise "InvalidText") Ob.sNext)
    (Ob.sSeq (Ob.sPar 5 6 (Ob.pL (aCons (eCall fIntT (aCons (e2 fIx (eVar 2) (e1 fNeg (eC (.int 1)))) aNil)) (aCons (eIf (asB (e2 fEq (eCall fLen (aCons (eVar 2) aNil)) (eC (.int 2)))) (eCall fIntT (aCons (e2 fIx (eVar 2) (eC (.int 0))) aNil)) (eC (.int 0))) aNil))))
    (Ob.sSeq (Ob.sIf (Ob.pT (tOrF (tNotF (asB (eChain fLe fLe (eC (.int 1)) (eVar 5) (eC (.int 1000000))))) (asB (e2 fGt (eVar 6) (eVar 5))))) (Ob.sRaise "InvalidText") Ob.sNext)
    (Ob.sRet (Ob.eMakeV [("Envelope", F_Envelope___init__), ("Goal", F_Goal___init___0)] 0 3 (Ob.pL (aCons (eVar 3) (aCons (eVar 5) (aCons (eVar 6) aNil))))))))))))
def F_Envelope_read : Ob.Fn := Ob.fnO 8 b_Envelope_read
def lc_Plan_read_0 : Ob.F (List Ob.D) := (Ob.lLc (Ob.pL (iL (eL (lSplit (eVar 1) (eC (.str ", ")))))) (Ob.gSet 4) Ob.pYes (Ob.eCM F_Envelope_read "Envelope" 1 (Ob.pL (aCons (eVar 4) aNil))) [4])
def lc_Plan_read_1 : Ob.F (List Ob.D) := (Ob.lLc (Ob.iL (Ob.eVar 2)) (Ob.gSet 5) Ob.pYes (Ob.eProp [("Envelope", F_Envelope_name), ("Goal", F_Envelope_name), ("Reserve", F_Envelope_name), ("GoalReserve", F_Envelope_name)] (Ob.eVar 5)) [5])
def b_Plan_read : Ob.FS := (Ob.sSeq (Ob.sIf (Ob.pT (tNotF (asB (eIsI "str" (eVar 1))))) (Ob.sRaise "InvalidText") Ob.sNext)
    (Ob.sSeq (Ob.sOwn 2 lc_Plan_read_0) (Ob.sFrz 2 (Ob.sSeq (Ob.sOwn 3 lc_Plan_read_1) (Ob.sFrz 3 (Ob.sSeq (Ob.sIf (Ob.tOrF (Ob.asB (Ob.e2 fGt (Ob.eLenD (Ob.eVar 2)) (Ob.pE (eC (.int 6))))) (Ob.asB (Ob.e2 fLt (Ob.eLenSetS (Ob.pE (eVar 3))) (Ob.pE (eCall fLen (aCons (eVar 3) aNil)))))) (Ob.sRaise "InvalidText") Ob.sNext)
    (Ob.sRet (Ob.eMakeVS "Plan" F_Plan___init__ 0 (Ob.eVar 2)))))))))
def F_Plan_read : Ob.Fn := Ob.fnO 6 b_Plan_read
def q__law_envelopes_right_0 : Ob.FS := (Ob.sIf (Ob.tOrF (Ob.asB (Ob.e2 fNe (Ob.eMeth [("Envelope", F_Envelope_put), ("Goal", F_Goal_put), ("Reserve", F_Envelope_put), ("GoalReserve", F_Goal_put)] "put" 1 (Ob.eMake F_Envelope___init__ "Envelope" 3 (Ob.pL (aCons (eC (.str "food")) (aCons (eC (.int 50)) (aCons (eC (.int 20)) aNil))))) (Ob.pL (aCons (eC (.int 45)) aNil))) (Ob.pE (eC (.int 15))))) (Ob.asB (Ob.e2 fNe (Ob.eMeth0 [("Envelope", F_Envelope_text), ("Goal", F_Envelope_text), ("Reserve", F_Envelope_text), ("GoalReserve", F_Envelope_text)] "text" (Ob.eCM F_Envelope_read "Envelope" 1 (Ob.pL (aCons (eC (.str "food:50")) aNil)))) (Ob.pE (eC (.str "food:0/50")))))) (Ob.sRet (Ob.pE (eC (.bool false)))) Ob.sNext)
def q__law_envelopes_right_1 : Ob.FS := (Ob.sIf (Ob.asB (Ob.e2 fIsNot (Ob.eProp [("Goal", F_Goal_reached), ("GoalReserve", F_Goal_reached)] (Ob.eCM F_Envelope_read "Goal" 1 (Ob.pL (aCons (eC (.str "trip:90/90")) aNil)))) (Ob.pE (eC (.bool true))))) (Ob.sRet (Ob.pE (eC (.bool false)))) Ob.sNext)
def q__law_envelopes_right_2 : Ob.FS := (Ob.sDrop (Ob.eMeth [("Envelope", F_Envelope_take), ("Goal", F_Envelope_take), ("Reserve", F_Envelope_take), ("GoalReserve", F_Envelope_take)] "take" 1 (Ob.eMake F_Goal___init___0 "Goal" 3 (Ob.pL (aCons (eC (.str "trip")) (aCons (eC (.int 90)) (aCons (eC (.int 80)) aNil))))) (Ob.pL (aCons (eC (.int 5)) aNil))))
def q__law_envelopes_right_3 : Ob.FS := (Ob.sIf (Ob.tOrF (Ob.asB (Ob.e2 fNe (Ob.eMeth0 [("Envelope", F_Envelope_free), ("Goal", F_Goal_free), ("Reserve", F_Reserve_free), ("GoalReserve", F_Goal_free)] "free" (Ob.eMakeK F_Reserve___init__ "Reserve" 3 1 (Ob.pL (aCons (eC (.str "rent")) (aCons (eC (.int 90)) (aCons (eC (.int 50)) aNil)))) (Ob.aCons (Ob.pE (eC (.int 20))) Ob.aNil))) (Ob.pE (eC (.int 30))))) (Ob.asB (Ob.e2 fNe (Ob.eMeth0 [("Envelope", F_Envelope_free), ("Goal", F_Goal_free), ("Reserve", F_Reserve_free), ("GoalReserve", F_Goal_free)] "free" (Ob.eMakeK F_Goal___init___K "GoalReserve" 3 1 (Ob.pL (aCons (eC (.str "car")) (aCons (eC (.int 90)) (aCons (eC (.int 50)) aNil)))) (Ob.aCons (Ob.pE (eC (.int 20))) Ob.aNil))) (Ob.pE (eC (.int 0)))))) (Ob.sRet (Ob.pE (eC (.bool false)))) Ob.sNext)
def q__law_envelopes_right_4 : Ob.FS := (Ob.sIf (Ob.tOrF (Ob.asB (Ob.e2 fNe (Ob.eMeth [("Plan", F_Plan_pour)] "pour" 3 (Ob.eVar 0) (Ob.pL (aCons (eC (.int 60)) (aCons (eC (.int 10)) (aCons (eC (.int 9)) aNil))))) (Ob.pE (eC (.int 4))))) (Ob.tOrF (Ob.asB (Ob.e2 fNe (Ob.eProp [("Plan", F_Plan_levels)] (Ob.eVar 0)) (Ob.pE (eTup (aCons (eC (.int 50)) (aCons (eC (.int 30)) aNil)))))) (Ob.asB (Ob.e2 fNe (Ob.eProp [("Plan", F_Plan_lost)] (Ob.eVar 0)) (Ob.pE (eC (.int 4))))))) (Ob.sRet (Ob.pE (eC (.bool false)))) Ob.sNext)
def q__law_envelopes_right_5 : Ob.FS := (Ob.sTry ["NotEnough"] (Ob.sSeq (Ob.sDrop (Ob.eMeth [("Plan", F_Plan_spend)] "spend" 2 (Ob.eVar 0) (Ob.aCons (Ob.pE (eC (.int 10))) (Ob.aCons (Ob.pE (eC (.int 6))) Ob.aNil))))
    (Ob.sRet (Ob.pE (eC (.bool false))))) (Ob.sRet (Ob.e2 fEq (Ob.eProp [("Plan", F_Plan_levels)] (Ob.eVar 0)) (Ob.pE (eTup (aCons (eC (.int 40)) (aCons (eC (.int 5)) aNil)))))))
def b__law_envelopes_right : Ob.FS := (Ob.sSeq q__law_envelopes_right_0
    (Ob.sSeq q__law_envelopes_right_1
    (Ob.sSeq (Ob.sTry ["NotEnough"] (Ob.sSeq q__law_envelopes_right_2
    (Ob.sRet (Ob.pE (eC (.bool false))))) Ob.sNext)
    (Ob.sSeq q__law_envelopes_right_3
    (Ob.sSeq (Ob.sSet 0 (Ob.eCM F_Plan_read "Plan" 1 (Ob.pL (aCons (eC (.str "rent:50, food:5/30")) aNil))))
    (Ob.sSeq q__law_envelopes_right_4
    (Ob.sSeq (Ob.sSet 0 (Ob.eCM F_Plan_read "Plan" 1 (Ob.pL (aCons (eC (.str "rent:40/50, food:5/30")) aNil))))
    q__law_envelopes_right_5)))))))
def F__law_envelopes_right : Ob.Fn := Ob.fnO 1 b__law_envelopes_right
def q_law_0 : Ob.FS := (Ob.sIf (Ob.pT (asB (e2 fIsNot (eCallF F_same_results (aCons (eTup (aCons (eC (.int 2)) (aCons (eC (.int 3)) aNil))) (aCons (eTup (aCons (eTup (aCons (eC (.str "pour")) (aCons (eC (.int 1)) aNil))) (aCons (eTup (aCons (eC (.str "pour")) (aCons (eC (.int 1)) aNil))) aNil))) (aCons (eTup (aCons (eTup (aCons (eC (.str "pour")) (aCons (eC (.int 2)) aNil))) aNil)) aNil)))) (eC (.bool true))))) (Ob.sRet (Ob.pE (eC (.bool false)))) Ob.sNext)
def q_law_1 : Ob.FS := (Ob.sIf (Ob.pT (asB (e2 fNe (eL (lCallF F_least_starts (aCons (eTup (aCons (eC (.int 2)) (aCons (eC (.int 3)) aNil))) (aCons (eTup (aCons (eTup (aCons (eC (.str "pour")) (aCons (eC (.int 1)) aNil))) (aCons (eTup (aCons (eC (.str "spend")) (aCons (eC (.int 1)) (aCons (eC (.int 2)) aNil)))) aNil))) aNil)))) (eL (lLst (aCons (eTup (aCons (eC (.int 0)) (aCons (eC (.int 2)) aNil))) (aCons (eTup (aCons (eC (.int 2)) (aCons (eC (.int 1)) aNil))) aNil))))))) (Ob.sRet (Ob.pE (eC (.bool false)))) Ob.sNext)
def q_law_2 : Ob.FS := (Ob.sRet (Ob.eAnd (fun _ st => Ob.goE F__law_envelopes_right [] st) (Ob.eAnd (Ob.pE (eCallF F__law_rows_right (aCons (eC (.int 1)) aNil))) (Ob.pE (eCallF F__law_rows_right (aCons (e2 fAdd (eC (.int 1)) (e2 fIx (eVar 1) (eC (.int 0)))) aNil))))))
def b_law : Ob.FS := (Ob.sSeq (Ob.sSet 1 (Ob.pE (eL (lCallF F__law_digits (aCons (eVar 0) (aCons (eC (.int 0)) (aCons (eC (.int 4)) (aCons (eC (.int 1000)) aNil))))))))
    (Ob.sSeq q_law_0
    (Ob.sSeq q_law_1
    q_law_2)))
def F_law : Ob.Fn := Ob.fnO 2 b_law
end Lw
namespace Lw
open PySem L2 Fi
/-! ### evaluation -/
theorem forD_step {g : PyData → En → Option En} {fb : FS} {d : PyData} {ds : List PyData} {env e1 e2 : En} {o : Option Out} (hg : g d env = some e1) (hb : fb e1 = some (.next e2)) (h : forD g fb ds e2 = o) : forD g fb (d :: ds) env = o := by
  simp only [forD, hg, hb, Option.bind_some, h]
theorem forD_ret {g : PyData → En → Option En} {fb : FS} {d v : PyData} {ds : List PyData} {env e1 : En} (hg : g d env = some e1) (hb : fb e1 = some (.ret v)) : forD g fb (d :: ds) env = some (.ret v) := by
  simp only [forD, hg, hb, Option.bind_some]
/-- a loop by an invariant -/
theorem forD_inv {g : PyData → En → Option En} {fb : FS} (P : Nat → En → Prop) : ∀ (ds : List PyData) (k : Nat) (env : En), P k env →
    (∀ (i : Nat) (d : PyData) (e : En), ds[i]? = some d → P (k + i) e → ∃ e1 e2, g d e = some e1 ∧ fb e1 = some (.next e2) ∧ P (k + i + 1) e2) → ∃ e, forD g fb ds env = some (.next e) ∧ P (k + ds.length) e
  | [], k, env, h, _ => ⟨env, rfl, h⟩
  | d :: ds, k, env, h, hs => by
    obtain ⟨e1, e2, h1, h2, h3⟩ := hs 0 d env rfl h
    obtain ⟨e, q1, q2⟩ := forD_inv P ds (k + 1) e2 h3 fun i d' e hd hp => by
      have e0 : k + 1 + i = k + (i + 1) := by omega
      rw [e0] at hp ⊢
      exact hs (i + 1) d' e (by simpa using hd) hp
    refine ⟨e, forD_step h1 h2 q1, ?_⟩
    have e0 : k + (d :: ds).length = k + 1 + ds.length := by rw [List.length_cons]; omega
    rw [e0]
    exact q2
theorem fn_ret {n : Nat} {b : FS} {ds : List PyData} {d : PyData} (h : b (entry n ds) = some (.ret d)) : fnD n b ds = some (.val d) := by
  simp only [fnD, h]
theorem fn_retL {n : Nat} {b : FS} {ds l : List PyData} (h : b (entry n ds) = some (.retL l)) : fnD n b ds = some (.own l) := by
  simp only [fnD, h]
theorem fAdd_int (a b : Int) : fAdd (.int a) (.int b) = some (.int (a + b)) := rfl
theorem fAdd_tup {a b : List PyData} (h : a.length + b.length ≤ 100000) : fAdd (.tuple a) (.tuple b) = some (.tuple (a ++ b)) := by
  simp only [fAdd, if_pos h]
theorem fMul_l {a b : Int} (h1 : -18446744073709551616 < a) (h2 : a < 18446744073709551616) : fMul (.int a) (.int b) = some (.int (a * b)) := by
  show (if _ then _ else _) = _
  exact if_pos (.inl ⟨h1, h2⟩)
theorem fMul_r {a b : Int} (h1 : -18446744073709551616 < b) (h2 : b < 18446744073709551616) : fMul (.int a) (.int b) = some (.int (a * b)) := by
  show (if _ then _ else _) = _
  exact if_pos (.inr ⟨h1, h2⟩)
theorem fDiv_ok {a b : Int} (h1 : 0 < b) (h2 : b < 1073741824) : fDiv (.int a) (.int b) = some (.int (a / b)) := by
  show (if _ then _ else _) = _
  exact if_pos ⟨h1, h2⟩
theorem fMod_ok {a b : Int} (h1 : 0 < b) : fMod (.int a) (.int b) = some (.int (a % b)) := by
  show (if _ then _ else _) = _
  exact if_pos h1
theorem fPow_ok {a b : Int} (h1 : 0 ≤ b) (h2 : b ≤ 1000000) (h3 : a.natAbs < 18446744073709551616) : fPow (.int a) (.int b) = some (.int (a ^ b.toNat)) := by
  show (if _ then _ else _) = _
  exact if_pos ⟨h1, h2, h3⟩
theorem fEq_int (a b : Int) : fEq (.int a) (.int b) = some (.bool (decide (a = b))) := rfl
theorem fEq_str (a b : Str) : fEq (.str a) (.str b) = some (.bool (decide (a = b))) := rfl
theorem fEq_bool (a b : Bool) : fEq (.bool a) (.bool b) = some (.bool (decide (a = b))) := rfl
theorem fNe_int (a b : Int) : fNe (.int a) (.int b) = some (.bool (!decide (a = b))) := rfl
theorem fNe_str (a b : Str) : fNe (.str a) (.str b) = some (.bool (!decide (a = b))) := rfl
theorem fNe_bool (a b : Bool) : fNe (.bool a) (.bool b) = some (.bool (!decide (a = b))) := rfl
theorem eqv_self {d : PyData} (h : SeqAt.shaped d = true) : PyData.eqv d d = true := SeqAt.eqv_refl d (SeqAt.canLay_of_shaped h)
theorem fNe_self {d : PyData} (h : SeqAt.shaped d = true) : fNe d d = some (.bool false) := by
  have e := eqv_self h
  cases d <;> simp_all [fNe]
theorem fEq_self {d : PyData} (h : SeqAt.shaped d = true) : fEq d d = some (.bool true) := by
  have e := eqv_self h
  cases d <;> simp_all [fEq]
theorem at_0 {x : PyData} {l : List PyData} : atI (x :: l) 0 = some x := atI_nat (j := 0) rfl
theorem at_1 {x y : PyData} {l : List PyData} : atI (x :: y :: l) 1 = some y := atI_nat (j := 1) rfl
theorem at_2 {x y z : PyData} {l : List PyData} : atI (x :: y :: z :: l) 2 = some z := atI_nat (j := 2) rfl
theorem at_get {l : List Int} {k : Nat} (h : k < l.length) : atI (l.map PyData.int) (k : Int) = some (.int (l.getD k 0)) := by
  refine atI_nat ?_
  rw [List.getElem?_map, List.getElem?_eq_getElem h, List.getD_eq_getElem?_getD, List.getElem?_eq_getElem h]
  rfl
theorem at_getZ {l : List Int} {z : Int} (h0 : 0 ≤ z) (h : z < l.length) : atI (l.map PyData.int) z = some (.int (l.getD z.toNat 0)) := by
  obtain ⟨k, rfl⟩ : ∃ k : Nat, z = k := ⟨z.toNat, by omega⟩
  rw [at_get (by omega), Int.toNat_natCast]
theorem ixN_nat {n k : Nat} (h : k < n) : ixN n (k : Int) = some k := by
  unfold ixN
  rw [if_pos (by omega), if_pos (by omega), Int.toNat_natCast]
theorem cut_to {l : List PyData} {b : Nat} : cutD l none (some (b : Int)) = l.take b := by
  unfold cutD
  rw [HT.sIx_none, HT.sIx_nat, List.drop_zero, Nat.sub_zero]
  by_cases h : b ≤ l.length
  · rw [Nat.min_eq_left h]
  · rw [Nat.min_eq_right (by omega), List.take_length, List.take_of_length_le (by omega)]
theorem cut_from {l : List PyData} {a : Nat} : cutD l (some (a : Int)) none = l.drop a := by
  unfold cutD
  rw [HT.sIx_none, HT.sIx_nat]
  by_cases h : a ≤ l.length
  · rw [Nat.min_eq_left h, List.take_of_length_le (by rw [List.length_drop]; exact Nat.le_refl _)]
  · rw [Nat.min_eq_right (by omega), List.drop_of_length_le (Nat.le_refl _), List.drop_of_length_le (by omega), List.take_nil]
/-! ### rows -/
inductive Step where
  | pour (a : Int)
  | spend (i : Nat) (a : Int)
abbrev eT (l : List Int) : PyData := .tuple (l.map .int)
abbrev eStep (s : Step) : PyData := match s with
  | .pour a => .tuple [.str "pour", .int a]
  | .spend i a => .tuple [.str "spend", .int (i : Int), .int a]
abbrev eS (s : List Step) : PyData := .tuple (s.map eStep)
def eR : Option (List Int × Int) → PyData
  | none => .none
  | some r => .tuple [eT r.1, .int r.2]
theorem pour_spend : (("pour" : Str) = "spend") = False := by
  have : ¬ (("pour" : Str) = "spend") := by decide +kernel
  simp [this]
theorem spend_pour : (("spend" : Str) = "pour") = False := by
  have : ¬ (("spend" : Str) = "pour") := by decide +kernel
  simp [this]
def pourM : List Int → List Int → Int → List Int × Int
  | c :: cs, l :: ls, a => ((l + min a (c - l)) :: (pourM cs ls (a - min a (c - l))).1, (pourM cs ls (a - min a (c - l))).2)
  | _, _, a => ([], a)
def stepM (caps lv : List Int) : Step → Option (List Int × Int)
  | .pour a => some (pourM caps lv a)
  | .spend i a => if lv.getD i 0 < a then none else some (lv.set i (lv.getD i 0 - a), 0)
def runA (caps : List Int) : List Int → Int → List Step → Option (List Int × Int)
  | lv, x, [] => some (lv, x)
  | lv, x, s :: r => match stepM caps lv s with
    | none => none
    | some p => runA caps p.1 (x + p.2) r
abbrev runM (caps lv : List Int) (s : List Step) : Option (List Int × Int) := runA caps lv 0 s
/-- the levels fit the caps -/
def Lv : List Int → List Int → Prop
  | [], [] => True
  | c :: cs, l :: ls => 0 ≤ l ∧ l ≤ c ∧ Lv cs ls
  | _, _ => False
def StOk (n : Nat) : Step → Prop
  | .pour a => 0 ≤ a
  | .spend i a => i < n ∧ 0 ≤ a
theorem pourM_len : ∀ {cs ls : List Int} {a : Int}, cs.length = ls.length → (pourM cs ls a).1.length = ls.length
  | [], [], _, _ => rfl
  | c :: cs, l :: ls, a, h => by
    simp only [pourM, List.length_cons]
    rw [pourM_len (by simpa using h)]
theorem Lv.len : ∀ {cs ls : List Int}, Lv cs ls → cs.length = ls.length
  | [], [], _ => rfl
  | _ :: _, _ :: _, h => by rw [List.length_cons, List.length_cons, h.2.2.len]
  | [], _ :: _, h => h.elim
  | _ :: _, [], h => h.elim
theorem Lv.get : ∀ {cs ls : List Int} {i : Nat}, Lv cs ls → i < ls.length → 0 ≤ ls.getD i 0 ∧ ls.getD i 0 ≤ cs.getD i 0
  | c :: cs, l :: ls, 0, h, _ => ⟨h.1, h.2.1⟩
  | c :: cs, l :: ls, i + 1, h, hi => by
    have := h.2.2.get (i := i) (by simpa using hi)
    simpa using this
  | [], [], i, _, h => by simp at h
  | [], _ :: _, _, h, _ => h.elim
  | _ :: _, [], _, h, _ => h.elim
theorem Lv.set : ∀ {cs ls : List Int} {i : Nat} {v : Int}, Lv cs ls → 0 ≤ v → v ≤ cs.getD i 0 → Lv cs (ls.set i v)
  | c :: cs, l :: ls, 0, v, h, h0, h1 => ⟨h0, by simpa using h1, h.2.2⟩
  | c :: cs, l :: ls, i + 1, v, h, h0, h1 => ⟨h.1, h.2.1, h.2.2.set h0 (by simpa using h1)⟩
  | [], [], i, v, h, _, _ => h
  | [], _ :: _, _, _, h, _, _ => h.elim
  | _ :: _, [], _, _, h, _, _ => h.elim
theorem Lv.pour : ∀ {cs ls : List Int} {a : Int}, Lv cs ls → 0 ≤ a → Lv cs (pourM cs ls a).1 ∧ 0 ≤ (pourM cs ls a).2
  | [], [], a, h, h0 => ⟨trivial, h0⟩
  | c :: cs, l :: ls, a, h, h0 => by
    obtain ⟨h1, h2, h3⟩ := h
    have ih := h3.pour (a := a - min a (c - l)) (by omega)
    exact ⟨⟨by omega, by omega, ih.1⟩, ih.2⟩
  | [], _ :: _, _, h, _ => h.elim
  | _ :: _, [], _, h, _ => h.elim
theorem Lv.step {caps lv : List Int} {s : Step} {p : List Int × Int} (h : Lv caps lv) (hs : StOk caps.length s) (e : stepM caps lv s = some p) : Lv caps p.1 ∧ 0 ≤ p.2 := by
  cases s with
  | pour a =>
    cases e
    exact h.pour hs
  | spend i a =>
    simp only [stepM] at e
    split at e
    · cases e
    · cases e
      obtain ⟨h1, h2⟩ := h.get (i := i) (by rw [← h.len]; exact hs.1)
      have h3 : 0 ≤ a := hs.2
      exact ⟨h.set (by omega) (by omega), Int.le_refl _⟩
theorem Lv.run : ∀ {s : List Step} {caps lv : List Int} {x : Int} {p : List Int × Int}, Lv caps lv → (∀ t ∈ s, StOk caps.length t) → runA caps lv x s = some p → Lv caps p.1 ∧ x ≤ p.2
  | [], _, _, _, _, h, _, e => by
    cases e
    exact ⟨h, Int.le_refl _⟩
  | t :: s, caps, lv, x, p, h, hs, e => by
    unfold runA at e
    split at e
    · cases e
    · rename_i q hq
      obtain ⟨h1, h2⟩ := h.step (hs t (by simp)) hq
      obtain ⟨h3, h4⟩ := Lv.run h1 (fun u hu => hs u (by simp [hu])) e
      exact ⟨h3, by omega⟩
/-! ### data that are compared -/
theorem canLay_ints : ∀ l : List Int, PyData.canLayAll0 (l.map .int) = true
  | [] => rfl
  | _ :: l => by
    show (PyData.canLay0 (.int _) && PyData.canLayAll0 (l.map .int)) = true
    rw [canLay_ints l]
    rfl
theorem depth_ints : ∀ l : List Int, PyData.depthAll (l.map .int) ≤ 1
  | [] => by simp [PyData.depthAll]
  | _ :: l => by
    have := depth_ints l
    simp only [List.map_cons, PyData.depthAll, PyData.depth]
    omega
end Lw

namespace Lw
open PySem L2 Fi
theorem cell_ok (ns : List Int) (k : Nat) (hk : k ≤ 1000) (hl : ns.length ≤ 63) : ∃ c : Int, F__law_cell [.list (ns.map .int), .int k] = some (.val (.int c)) := by
  by_cases h1 : (k : Int) < (ns.length : Int)
  · have hg := at_get (l := ns) (k := k) (by omega)
    refine ⟨ns.getD k 0, fn_ret ?_⟩
    unfold b__law_cell
    simp only [sSeq, sSet, sOwn, sPar, sParL,  sIf, sRet, sRetL, sRetO, sDrop, sAug, sApp, sFrz, frz, sAsg, gSet, gsNil, gsCons, gTupF, Fi.gSub, sFor, iL, iT, iR1, iR2, iZ, iEn, itemsK, eVar, eC, Fi.e2, Fi.e1, asB, eChain, tAndF, tOrF, tNotF, eAnd, eOr, eNot, eIf, aNil, aCons, eTup, lLst, eL, eCall, lCall, eCallF, lCallF, eSlT, lSl, oNone, oSome, ownIx, ownLen, lLc, wipeE, pYes, sNext, fnD, entry, fAdd_int, fSub, fMul_l, fMul_r, fDiv_ok, fMod_ok, fPow_ok, fLt, fLe, fGt, fGe, fEq_int, fEq_str, fEq_bool, fNe_int, fNe_str, fNe_bool, isN, fIs, fIsNot, fIx, fNeg, fLen, fMin, fMax, fTuple, fList, fIntB, fSum, fAll, fAny, at_0, at_1, at_2, eT, eS, eStep, eR, getInts_map, Option.bind_some, Option.map_some, List.getElem?_cons_succ, List.getElem?_cons_zero, List.set_cons_succ, List.set_cons_zero, List.length_cons, List.length_nil, List.length_map, List.map_cons, List.map_nil, List.nil_append, List.cons_append, List.replicate, Nat.zero_add, Nat.reduceAdd, Nat.reduceSub, decide_true, decide_false, reduceIte, Nat.reduceLeDiff, Nat.reduceLT, Int.reduceLT, Int.reduceLE, Int.reduceNeg, Int.reducePow, and_self, or_self, and_true, true_and, or_true, true_or, Bool.not_true, Bool.not_false, pour_spend, spend_pour, h1, hg]
  · by_cases h2 : (ns.length : Int) = 0
    · have e : ns = [] := List.eq_nil_of_length_eq_zero (by omega)
      subst e
      have h3 : ¬ ((k : Int) < ((0 : Nat) : Int)) := by omega
      have h4 : (((0 : Nat) : Int) = 0) = True := by simp
      refine ⟨7919 * k + 101, fn_ret ?_⟩
      unfold b__law_cell
      simp only [sSeq, sSet, sOwn, sPar, sParL,  sIf, sRet, sRetL, sRetO, sDrop, sAug, sApp, sFrz, frz, sAsg, gSet, gsNil, gsCons, gTupF, Fi.gSub, sFor, iL, iT, iR1, iR2, iZ, iEn, itemsK, eVar, eC, Fi.e2, Fi.e1, asB, eChain, tAndF, tOrF, tNotF, eAnd, eOr, eNot, eIf, aNil, aCons, eTup, lLst, eL, eCall, lCall, eCallF, lCallF, eSlT, lSl, oNone, oSome, ownIx, ownLen, lLc, wipeE, pYes, sNext, fnD, entry, fAdd_int, fSub, fMul_l, fMul_r, fDiv_ok, fMod_ok, fPow_ok, fLt, fLe, fGt, fGe, fEq_int, fEq_str, fEq_bool, fNe_int, fNe_str, fNe_bool, isN, fIs, fIsNot, fIx, fNeg, fLen, fMin, fMax, fTuple, fList, fIntB, fSum, fAll, fAny, at_0, at_1, at_2, eT, eS, eStep, eR, getInts_map, Option.bind_some, Option.map_some, List.getElem?_cons_succ, List.getElem?_cons_zero, List.set_cons_succ, List.set_cons_zero, List.length_cons, List.length_nil, List.length_map, List.map_cons, List.map_nil, List.nil_append, List.cons_append, List.replicate, Nat.zero_add, Nat.reduceAdd, Nat.reduceSub, decide_true, decide_false, reduceIte, Nat.reduceLeDiff, Nat.reduceLT, Int.reduceLT, Int.reduceLE, Int.reduceNeg, Int.reducePow, and_self, or_self, and_true, true_and, or_true, true_or, Bool.not_true, Bool.not_false, pour_spend, spend_pour, h3, h4]
    · have hpos : 0 < (ns.length : Int) := by omega
      have hm0 := Int.emod_nonneg (k : Int) h2
      have hm1 := Int.emod_lt_of_pos (k : Int) hpos
      have hg := at_getZ (l := ns) hm0 hm1
      refine ⟨ns.getD ((k : Int) % (ns.length : Int)).toNat 0 % 1000003 + 7919 * k, fn_ret ?_⟩
      unfold b__law_cell
      simp only [sSeq, sSet, sOwn, sPar, sParL,  sIf, sRet, sRetL, sRetO, sDrop, sAug, sApp, sFrz, frz, sAsg, gSet, gsNil, gsCons, gTupF, Fi.gSub, sFor, iL, iT, iR1, iR2, iZ, iEn, itemsK, eVar, eC, Fi.e2, Fi.e1, asB, eChain, tAndF, tOrF, tNotF, eAnd, eOr, eNot, eIf, aNil, aCons, eTup, lLst, eL, eCall, lCall, eCallF, lCallF, eSlT, lSl, oNone, oSome, ownIx, ownLen, lLc, wipeE, pYes, sNext, fnD, entry, fAdd_int, fSub, fMul_l, fMul_r, fDiv_ok, fMod_ok, fPow_ok, fLt, fLe, fGt, fGe, fEq_int, fEq_str, fEq_bool, fNe_int, fNe_str, fNe_bool, isN, fIs, fIsNot, fIx, fNeg, fLen, fMin, fMax, fTuple, fList, fIntB, fSum, fAll, fAny, at_0, at_1, at_2, eT, eS, eStep, eR, getInts_map, Option.bind_some, Option.map_some, List.getElem?_cons_succ, List.getElem?_cons_zero, List.set_cons_succ, List.set_cons_zero, List.length_cons, List.length_nil, List.length_map, List.map_cons, List.map_nil, List.nil_append, List.cons_append, List.replicate, Nat.zero_add, Nat.reduceAdd, Nat.reduceSub, decide_true, decide_false, reduceIte, Nat.reduceLeDiff, Nat.reduceLT, Int.reduceLT, Int.reduceLE, Int.reduceNeg, Int.reducePow, and_self, or_self, and_true, true_and, or_true, true_or, Bool.not_true, Bool.not_false, pour_spend, spend_pour, h1, h2, hpos, hg]
def primesL : List PyData := [.int 2147483647, .int 2147483629, .int 2147483587, .int 2147483579, .int 2147483563, .int 2147483549, .int 2147483543, .int 2147483497]
theorem prime_at (m : Int) : ∃ p : Int, atI primesL (m % 8) = some (.int p) ∧ 0 < p ∧ p < 2147483648 := by
  have h0 := Int.emod_nonneg m (show (8 : Int) ≠ 0 by decide)
  have h1 := Int.emod_lt_of_pos m (show (0 : Int) < 8 by decide)
  generalize m % 8 = r at h0 h1
  have : r = 0 ∨ r = 1 ∨ r = 2 ∨ r = 3 ∨ r = 4 ∨ r = 5 ∨ r = 6 ∨ r = 7 := by omega
  rcases this with rfl | rfl | rfl | rfl | rfl | rfl | rfl | rfl
  · exact ⟨_, atI_nat (j := 0) rfl, by decide, by decide⟩
  · exact ⟨_, atI_nat (j := 1) rfl, by decide, by decide⟩
  · exact ⟨_, atI_nat (j := 2) rfl, by decide, by decide⟩
  · exact ⟨_, atI_nat (j := 3) rfl, by decide, by decide⟩
  · exact ⟨_, atI_nat (j := 4) rfl, by decide, by decide⟩
  · exact ⟨_, atI_nat (j := 5) rfl, by decide, by decide⟩
  · exact ⟨_, atI_nat (j := 6) rfl, by decide, by decide⟩
  · exact ⟨_, atI_nat (j := 7) rfl, by decide, by decide⟩
theorem digits_eval1 (S C x9 : Option Sl) (idx base cell rest p1 p2 p3 M k : Int) (acc prs : List PyData)
    (g1 : atI prs (k % 8) = some (.int p1)) (g2 : atI prs ((3 * k + idx) % 8) = some (.int p2)) (g3 : atI prs ((k + 5) % 8) = some (.int p3)) (a1 : 0 < p1) (a2 : 0 < p2) (a3 : 0 < p3)
    (m1 : -18446744073709551616 < cell % p1) (n1 : cell % p1 < 18446744073709551616) (m2 : -18446744073709551616 < k) (n2 : k < 18446744073709551616) (m3 : -18446744073709551616 < k + 1) (n3 : k + 1 < 18446744073709551616)
    (hM : (cell % p1 * (48271 + 2 * k * k) + 7919 * (k + 1) * (k + 1) + 104729 * idx) % p2 = M) (m4 : -18446744073709551616 < M) (m5 : M < 18446744073709551616) (ha : acc.length < 100000) (hb : 0 < base ∧ base < 1073741824) (hr : 0 < rest) :
    lp__law_digits_0 [S, some (.val (.int idx)), C, some (.val (.int base)), some (.val (.tuple prs)), some (.val (.int cell)), some (.val (.int rest)), some (.own acc), some (.val (.int k)), x9] = some (.next [S, some (.val (.int idx)), C, some (.val (.int base)), some (.val (.tuple prs)), some (.val (.int cell)), some (.val (.int (rest / base))), some (.own (acc ++ [.int (rest % base)])), some (.val (.int k)), some (.val (.int (rest)))]) := by
  simp only [sSeq, sSet, sOwn, sPar, sParL,  sIf, sRet, sRetL, sRetO, sDrop, sAug, sApp, sFrz, frz, sAsg, gSet, gsNil, gsCons, gTupF, Fi.gSub, sFor, iL, iT, iR1, iR2, iZ, iEn, itemsK, eVar, eC, Fi.e2, Fi.e1, asB, eChain, tAndF, tOrF, tNotF, eAnd, eOr, eNot, eIf, aNil, aCons, eTup, lLst, eL, eCall, lCall, eCallF, lCallF, eSlT, lSl, oNone, oSome, ownIx, ownLen, lLc, wipeE, pYes, sNext, fnD, entry, fAdd_int, fSub, fMul_l, fMul_r, fDiv_ok, fMod_ok, fPow_ok, fLt, fLe, fGt, fGe, fEq_int, fEq_str, fEq_bool, fNe_int, fNe_str, fNe_bool, isN, fIs, fIsNot, fIx, fNeg, fLen, fMin, fMax, fTuple, fList, fIntB, fSum, fAll, fAny, at_0, at_1, at_2, eT, eS, eStep, eR, getInts_map, Option.bind_some, Option.map_some, List.getElem?_cons_succ, List.getElem?_cons_zero, List.set_cons_succ, List.set_cons_zero, List.length_cons, List.length_nil, List.length_map, List.map_cons, List.map_nil, List.nil_append, List.cons_append, List.replicate, Nat.zero_add, Nat.reduceAdd, Nat.reduceSub, decide_true, decide_false, reduceIte, Nat.reduceLeDiff, Nat.reduceLT, Int.reduceLT, Int.reduceLE, Int.reduceNeg, Int.reducePow, and_self, or_self, and_true, true_and, or_true, true_or, Bool.not_true, Bool.not_false, pour_spend, spend_pour, lp__law_digits_0, g1, g2, g3, a1, a2, a3, m1, n1, m2, n2, m3, n3, hM, m4, m5, hr, ha, hb]
theorem digits_eval2 (S C x9 : Option Sl) (idx base cell rest p1 p2 p3 M k : Int) (acc prs : List PyData)
    (g1 : atI prs (k % 8) = some (.int p1)) (g2 : atI prs ((3 * k + idx) % 8) = some (.int p2)) (g3 : atI prs ((k + 5) % 8) = some (.int p3)) (a1 : 0 < p1) (a2 : 0 < p2) (a3 : 0 < p3)
    (m1 : -18446744073709551616 < cell % p1) (n1 : cell % p1 < 18446744073709551616) (m2 : -18446744073709551616 < k) (n2 : k < 18446744073709551616) (m3 : -18446744073709551616 < k + 1) (n3 : k + 1 < 18446744073709551616)
    (hM : (cell % p1 * (48271 + 2 * k * k) + 7919 * (k + 1) * (k + 1) + 104729 * idx) % p2 = M) (m4 : -18446744073709551616 < M) (m5 : M < 18446744073709551616) (ha : acc.length < 100000) (hb : 0 < base ∧ base < 1073741824) (hr : ¬ 0 < rest) :
    lp__law_digits_0 [S, some (.val (.int idx)), C, some (.val (.int base)), some (.val (.tuple prs)), some (.val (.int cell)), some (.val (.int rest)), some (.own acc), some (.val (.int k)), x9] = some (.next [S, some (.val (.int idx)), C, some (.val (.int base)), some (.val (.tuple prs)), some (.val (.int cell)), some (.val (.int (rest / base))), some (.own (acc ++ [.int (M * M * M % p3 % base)])), some (.val (.int k)), some (.val (.int (M * M * M % p3)))]) := by
  simp only [sSeq, sSet, sOwn, sPar, sParL,  sIf, sRet, sRetL, sRetO, sDrop, sAug, sApp, sFrz, frz, sAsg, gSet, gsNil, gsCons, gTupF, Fi.gSub, sFor, iL, iT, iR1, iR2, iZ, iEn, itemsK, eVar, eC, Fi.e2, Fi.e1, asB, eChain, tAndF, tOrF, tNotF, eAnd, eOr, eNot, eIf, aNil, aCons, eTup, lLst, eL, eCall, lCall, eCallF, lCallF, eSlT, lSl, oNone, oSome, ownIx, ownLen, lLc, wipeE, pYes, sNext, fnD, entry, fAdd_int, fSub, fMul_l, fMul_r, fDiv_ok, fMod_ok, fPow_ok, fLt, fLe, fGt, fGe, fEq_int, fEq_str, fEq_bool, fNe_int, fNe_str, fNe_bool, isN, fIs, fIsNot, fIx, fNeg, fLen, fMin, fMax, fTuple, fList, fIntB, fSum, fAll, fAny, at_0, at_1, at_2, eT, eS, eStep, eR, getInts_map, Option.bind_some, Option.map_some, List.getElem?_cons_succ, List.getElem?_cons_zero, List.set_cons_succ, List.set_cons_zero, List.length_cons, List.length_nil, List.length_map, List.map_cons, List.map_nil, List.nil_append, List.cons_append, List.replicate, Nat.zero_add, Nat.reduceAdd, Nat.reduceSub, decide_true, decide_false, reduceIte, Nat.reduceLeDiff, Nat.reduceLT, Int.reduceLT, Int.reduceLE, Int.reduceNeg, Int.reducePow, and_self, or_self, and_true, true_and, or_true, true_or, Bool.not_true, Bool.not_false, pour_spend, spend_pour, lp__law_digits_0, g1, g2, g3, a1, a2, a3, m1, n1, m2, n2, m3, n3, hM, m4, m5, hr, ha, hb]
theorem digits_body (S C x9 : Option Sl) (idx base cell rest : Int) (k : Nat) (acc : List PyData) (hk : k ≤ 1000) (hi : 0 ≤ idx ∧ idx ≤ 1000) (hb : 0 < base ∧ base < 1073741824) (ha : acc.length < 100000) : ∃ (d r : Int) (y9 : Option Sl), 0 ≤ d ∧ d < base ∧
    lp__law_digits_0 [S, some (.val (.int idx)), C, some (.val (.int base)), some (.val (.tuple primesL)), some (.val (.int cell)), some (.val (.int rest)), some (.own acc), some (.val (.int k)), x9]
      = some (.next [S, some (.val (.int idx)), C, some (.val (.int base)), some (.val (.tuple primesL)), some (.val (.int cell)), some (.val (.int r)), some (.own (acc ++ [.int d])), some (.val (.int k)), y9]) := by
  obtain ⟨p1, g1, a1, b1⟩ := prime_at k
  obtain ⟨p2, g2, a2, b2⟩ := prime_at (3 * k + idx)
  obtain ⟨p3, g3, a3, b3⟩ := prime_at ((k : Int) + 5)
  have c1 := Int.emod_nonneg cell (show p1 ≠ 0 by omega)
  have c2 := Int.emod_lt_of_pos cell a1
  have m1 : -18446744073709551616 < cell % p1 := by omega
  have n1 : cell % p1 < 18446744073709551616 := by omega
  have m2 : -18446744073709551616 < (k : Int) := by omega
  have n2 : (k : Int) < 18446744073709551616 := by omega
  have m3 : -18446744073709551616 < (k : Int) + 1 := by omega
  have n3 : (k : Int) + 1 < 18446744073709551616 := by omega
  generalize hM : (cell % p1 * (48271 + 2 * (k : Int) * k) + 7919 * ((k : Int) + 1) * ((k : Int) + 1) + 104729 * idx) % p2 = M
  have d1 : 0 ≤ M := by rw [← hM]; exact Int.emod_nonneg _ (by omega)
  have d2 : M < p2 := by rw [← hM]; exact Int.emod_lt_of_pos _ a2
  have m4 : -18446744073709551616 < M := by omega
  have m5 : M < 18446744073709551616 := by omega
  by_cases hr : 0 < rest
  · exact ⟨rest % base, rest / base, some (.val (.int rest)), Int.emod_nonneg _ (by omega), Int.emod_lt_of_pos _ hb.1, digits_eval1 S C x9 idx base cell rest p1 p2 p3 M k acc primesL g1 g2 g3 a1 a2 a3 m1 n1 m2 n2 m3 n3 hM m4 m5 ha hb hr⟩
  · exact ⟨M * M * M % p3 % base, rest / base, some (.val (.int (M * M * M % p3))), Int.emod_nonneg _ (by omega), Int.emod_lt_of_pos _ hb.1, digits_eval2 S C x9 idx base cell rest p1 p2 p3 M k acc primesL g1 g2 g3 a1 a2 a3 m1 n1 m2 n2 m3 n3 hM m4 m5 ha hb hr⟩
theorem range_get {n i : Nat} {d : PyData} (h : ((List.range n).map fun (i : Nat) => PyData.int (i : Int))[i]? = some d) : i < n ∧ d = .int (i : Int) := by
  rw [List.getElem?_map] at h
  by_cases hi : i < n
  · rw [List.getElem?_range hi] at h
    exact ⟨hi, (Option.some.inj h).symm⟩
  · rw [List.getElem?_eq_none (by rw [List.length_range]; omega)] at h
    cases h
theorem digits_ok (ns : List Int) (hl : ns.length ≤ 63) (k : Nat) (hk : k ≤ 1000) (n : Nat) (hn : n ≤ 1000) (base : Int) (hb : 0 < base ∧ base < 1073741824) : ∃ ds : List Int, ds.length = n ∧ (∀ d ∈ ds, 0 ≤ d ∧ d < base) ∧ F__law_digits [.list (ns.map .int), .int k, .int n, .int base] = some (.own (ds.map .int)) := by
  obtain ⟨cell, hcell⟩ := cell_ok ns k hk hl
  let S : Option Sl := some (.val (.list (ns.map .int)))
  let P : Nat → En → Prop := fun i e => ∃ (ds : List Int) (r : Int) (y8 y9 : Option Sl), ds.length = i ∧ (∀ d ∈ ds, 0 ≤ d ∧ d < base) ∧
    e = [S, some (.val (.int k)), some (.val (.int n)), some (.val (.int base)), some (.val (.tuple primesL)), some (.val (.int cell)), some (.val (.int r)), some (.own (ds.map .int)), y8, y9]
  have key : ∀ rest : Int, ∃ e, forD (gSet 8) lp__law_digits_0 ((List.range n).map fun (i : Nat) => PyData.int (i : Int)) [S, some (.val (.int k)), some (.val (.int n)), some (.val (.int base)), some (.val (.tuple primesL)), some (.val (.int cell)), some (.val (.int rest)), some (.own []), none, none] = some (.next e) ∧ P (0 + ((List.range n).map fun (i : Nat) => PyData.int (i : Int)).length) e := fun rest => by
    refine forD_inv P _ 0 _ ⟨[], rest, none, none, rfl, by simp, rfl⟩ fun i d e hd hp => ?_
    obtain ⟨hi, rfl⟩ := range_get hd
    obtain ⟨ds, r, y8, y9, h1, h2, rfl⟩ := hp
    obtain ⟨d, r', z9, q1, q2, q3⟩ := digits_body S (some (.val (.int n))) y9 k base cell r i (ds.map .int) (by omega) ⟨by omega, by omega⟩ hb (by rw [List.length_map]; omega)
    refine ⟨_, _, rfl, q3, ds ++ [d], r', _, z9, by rw [List.length_append, h1]; simp, fun x hx => ?_, by rw [List.map_append]; rfl⟩
    rcases List.mem_append.mp hx with h | h
    · exact h2 x h
    · rw [List.mem_singleton.mp h]
      exact ⟨q1, q2⟩
  have hn2 : -100000 < (n : Int) ∧ (n : Int) < 100000 := ⟨by omega, by omega⟩
  obtain ⟨e, f1, ds, r, y8, y9, h1, h2, rfl⟩ := key (if 1000000000000000000 ≤ cell then cell else 0)
  refine ⟨ds, by simpa using h1, h2, fn_retL ?_⟩
  unfold b__law_digits
  by_cases hc : 1000000000000000000 ≤ cell
  · rw [if_pos hc] at f1
    simp only [sSeq, sSet, sOwn, sPar, sParL,  sIf, sRet, sRetL, sRetO, sDrop, sAug, sApp, sFrz, frz, sAsg, gSet, gsNil, gsCons, gTupF, Fi.gSub, sFor, iL, iT, iR1, iR2, iZ, iEn, itemsK, eVar, eC, Fi.e2, Fi.e1, asB, eChain, tAndF, tOrF, tNotF, eAnd, eOr, eNot, eIf, aNil, aCons, eTup, lLst, eL, eCall, lCall, eCallF, lCallF, eSlT, lSl, oNone, oSome, ownIx, ownLen, lLc, wipeE, pYes, sNext, fnD, entry, fAdd_int, fSub, fMul_l, fMul_r, fDiv_ok, fMod_ok, fPow_ok, fLt, fLe, fGt, fGe, fEq_int, fEq_str, fEq_bool, fNe_int, fNe_str, fNe_bool, isN, fIs, fIsNot, fIx, fNeg, fLen, fMin, fMax, fTuple, fList, fIntB, fSum, fAll, fAny, at_0, at_1, at_2, eT, eS, eStep, eR, getInts_map, Option.bind_some, Option.map_some, List.getElem?_cons_succ, List.getElem?_cons_zero, List.set_cons_succ, List.set_cons_zero, List.length_cons, List.length_nil, List.length_map, List.map_cons, List.map_nil, List.nil_append, List.cons_append, List.replicate, Nat.zero_add, Nat.reduceAdd, Nat.reduceSub, decide_true, decide_false, reduceIte, Nat.reduceLeDiff, Nat.reduceLT, Int.reduceLT, Int.reduceLE, Int.reduceNeg, Int.reducePow, and_self, or_self, and_true, true_and, or_true, true_or, Bool.not_true, Bool.not_false, pour_spend, spend_pour, hcell, hc, hn2, Int.toNat_natCast, show ((10 : Int) ^ (18 : Int).toNat) = 1000000000000000000 from rfl, show (10 : Int).natAbs < 18446744073709551616 from by decide]
    simp only [primesL, S] at f1
    rw [f1]
    rfl
  · rw [if_neg hc] at f1
    simp only [sSeq, sSet, sOwn, sPar, sParL,  sIf, sRet, sRetL, sRetO, sDrop, sAug, sApp, sFrz, frz, sAsg, gSet, gsNil, gsCons, gTupF, Fi.gSub, sFor, iL, iT, iR1, iR2, iZ, iEn, itemsK, eVar, eC, Fi.e2, Fi.e1, asB, eChain, tAndF, tOrF, tNotF, eAnd, eOr, eNot, eIf, aNil, aCons, eTup, lLst, eL, eCall, lCall, eCallF, lCallF, eSlT, lSl, oNone, oSome, ownIx, ownLen, lLc, wipeE, pYes, sNext, fnD, entry, fAdd_int, fSub, fMul_l, fMul_r, fDiv_ok, fMod_ok, fPow_ok, fLt, fLe, fGt, fGe, fEq_int, fEq_str, fEq_bool, fNe_int, fNe_str, fNe_bool, isN, fIs, fIsNot, fIx, fNeg, fLen, fMin, fMax, fTuple, fList, fIntB, fSum, fAll, fAny, at_0, at_1, at_2, eT, eS, eStep, eR, getInts_map, Option.bind_some, Option.map_some, List.getElem?_cons_succ, List.getElem?_cons_zero, List.set_cons_succ, List.set_cons_zero, List.length_cons, List.length_nil, List.length_map, List.map_cons, List.map_nil, List.nil_append, List.cons_append, List.replicate, Nat.zero_add, Nat.reduceAdd, Nat.reduceSub, decide_true, decide_false, reduceIte, Nat.reduceLeDiff, Nat.reduceLT, Int.reduceLT, Int.reduceLE, Int.reduceNeg, Int.reducePow, and_self, or_self, and_true, true_and, or_true, true_or, Bool.not_true, Bool.not_false, pour_spend, spend_pour, hcell, hc, hn2, Int.toNat_natCast, show ((10 : Int) ^ (18 : Int).toNat) = 1000000000000000000 from rfl, show (10 : Int).natAbs < 18446744073709551616 from by decide]
    simp only [primesL, S] at f1
    rw [f1]
    rfl
end Lw

namespace Lw
open PySem L2 Fi
theorem poured_loop : ∀ (cs ls : List Int) (a : Int) (acc : List PyData) (C L x4 x5 x6 : Option Sl), acc.length + cs.length ≤ 1000 → ∃ y4 y5 y6,
    forD (gTupF 2 (gsCons (gSet 4) (gsCons (gSet 5) gsNil))) lp_poured_0 (pairs (cs.map .int) (ls.map .int)) [C, L, some (.val (.int a)), some (.own acc), x4, x5, x6]
      = some (.next [C, L, some (.val (.int (pourM cs ls a).2)), some (.own (acc ++ ((pourM cs ls a).1).map .int)), y4, y5, y6])
  | [], ls, a, acc, C, L, x4, x5, x6, h => ⟨x4, x5, x6, by simp [pairs, forD, pourM]⟩
  | c :: cs, [], a, acc, C, L, x4, x5, x6, h => ⟨x4, x5, x6, by simp [pairs, forD, pourM]⟩
  | c :: cs, l :: ls, a, acc, C, L, x4, x5, x6, h => by
    have hl : acc.length < 100000 := by simp at h; omega
    obtain ⟨y4, y5, y6, ih⟩ := poured_loop cs ls (a - min a (c - l)) (acc ++ [.int (l + min a (c - l))]) C L (some (.val (.int c))) (some (.val (.int l))) (some (.val (.int (min a (c - l))))) (by simp at h ⊢; omega)
    refine ⟨y4, y5, y6, forD_step (e1 := [C, L, some (.val (.int a)), some (.own acc), some (.val (.int c)), some (.val (.int l)), x6]) rfl ?_ (ih.trans ?_)⟩
    · simp only [sSeq, sSet, sOwn, sPar, sParL,  sIf, sRet, sRetL, sRetO, sDrop, sAug, sApp, sFrz, frz, sAsg, gSet, gsNil, gsCons, gTupF, Fi.gSub, sFor, iL, iT, iR1, iR2, iZ, iEn, itemsK, eVar, eC, Fi.e2, Fi.e1, asB, eChain, tAndF, tOrF, tNotF, eAnd, eOr, eNot, eIf, aNil, aCons, eTup, lLst, eL, eCall, lCall, eCallF, lCallF, eSlT, lSl, oNone, oSome, ownIx, ownLen, lLc, wipeE, pYes, sNext, fnD, entry, fAdd_int, fSub, fMul_l, fMul_r, fDiv_ok, fMod_ok, fPow_ok, fLt, fLe, fGt, fGe, fEq_int, fEq_str, fEq_bool, fNe_int, fNe_str, fNe_bool, isN, fIs, fIsNot, fIx, fNeg, fLen, fMin, fMax, fTuple, fList, fIntB, fSum, fAll, fAny, at_0, at_1, at_2, eT, eS, eStep, eR, getInts_map, Option.bind_some, Option.map_some, List.getElem?_cons_succ, List.getElem?_cons_zero, List.set_cons_succ, List.set_cons_zero, List.length_cons, List.length_nil, List.length_map, List.map_cons, List.map_nil, List.nil_append, List.cons_append, List.replicate, Nat.zero_add, Nat.reduceAdd, Nat.reduceSub, decide_true, decide_false, reduceIte, Nat.reduceLeDiff, Nat.reduceLT, Int.reduceLT, Int.reduceLE, Int.reduceNeg, Int.reducePow, and_self, or_self, and_true, true_and, or_true, true_or, Bool.not_true, Bool.not_false, pour_spend, spend_pour, lp_poured_0, hl]
    · simp only [pourM, List.append_assoc, List.singleton_append, List.map_cons]
theorem poured_ok {caps lv : List Int} {a : Int} (hc : caps.length ≤ 100) : F_poured [eT caps, eT lv, .int a] = some (.val (.tuple [eT (pourM caps lv a).1, .int (pourM caps lv a).2])) := by
  obtain ⟨y4, y5, y6, h⟩ := poured_loop caps lv a [] (some (.val (eT caps))) (some (.val (eT lv))) none none none (by simp; omega)
  refine fn_ret ?_
  unfold b_poured
  simp only [eT] at h ⊢
  simp only [sSeq, sSet, sOwn, sPar, sParL,  sIf, sRet, sRetL, sRetO, sDrop, sAug, sApp, sFrz, frz, sAsg, gSet, gsNil, gsCons, gTupF, Fi.gSub, sFor, iL, iT, iR1, iR2, iZ, iEn, itemsK, eVar, eC, Fi.e2, Fi.e1, asB, eChain, tAndF, tOrF, tNotF, eAnd, eOr, eNot, eIf, aNil, aCons, eTup, lLst, eL, eCall, lCall, eCallF, lCallF, eSlT, lSl, oNone, oSome, ownIx, ownLen, lLc, wipeE, pYes, sNext, fnD, entry, fAdd_int, fSub, fMul_l, fMul_r, fDiv_ok, fMod_ok, fPow_ok, fLt, fLe, fGt, fGe, fEq_int, fEq_str, fEq_bool, fNe_int, fNe_str, fNe_bool, isN, fIs, fIsNot, fIx, fNeg, fLen, fMin, fMax, fTuple, fList, fIntB, fSum, fAll, fAny, at_0, at_1, at_2, eT, eS, eStep, eR, getInts_map, Option.bind_some, Option.map_some, List.getElem?_cons_succ, List.getElem?_cons_zero, List.set_cons_succ, List.set_cons_zero, List.length_cons, List.length_nil, List.length_map, List.map_cons, List.map_nil, List.nil_append, List.cons_append, List.replicate, Nat.zero_add, Nat.reduceAdd, Nat.reduceSub, decide_true, decide_false, reduceIte, Nat.reduceLeDiff, Nat.reduceLT, Int.reduceLT, Int.reduceLE, Int.reduceNeg, Int.reducePow, and_self, or_self, and_true, true_and, or_true, true_or, Bool.not_true, Bool.not_false, pour_spend, spend_pour, h, List.length_nil, Nat.zero_le]
theorem set_cut {lv : List Int} {i : Nat} {v : Int} (h : i < lv.length) : (lv.map PyData.int).take i ++ [.int v] ++ (lv.map PyData.int).drop (i + 1) = (lv.set i v).map .int := by
  rw [List.set_eq_take_append_cons_drop, if_pos h, List.map_append, List.map_cons, List.map_take, List.map_drop, List.append_assoc]
  rfl
theorem run_loop {caps : List Int} (hc : caps.length ≤ 100) (S : Option Sl) : ∀ (s : List Step) (lv : List Int) (x : Int) (y4 y5 y6 y7 : Option Sl), caps.length = lv.length → (∀ t ∈ s, StOk caps.length t) →
    match runA caps lv x s with
    | none => forD (gSet 4) lp_run_0 (s.map eStep) [some (.val (eT caps)), some (.val (eT lv)), S, some (.val (.int x)), y4, y5, y6, y7] = some (.ret .none)
    | some p => ∃ z4 z5 z6 z7, forD (gSet 4) lp_run_0 (s.map eStep) [some (.val (eT caps)), some (.val (eT lv)), S, some (.val (.int x)), y4, y5, y6, y7]
        = some (.next [some (.val (eT caps)), some (.val (eT p.1)), S, some (.val (.int p.2)), z4, z5, z6, z7])
  | [], lv, x, y4, y5, y6, y7, hl, hs => ⟨y4, y5, y6, y7, rfl⟩
  | .pour a :: s, lv, x, y4, y5, y6, y7, hl, hs => by
    have ih := run_loop hc S s (pourM caps lv a).1 (x + (pourM caps lv a).2) (some (.val (eStep (.pour a)))) (some (.val (.int (pourM caps lv a).2))) y6 y7 (by rw [pourM_len hl, hl]) (fun t ht => hs t (by simp [ht]))
    have hp := poured_ok (caps := caps) (lv := lv) (a := a) hc
    have hb : lp_run_0 [some (.val (eT caps)), some (.val (eT lv)), S, some (.val (.int x)), some (.val (eStep (.pour a))), y5, y6, y7] = some (.next [some (.val (eT caps)), some (.val (eT (pourM caps lv a).1)), S, some (.val (.int (x + (pourM caps lv a).2))), some (.val (eStep (.pour a))), some (.val (.int (pourM caps lv a).2)), y6, y7]) := by
      simp only [eT] at hp
      simp only [sSeq, sSet, sOwn, sPar, sParL,  sIf, sRet, sRetL, sRetO, sDrop, sAug, sApp, sFrz, frz, sAsg, gSet, gsNil, gsCons, gTupF, Fi.gSub, sFor, iL, iT, iR1, iR2, iZ, iEn, itemsK, eVar, eC, Fi.e2, Fi.e1, asB, eChain, tAndF, tOrF, tNotF, eAnd, eOr, eNot, eIf, aNil, aCons, eTup, lLst, eL, eCall, lCall, eCallF, lCallF, eSlT, lSl, oNone, oSome, ownIx, ownLen, lLc, wipeE, pYes, sNext, fnD, entry, fAdd_int, fSub, fMul_l, fMul_r, fDiv_ok, fMod_ok, fPow_ok, fLt, fLe, fGt, fGe, fEq_int, fEq_str, fEq_bool, fNe_int, fNe_str, fNe_bool, isN, fIs, fIsNot, fIx, fNeg, fLen, fMin, fMax, fTuple, fList, fIntB, fSum, fAll, fAny, at_0, at_1, at_2, eT, eS, eStep, eR, getInts_map, Option.bind_some, Option.map_some, List.getElem?_cons_succ, List.getElem?_cons_zero, List.set_cons_succ, List.set_cons_zero, List.length_cons, List.length_nil, List.length_map, List.map_cons, List.map_nil, List.nil_append, List.cons_append, List.replicate, Nat.zero_add, Nat.reduceAdd, Nat.reduceSub, decide_true, decide_false, reduceIte, Nat.reduceLeDiff, Nat.reduceLT, Int.reduceLT, Int.reduceLE, Int.reduceNeg, Int.reducePow, and_self, or_self, and_true, true_and, or_true, true_or, Bool.not_true, Bool.not_false, pour_spend, spend_pour, lp_run_0, hp]
    simp only [runA, stepM]
    cases hr : runA caps (pourM caps lv a).1 (x + (pourM caps lv a).2) s with
    | none =>
      rw [hr] at ih
      exact forD_step rfl hb ih
    | some p =>
      rw [hr] at ih
      obtain ⟨z4, z5, z6, z7, ih⟩ := ih
      exact ⟨z4, z5, z6, z7, forD_step rfl hb ih⟩
  | .spend i a :: s, lv, x, y4, y5, y6, y7, hl, hs => by
    have hi : i < caps.length := (hs (.spend i a) (by simp)).1
    have hil : i < lv.length := by omega
    have hg := at_get hil
    simp only [runA, stepM]
    by_cases hlt : lv.getD i 0 < a
    · simp only [if_pos hlt]
      refine forD_ret rfl ?_
      show lp_run_0 [some (.val (eT caps)), some (.val (eT lv)), S, some (.val (.int x)), some (.val (eStep (.spend i a))), y5, y6, y7] = _
      simp only [sSeq, sSet, sOwn, sPar, sParL,  sIf, sRet, sRetL, sRetO, sDrop, sAug, sApp, sFrz, frz, sAsg, gSet, gsNil, gsCons, gTupF, Fi.gSub, sFor, iL, iT, iR1, iR2, iZ, iEn, itemsK, eVar, eC, Fi.e2, Fi.e1, asB, eChain, tAndF, tOrF, tNotF, eAnd, eOr, eNot, eIf, aNil, aCons, eTup, lLst, eL, eCall, lCall, eCallF, lCallF, eSlT, lSl, oNone, oSome, ownIx, ownLen, lLc, wipeE, pYes, sNext, fnD, entry, fAdd_int, fSub, fMul_l, fMul_r, fDiv_ok, fMod_ok, fPow_ok, fLt, fLe, fGt, fGe, fEq_int, fEq_str, fEq_bool, fNe_int, fNe_str, fNe_bool, isN, fIs, fIsNot, fIx, fNeg, fLen, fMin, fMax, fTuple, fList, fIntB, fSum, fAll, fAny, at_0, at_1, at_2, eT, eS, eStep, eR, getInts_map, Option.bind_some, Option.map_some, List.getElem?_cons_succ, List.getElem?_cons_zero, List.set_cons_succ, List.set_cons_zero, List.length_cons, List.length_nil, List.length_map, List.map_cons, List.map_nil, List.nil_append, List.cons_append, List.replicate, Nat.zero_add, Nat.reduceAdd, Nat.reduceSub, decide_true, decide_false, reduceIte, Nat.reduceLeDiff, Nat.reduceLT, Int.reduceLT, Int.reduceLE, Int.reduceNeg, Int.reducePow, and_self, or_self, and_true, true_and, or_true, true_or, Bool.not_true, Bool.not_false, pour_spend, spend_pour, lp_run_0, hg, hlt]
    · simp only [if_neg hlt, Int.add_zero]
      have ih := run_loop hc S s (lv.set i (lv.getD i 0 - a)) x (some (.val (eStep (.spend i a)))) y5 (some (.val (.int i))) (some (.val (.int a))) (by rw [List.length_set, hl]) (fun t ht => hs t (by simp [ht]))
      have q1 : cutD (lv.map PyData.int) none (some (i : Int)) = (lv.map PyData.int).take i := cut_to
      have q2 : cutD (lv.map PyData.int) (some ((i : Int) + 1)) none = (lv.map PyData.int).drop (i + 1) := cut_from (a := i + 1)
      have a1 : fAdd (.tuple ((lv.map PyData.int).take i)) (.tuple [.int (lv.getD i 0 - a)]) = some (.tuple ((lv.map PyData.int).take i ++ [.int (lv.getD i 0 - a)])) := fAdd_tup (by simp; omega)
      have a2 : fAdd (.tuple ((lv.map PyData.int).take i ++ [.int (lv.getD i 0 - a)])) (.tuple ((lv.map PyData.int).drop (i + 1))) = some (.tuple ((lv.set i (lv.getD i 0 - a)).map .int)) := by
        rw [fAdd_tup (by simp; omega), set_cut hil]
      have hb : lp_run_0 [some (.val (eT caps)), some (.val (eT lv)), S, some (.val (.int x)), some (.val (eStep (.spend i a))), y5, y6, y7] = some (.next [some (.val (eT caps)), some (.val (eT (lv.set i (lv.getD i 0 - a)))), S, some (.val (.int x)), some (.val (eStep (.spend i a))), y5, some (.val (.int i)), some (.val (.int a))]) := by
        simp only [sSeq, sSet, sOwn, sPar, sParL,  sIf, sRet, sRetL, sRetO, sDrop, sAug, sApp, sFrz, frz, sAsg, gSet, gsNil, gsCons, gTupF, Fi.gSub, sFor, iL, iT, iR1, iR2, iZ, iEn, itemsK, eVar, eC, Fi.e2, Fi.e1, asB, eChain, tAndF, tOrF, tNotF, eAnd, eOr, eNot, eIf, aNil, aCons, eTup, lLst, eL, eCall, lCall, eCallF, lCallF, eSlT, lSl, oNone, oSome, ownIx, ownLen, lLc, wipeE, pYes, sNext, fnD, entry, fAdd_int, fSub, fMul_l, fMul_r, fDiv_ok, fMod_ok, fPow_ok, fLt, fLe, fGt, fGe, fEq_int, fEq_str, fEq_bool, fNe_int, fNe_str, fNe_bool, isN, fIs, fIsNot, fIx, fNeg, fLen, fMin, fMax, fTuple, fList, fIntB, fSum, fAll, fAny, at_0, at_1, at_2, eT, eS, eStep, eR, getInts_map, Option.bind_some, Option.map_some, List.getElem?_cons_succ, List.getElem?_cons_zero, List.set_cons_succ, List.set_cons_zero, List.length_cons, List.length_nil, List.length_map, List.map_cons, List.map_nil, List.nil_append, List.cons_append, List.replicate, Nat.zero_add, Nat.reduceAdd, Nat.reduceSub, decide_true, decide_false, reduceIte, Nat.reduceLeDiff, Nat.reduceLT, Int.reduceLT, Int.reduceLE, Int.reduceNeg, Int.reducePow, and_self, or_self, and_true, true_and, or_true, true_or, Bool.not_true, Bool.not_false, pour_spend, spend_pour, lp_run_0, hg, hlt, q1, q2, a1, a2]
      cases hr : runA caps (lv.set i (lv.getD i 0 - a)) x s with
      | none =>
        rw [hr] at ih
        exact forD_step rfl hb ih
      | some p =>
        rw [hr] at ih
        obtain ⟨z4, z5, z6, z7, ih⟩ := ih
        exact ⟨z4, z5, z6, z7, forD_step rfl hb ih⟩
theorem run_ok {caps lv : List Int} {s : List Step} (hc : caps.length ≤ 100) (hl : caps.length = lv.length) (hs : ∀ t ∈ s, StOk caps.length t) : F_run [eT caps, eT lv, eS s] = some (.val (eR (runM caps lv s))) := by
  have h := run_loop hc (some (.val (eS s))) s lv 0 none none none none hl hs
  cases hr : runM caps lv s with
  | none =>
    have hr' : runA caps lv 0 s = none := hr
    rw [hr'] at h
    refine fn_ret ?_
    unfold b_run
    simp only [eT, eS] at h ⊢
    simp only [sSeq, sSet, sOwn, sPar, sParL,  sIf, sRet, sRetL, sRetO, sDrop, sAug, sApp, sFrz, frz, sAsg, gSet, gsNil, gsCons, gTupF, Fi.gSub, sFor, iL, iT, iR1, iR2, iZ, iEn, itemsK, eVar, eC, Fi.e2, Fi.e1, asB, eChain, tAndF, tOrF, tNotF, eAnd, eOr, eNot, eIf, aNil, aCons, eTup, lLst, eL, eCall, lCall, eCallF, lCallF, eSlT, lSl, oNone, oSome, ownIx, ownLen, lLc, wipeE, pYes, sNext, fnD, entry, fAdd_int, fSub, fMul_l, fMul_r, fDiv_ok, fMod_ok, fPow_ok, fLt, fLe, fGt, fGe, fEq_int, fEq_str, fEq_bool, fNe_int, fNe_str, fNe_bool, isN, fIs, fIsNot, fIx, fNeg, fLen, fMin, fMax, fTuple, fList, fIntB, fSum, fAll, fAny, at_0, at_1, at_2, eT, eS, eStep, eR, getInts_map, Option.bind_some, Option.map_some, List.getElem?_cons_succ, List.getElem?_cons_zero, List.set_cons_succ, List.set_cons_zero, List.length_cons, List.length_nil, List.length_map, List.map_cons, List.map_nil, List.nil_append, List.cons_append, List.replicate, Nat.zero_add, Nat.reduceAdd, Nat.reduceSub, decide_true, decide_false, reduceIte, Nat.reduceLeDiff, Nat.reduceLT, Int.reduceLT, Int.reduceLE, Int.reduceNeg, Int.reducePow, and_self, or_self, and_true, true_and, or_true, true_or, Bool.not_true, Bool.not_false, pour_spend, spend_pour, h]
  | some p =>
    have hr' : runA caps lv 0 s = some p := hr
    rw [hr'] at h
    obtain ⟨z4, z5, z6, z7, h⟩ := h
    refine fn_ret ?_
    unfold b_run
    simp only [eT, eS] at h ⊢
    simp only [sSeq, sSet, sOwn, sPar, sParL,  sIf, sRet, sRetL, sRetO, sDrop, sAug, sApp, sFrz, frz, sAsg, gSet, gsNil, gsCons, gTupF, Fi.gSub, sFor, iL, iT, iR1, iR2, iZ, iEn, itemsK, eVar, eC, Fi.e2, Fi.e1, asB, eChain, tAndF, tOrF, tNotF, eAnd, eOr, eNot, eIf, aNil, aCons, eTup, lLst, eL, eCall, lCall, eCallF, lCallF, eSlT, lSl, oNone, oSome, ownIx, ownLen, lLc, wipeE, pYes, sNext, fnD, entry, fAdd_int, fSub, fMul_l, fMul_r, fDiv_ok, fMod_ok, fPow_ok, fLt, fLe, fGt, fGe, fEq_int, fEq_str, fEq_bool, fNe_int, fNe_str, fNe_bool, isN, fIs, fIsNot, fIx, fNeg, fLen, fMin, fMax, fTuple, fList, fIntB, fSum, fAll, fAny, at_0, at_1, at_2, eT, eS, eStep, eR, getInts_map, Option.bind_some, Option.map_some, List.getElem?_cons_succ, List.getElem?_cons_zero, List.set_cons_succ, List.set_cons_zero, List.length_cons, List.length_nil, List.length_map, List.map_cons, List.map_nil, List.nil_append, List.cons_append, List.replicate, Nat.zero_add, Nat.reduceAdd, Nat.reduceSub, decide_true, decide_false, reduceIte, Nat.reduceLeDiff, Nat.reduceLT, Int.reduceLT, Int.reduceLE, Int.reduceNeg, Int.reducePow, and_self, or_self, and_true, true_and, or_true, true_or, Bool.not_true, Bool.not_false, pour_spend, spend_pour, h]
end Lw

namespace Lw
open PySem L2 Fi
def psum : Int → List Int → List Int
  | _, [] => []
  | t, c :: cs => (t + c) :: psum (t + c) cs
theorem psum_len : ∀ (t : Int) (cs : List Int), (psum t cs).length = cs.length
  | _, [] => rfl
  | t, c :: cs => by rw [psum, List.length_cons, psum_len, List.length_cons]
theorem fsum_loop (C : Option Sl) : ∀ (cs acc : List Int) (t : Int) (y1 : Option Sl), acc.length + cs.length ≤ 1000 → ∃ z1 z3, forD (gSet 1) lp_first_sums_0 (cs.map .int) [C, y1, some (.own (acc.map .int)), some (.val (.int t))] = some (.next [C, z1, some (.own ((acc ++ psum t cs).map .int)), z3])
  | [], acc, t, y1, _ => ⟨y1, _, by rw [psum, List.append_nil]; rfl⟩
  | c :: cs, acc, t, y1, h => by
    have hl : acc.length < 100000 := by simp at h; omega
    obtain ⟨z1, z3, ih⟩ := fsum_loop C cs (acc ++ [t + c]) (t + c) (some (.val (.int c))) (by simp at h ⊢; omega)
    refine ⟨z1, z3, forD_step (e1 := [C, some (.val (.int c)), some (.own (acc.map .int)), some (.val (.int t))]) (e2 := [C, some (.val (.int c)), some (.own ((acc ++ [t + c]).map .int)), some (.val (.int (t + c)))]) rfl ?_ (ih.trans ?_)⟩
    · rw [List.map_append]
      simp only [sSeq, sSet, sOwn, sPar, sParL,  sIf, sRet, sRetL, sRetO, sDrop, sAug, sApp, sFrz, frz, sAsg, gSet, gsNil, gsCons, gTupF, Fi.gSub, sFor, iL, iT, iR1, iR2, iZ, iEn, itemsK, eVar, eC, Fi.e2, Fi.e1, asB, eChain, tAndF, tOrF, tNotF, eAnd, eOr, eNot, eIf, aNil, aCons, eTup, lLst, eL, eCall, lCall, eCallF, lCallF, eSlT, lSl, oNone, oSome, ownIx, ownLen, lLc, wipeE, pYes, sNext, fnD, entry, fAdd_int, fSub, fMul_l, fMul_r, fDiv_ok, fMod_ok, fPow_ok, fLt, fLe, fGt, fGe, fEq_int, fEq_str, fEq_bool, fNe_int, fNe_str, fNe_bool, isN, fIs, fIsNot, fIx, fNeg, fLen, fMin, fMax, fTuple, fList, fIntB, fSum, fAll, fAny, at_0, at_1, at_2, eT, eS, eStep, eR, getInts_map, Option.bind_some, Option.map_some, List.getElem?_cons_succ, List.getElem?_cons_zero, List.set_cons_succ, List.set_cons_zero, List.length_cons, List.length_nil, List.length_map, List.map_cons, List.map_nil, List.nil_append, List.cons_append, List.replicate, Nat.zero_add, Nat.reduceAdd, Nat.reduceSub, decide_true, decide_false, reduceIte, Nat.reduceLeDiff, Nat.reduceLT, Int.reduceLT, Int.reduceLE, Int.reduceNeg, Int.reducePow, and_self, or_self, and_true, true_and, or_true, true_or, Bool.not_true, Bool.not_false, pour_spend, spend_pour, lp_first_sums_0, hl]
    · rw [psum, List.append_assoc]
      rfl
theorem fsum_ok {caps : List Int} (hc : caps.length ≤ 100) : F_first_sums [eT caps] = some (.own ((psum 0 caps).map .int)) := by
  obtain ⟨z1, z3, h⟩ := fsum_loop (some (.val (eT caps))) caps [] 0 none (by simp; omega)
  refine fn_retL ?_
  unfold b_first_sums
  simp only [eT, List.map_nil, List.nil_append] at h ⊢
  simp only [sSeq, sSet, sOwn, sPar, sParL,  sIf, sRet, sRetL, sRetO, sDrop, sAug, sApp, sFrz, frz, sAsg, gSet, gsNil, gsCons, gTupF, Fi.gSub, sFor, iL, iT, iR1, iR2, iZ, iEn, itemsK, eVar, eC, Fi.e2, Fi.e1, asB, eChain, tAndF, tOrF, tNotF, eAnd, eOr, eNot, eIf, aNil, aCons, eTup, lLst, eL, eCall, lCall, eCallF, lCallF, eSlT, lSl, oNone, oSome, ownIx, ownLen, lLc, wipeE, pYes, sNext, fnD, entry, fAdd_int, fSub, fMul_l, fMul_r, fDiv_ok, fMod_ok, fPow_ok, fLt, fLe, fGt, fGe, fEq_int, fEq_str, fEq_bool, fNe_int, fNe_str, fNe_bool, isN, fIs, fIsNot, fIx, fNeg, fLen, fMin, fMax, fTuple, fList, fIntB, fSum, fAll, fAny, at_0, at_1, at_2, eT, eS, eStep, eR, getInts_map, Option.bind_some, Option.map_some, List.getElem?_cons_succ, List.getElem?_cons_zero, List.set_cons_succ, List.set_cons_zero, List.length_cons, List.length_nil, List.length_map, List.map_cons, List.map_nil, List.nil_append, List.cons_append, List.replicate, Nat.zero_add, Nat.reduceAdd, Nat.reduceSub, decide_true, decide_false, reduceIte, Nat.reduceLeDiff, Nat.reduceLT, Int.reduceLT, Int.reduceLE, Int.reduceNeg, Int.reducePow, and_self, or_self, and_true, true_and, or_true, true_or, Bool.not_true, Bool.not_false, pour_spend, spend_pour, h, Nat.zero_le]
abbrev ePair (p : Int × Int) : PyData := .tuple [.int p.1, .int p.2]
def effS (t : Step) (k : Nat) (c : Int) (p : Int × Int) : Int × Int := match t with
  | .pour a => (p.1 + a, min c (p.2 + a))
  | .spend i a => if (i : Int) ≤ (k : Int) then (p.1 - a, p.2 - a) else p
def effRow (t : Step) : Nat → List Int → List (Int × Int) → List (Int × Int)
  | k, c :: cs, p :: ps => effS t k c p :: effRow t (k + 1) cs ps
  | _, _, ps => ps
theorem effRow_len (t : Step) : ∀ (k : Nat) (cs : List Int) (ps : List (Int × Int)), (effRow t k cs ps).length = ps.length
  | _, [], ps => by simp [effRow]
  | _, _ :: _, [] => by simp [effRow]
  | k, c :: cs, p :: ps => by rw [effRow, List.length_cons, effRow_len, List.length_cons]
def effA (sums : List Int) : List (Int × Int) → List Step → List (Int × Int)
  | ps, [] => ps
  | ps, t :: s => effA sums (effRow t 0 sums ps) s
def effL (caps : List Int) (s : List Step) : List (Int × Int) := effA (psum 0 caps) ((psum 0 caps).map fun c => ((0 : Int), c)) s
theorem erow_loop (C S : Option Sl) (t : Step) : ∀ (cs : List Int) (pd pr : List (Int × Int)) (i : Nat) (y4 y5 y6 y7 y8 : Option Sl), pr.length = cs.length → pd.length = i → ∃ z5 z6 z7 z8,
    forD (gTupF 2 (gsCons (gSet 5) (gsCons (gSet 6) gsNil))) lp_prefix_effects_0 (List.zipWith (fun (i : Nat) y => .tuple [.int (i : Int), y]) (List.range' i cs.length) (cs.map .int)) [C, S, some (.own ((pd ++ pr).map ePair)), some (.val (eStep t)), y4, y5, y6, y7, y8]
      = some (.next [C, S, some (.own ((pd ++ effRow t i cs pr).map ePair)), some (.val (eStep t)), y4, z5, z6, z7, z8])
  | [], pd, pr, i, y4, y5, y6, y7, y8, hr, _ => ⟨y5, y6, y7, y8, by
    have : pr = [] := List.eq_nil_of_length_eq_zero hr
    subst this
    rfl⟩
  | c :: cs, pd, [], i, y4, y5, y6, y7, y8, hr, _ => by simp at hr
  | c :: cs, pd, p :: pr, i, y4, y5, y6, y7, y8, hr, hd => by
    have hat : atI ((pd ++ p :: pr).map ePair) (i : Int) = some (.tuple [.int p.1, .int p.2]) := by
      refine atI_nat ?_
      rw [List.getElem?_map, List.getElem?_append_right (by omega), hd, Nat.sub_self]
      rfl
    have hx : ixN (pd ++ p :: pr).length (i : Int) = some i := ixN_nat (by simp; omega)
    have hset : ∀ q1 q2 : Int, ((pd ++ p :: pr).map ePair).set i (.tuple [.int q1, .int q2]) = (pd ++ (q1, q2) :: pr).map ePair := fun q1 q2 => by
      show ((pd ++ p :: pr).map ePair).set i (ePair (q1, q2)) = _
      rw [← List.map_set, List.set_append, if_neg (by omega), hd, Nat.sub_self]
      rfl
    obtain ⟨z5, z6, z7, z8, ih⟩ := erow_loop C S t cs (pd ++ [effS t i c p]) pr (i + 1) y4 (some (.val (.int i))) (some (.val (.int c))) (some (.val (.int p.1))) (some (.val (.int p.2))) (by simpa using hr) (by simp [hd])
    rw [List.append_assoc, List.append_assoc] at ih
    refine ⟨z5, z6, z7, z8, ?_⟩
    rw [List.length_cons, List.range'_succ, List.map_cons, List.zipWith_cons_cons]
    refine forD_step (e1 := [C, S, some (.own ((pd ++ p :: pr).map ePair)), some (.val (eStep t)), y4, some (.val (.int i)), some (.val (.int c)), y7, y8]) (e2 := [C, S, some (.own ((pd ++ effS t i c p :: pr).map ePair)), some (.val (eStep t)), y4, some (.val (.int i)), some (.val (.int c)), some (.val (.int p.1)), some (.val (.int p.2))]) rfl ?_ ih
    cases t with
    | pour a =>
      simp only [sSeq, sSet, sOwn, sPar, sParL,  sIf, sRet, sRetL, sRetO, sDrop, sAug, sApp, sFrz, frz, sAsg, gSet, gsNil, gsCons, gTupF, Fi.gSub, sFor, iL, iT, iR1, iR2, iZ, iEn, itemsK, eVar, eC, Fi.e2, Fi.e1, asB, eChain, tAndF, tOrF, tNotF, eAnd, eOr, eNot, eIf, aNil, aCons, eTup, lLst, eL, eCall, lCall, eCallF, lCallF, eSlT, lSl, oNone, oSome, ownIx, ownLen, lLc, wipeE, pYes, sNext, fnD, entry, fAdd_int, fSub, fMul_l, fMul_r, fDiv_ok, fMod_ok, fPow_ok, fLt, fLe, fGt, fGe, fEq_int, fEq_str, fEq_bool, fNe_int, fNe_str, fNe_bool, isN, fIs, fIsNot, fIx, fNeg, fLen, fMin, fMax, fTuple, fList, fIntB, fSum, fAll, fAny, at_0, at_1, at_2, eT, eS, eStep, eR, getInts_map, Option.bind_some, Option.map_some, List.getElem?_cons_succ, List.getElem?_cons_zero, List.set_cons_succ, List.set_cons_zero, List.length_cons, List.length_nil, List.length_map, List.map_cons, List.map_nil, List.nil_append, List.cons_append, List.replicate, Nat.zero_add, Nat.reduceAdd, Nat.reduceSub, decide_true, decide_false, reduceIte, Nat.reduceLeDiff, Nat.reduceLT, Int.reduceLT, Int.reduceLE, Int.reduceNeg, Int.reducePow, and_self, or_self, and_true, true_and, or_true, true_or, Bool.not_true, Bool.not_false, pour_spend, spend_pour, lp_prefix_effects_0, hat, hx, hset, effS]
    | spend j a =>
      by_cases hj : (j : Int) ≤ (i : Int)
      · simp only [sSeq, sSet, sOwn, sPar, sParL,  sIf, sRet, sRetL, sRetO, sDrop, sAug, sApp, sFrz, frz, sAsg, gSet, gsNil, gsCons, gTupF, Fi.gSub, sFor, iL, iT, iR1, iR2, iZ, iEn, itemsK, eVar, eC, Fi.e2, Fi.e1, asB, eChain, tAndF, tOrF, tNotF, eAnd, eOr, eNot, eIf, aNil, aCons, eTup, lLst, eL, eCall, lCall, eCallF, lCallF, eSlT, lSl, oNone, oSome, ownIx, ownLen, lLc, wipeE, pYes, sNext, fnD, entry, fAdd_int, fSub, fMul_l, fMul_r, fDiv_ok, fMod_ok, fPow_ok, fLt, fLe, fGt, fGe, fEq_int, fEq_str, fEq_bool, fNe_int, fNe_str, fNe_bool, isN, fIs, fIsNot, fIx, fNeg, fLen, fMin, fMax, fTuple, fList, fIntB, fSum, fAll, fAny, at_0, at_1, at_2, eT, eS, eStep, eR, getInts_map, Option.bind_some, Option.map_some, List.getElem?_cons_succ, List.getElem?_cons_zero, List.set_cons_succ, List.set_cons_zero, List.length_cons, List.length_nil, List.length_map, List.map_cons, List.map_nil, List.nil_append, List.cons_append, List.replicate, Nat.zero_add, Nat.reduceAdd, Nat.reduceSub, decide_true, decide_false, reduceIte, Nat.reduceLeDiff, Nat.reduceLT, Int.reduceLT, Int.reduceLE, Int.reduceNeg, Int.reducePow, and_self, or_self, and_true, true_and, or_true, true_or, Bool.not_true, Bool.not_false, pour_spend, spend_pour, lp_prefix_effects_0, hat, hx, hset, effS, hj]
      · simp only [sSeq, sSet, sOwn, sPar, sParL,  sIf, sRet, sRetL, sRetO, sDrop, sAug, sApp, sFrz, frz, sAsg, gSet, gsNil, gsCons, gTupF, Fi.gSub, sFor, iL, iT, iR1, iR2, iZ, iEn, itemsK, eVar, eC, Fi.e2, Fi.e1, asB, eChain, tAndF, tOrF, tNotF, eAnd, eOr, eNot, eIf, aNil, aCons, eTup, lLst, eL, eCall, lCall, eCallF, lCallF, eSlT, lSl, oNone, oSome, ownIx, ownLen, lLc, wipeE, pYes, sNext, fnD, entry, fAdd_int, fSub, fMul_l, fMul_r, fDiv_ok, fMod_ok, fPow_ok, fLt, fLe, fGt, fGe, fEq_int, fEq_str, fEq_bool, fNe_int, fNe_str, fNe_bool, isN, fIs, fIsNot, fIx, fNeg, fLen, fMin, fMax, fTuple, fList, fIntB, fSum, fAll, fAny, at_0, at_1, at_2, eT, eS, eStep, eR, getInts_map, Option.bind_some, Option.map_some, List.getElem?_cons_succ, List.getElem?_cons_zero, List.set_cons_succ, List.set_cons_zero, List.length_cons, List.length_nil, List.length_map, List.map_cons, List.map_nil, List.nil_append, List.cons_append, List.replicate, Nat.zero_add, Nat.reduceAdd, Nat.reduceSub, decide_true, decide_false, reduceIte, Nat.reduceLeDiff, Nat.reduceLT, Int.reduceLT, Int.reduceLE, Int.reduceNeg, Int.reducePow, and_self, or_self, and_true, true_and, or_true, true_or, Bool.not_true, Bool.not_false, pour_spend, spend_pour, lp_prefix_effects_0, hat, hx, hset, effS, hj]
theorem eff_loop {caps : List Int} (hc : caps.length ≤ 100) (S : Option Sl) : ∀ (s : List Step) (ps : List (Int × Int)) (y3 y4 y5 y6 y7 y8 : Option Sl), ps.length = caps.length → ∃ z3 z5 z6 z7 z8,
    forD (gSet 3) lp_prefix_effects_1 (s.map eStep) [some (.val (eT caps)), S, some (.own (ps.map ePair)), y3, y4, y5, y6, y7, y8] = some (.next [some (.val (eT caps)), S, some (.own ((effA (psum 0 caps) ps s).map ePair)), z3, y4, z5, z6, z7, z8])
  | [], ps, y3, y4, y5, y6, y7, y8, _ => ⟨y3, y5, y6, y7, y8, rfl⟩
  | t :: s, ps, y3, y4, y5, y6, y7, y8, h => by
    have hf := fsum_ok hc
    obtain ⟨w5, w6, w7, w8, hw⟩ := erow_loop (some (.val (eT caps))) S t (psum 0 caps) [] ps 0 y4 y5 y6 y7 y8 (by rw [psum_len]; exact h) rfl
    obtain ⟨z3, z5, z6, z7, z8, ih⟩ := eff_loop hc S s (effRow t 0 (psum 0 caps) ps) (some (.val (eStep t))) y4 w5 w6 w7 w8 (by rw [effRow_len]; exact h)
    refine ⟨z3, z5, z6, z7, z8, forD_step (e1 := [some (.val (eT caps)), S, some (.own (ps.map ePair)), some (.val (eStep t)), y4, y5, y6, y7, y8]) rfl ?_ ih⟩
    rw [List.nil_append, List.nil_append, ← List.range_eq_range'] at hw
    simp only [eT] at hf hw ⊢
    generalize eStep t = T at hw ⊢
    simp only [sSeq, sSet, sOwn, sPar, sParL,  sIf, sRet, sRetL, sRetO, sDrop, sAug, sApp, sFrz, frz, sAsg, gSet, gsNil, gsCons, gTupF, Fi.gSub, sFor, iL, iT, iR1, iR2, iZ, iEn, itemsK, eVar, eC, Fi.e2, Fi.e1, asB, eChain, tAndF, tOrF, tNotF, eAnd, eOr, eNot, eIf, aNil, aCons, eTup, lLst, eL, eCall, lCall, eCallF, lCallF, eSlT, lSl, oNone, oSome, ownIx, ownLen, lLc, wipeE, pYes, sNext, fnD, entry, fAdd_int, fSub, fMul_l, fMul_r, fDiv_ok, fMod_ok, fPow_ok, fLt, fLe, fGt, fGe, fEq_int, fEq_str, fEq_bool, fNe_int, fNe_str, fNe_bool, isN, fIs, fIsNot, fIx, fNeg, fLen, fMin, fMax, fTuple, fList, fIntB, fSum, fAll, fAny, at_0, at_1, at_2, eT, eS, eStep, eR, getInts_map, Option.bind_some, Option.map_some, List.getElem?_cons_succ, List.getElem?_cons_zero, List.set_cons_succ, List.set_cons_zero, List.length_cons, List.length_nil, List.length_map, List.map_cons, List.map_nil, List.nil_append, List.cons_append, List.replicate, Nat.zero_add, Nat.reduceAdd, Nat.reduceSub, decide_true, decide_false, reduceIte, Nat.reduceLeDiff, Nat.reduceLT, Int.reduceLT, Int.reduceLE, Int.reduceNeg, Int.reducePow, and_self, or_self, and_true, true_and, or_true, true_or, Bool.not_true, Bool.not_false, pour_spend, spend_pour, lp_prefix_effects_1, hf, enumD, hw]
theorem zero_lc {env : En} (h : 4 < env.length) : ∀ l : List Int, lcD (gSet 4) pYes (eTup (aCons (eC (.int 0)) (aCons (eVar 4) aNil))) env (l.map .int) = some ((l.map fun c => ((0 : Int), c)).map ePair)
  | [] => rfl
  | c :: l => by
    have ih := zero_lc h l
    have hg : ∀ x : Option Sl, (env.set 4 x)[4]? = some x := fun x => List.getElem?_set_self h
    rw [List.map_cons, List.map_cons, List.map_cons]
    simp only [sSeq, sSet, sOwn, sPar, sParL,  sIf, sRet, sRetL, sRetO, sDrop, sAug, sApp, sFrz, frz, sAsg, gSet, gsNil, gsCons, gTupF, Fi.gSub, sFor, iL, iT, iR1, iR2, iZ, iEn, itemsK, eVar, eC, Fi.e2, Fi.e1, asB, eChain, tAndF, tOrF, tNotF, eAnd, eOr, eNot, eIf, aNil, aCons, eTup, lLst, eL, eCall, lCall, eCallF, lCallF, eSlT, lSl, oNone, oSome, ownIx, ownLen, lLc, wipeE, pYes, sNext, fnD, entry, fAdd_int, fSub, fMul_l, fMul_r, fDiv_ok, fMod_ok, fPow_ok, fLt, fLe, fGt, fGe, fEq_int, fEq_str, fEq_bool, fNe_int, fNe_str, fNe_bool, isN, fIs, fIsNot, fIx, fNeg, fLen, fMin, fMax, fTuple, fList, fIntB, fSum, fAll, fAny, at_0, at_1, at_2, eT, eS, eStep, eR, getInts_map, Option.bind_some, Option.map_some, List.getElem?_cons_succ, List.getElem?_cons_zero, List.set_cons_succ, List.set_cons_zero, List.length_cons, List.length_nil, List.length_map, List.map_cons, List.map_nil, List.nil_append, List.cons_append, List.replicate, Nat.zero_add, Nat.reduceAdd, Nat.reduceSub, decide_true, decide_false, reduceIte, Nat.reduceLeDiff, Nat.reduceLT, Int.reduceLT, Int.reduceLE, Int.reduceNeg, Int.reducePow, and_self, or_self, and_true, true_and, or_true, true_or, Bool.not_true, Bool.not_false, pour_spend, spend_pour, lcD, hg, ih]
theorem prefix_ok {caps : List Int} {s : List Step} (hc : caps.length ≤ 100) : F_prefix_effects [eT caps, eS s] = some (.own ((effL caps s).map ePair)) := by
  have hf := fsum_ok hc
  obtain ⟨z3, z5, z6, z7, z8, h⟩ := eff_loop hc (some (.val (eS s))) s ((psum 0 caps).map fun c => ((0 : Int), c)) none none none none none none (by rw [List.length_map, psum_len])
  have hl : (psum 0 caps).length < 100000 := by rw [psum_len]; omega
  have hz : ∀ env : En, 4 < env.length → _ := fun env h => zero_lc (env := env) h (psum 0 caps)
  refine fn_retL ?_
  unfold b_prefix_effects
  simp only [eT, eS] at hf h ⊢
  generalize s.map eStep = sS at h ⊢
  simp only [sSeq, sSet, sOwn, sPar, sParL,  sIf, sRet, sRetL, sRetO, sDrop, sAug, sApp, sFrz, frz, sAsg, gSet, gsNil, gsCons, gTupF, Fi.gSub, sFor, iL, iT, iR1, iR2, iZ, iEn, itemsK, eVar, eC, Fi.e2, Fi.e1, asB, eChain, tAndF, tOrF, tNotF, eAnd, eOr, eNot, eIf, aNil, aCons, eTup, lLst, eL, eCall, lCall, eCallF, lCallF, eSlT, lSl, oNone, oSome, ownIx, ownLen, lLc, wipeE, pYes, sNext, fnD, entry, fAdd_int, fSub, fMul_l, fMul_r, fDiv_ok, fMod_ok, fPow_ok, fLt, fLe, fGt, fGe, fEq_int, fEq_str, fEq_bool, fNe_int, fNe_str, fNe_bool, isN, fIs, fIsNot, fIx, fNeg, fLen, fMin, fMax, fTuple, fList, fIntB, fSum, fAll, fAny, at_0, at_1, at_2, eT, eS, eStep, eR, getInts_map, Option.bind_some, Option.map_some, List.getElem?_cons_succ, List.getElem?_cons_zero, List.set_cons_succ, List.set_cons_zero, List.length_cons, List.length_nil, List.length_map, List.map_cons, List.map_nil, List.nil_append, List.cons_append, List.replicate, Nat.zero_add, Nat.reduceAdd, Nat.reduceSub, decide_true, decide_false, reduceIte, Nat.reduceLeDiff, Nat.reduceLT, Int.reduceLT, Int.reduceLE, Int.reduceNeg, Int.reducePow, and_self, or_self, and_true, true_and, or_true, true_or, Bool.not_true, Bool.not_false, pour_spend, spend_pour, hf, hl, hz, h, effL]
end Lw

namespace Lw
open PySem L2 Fi
/-! ### flat tuples and lists equal themselves -/
def flt : PyData → Bool
  | .none => true
  | .bool _ => true
  | .int _ => true
  | .str x => PyData.canLay0 (.str x)
  | _ => false
end Lw

namespace Lw
open PySem L2 Fi
/-- nowhere more -/
def Le : List Int → List Int → Prop
  | [], [] => True
  | a :: as, b :: bs => a ≤ b ∧ Le as bs
  | _, _ => False
theorem Le.refl : ∀ l : List Int, Le l l
  | [] => trivial
  | _ :: l => ⟨Int.le_refl _, Le.refl l⟩
theorem Le.len : ∀ {a b : List Int}, Le a b → a.length = b.length
  | [], [], _ => rfl
  | _ :: _, _ :: _, h => by rw [List.length_cons, List.length_cons, h.2.len]
  | [], _ :: _, h => h.elim
  | _ :: _, [], h => h.elim
theorem Le.get : ∀ {a b : List Int} (i : Nat), Le a b → a.getD i 0 ≤ b.getD i 0
  | [], [], _, _ => Int.le_refl _
  | _ :: _, _ :: _, 0, h => h.1
  | _ :: as, _ :: bs, i + 1, h => by
    have := h.2.get i
    simpa using this
  | [], _ :: _, _, h => h.elim
  | _ :: _, [], _, h => h.elim
theorem Le.set : ∀ {a b : List Int} (i : Nat) {x y : Int}, Le a b → x ≤ y → Le (a.set i x) (b.set i y)
  | [], [], _, _, _, _, _ => trivial
  | _ :: _, _ :: _, 0, _, _, h, q => ⟨q, h.2⟩
  | _ :: _, _ :: _, i + 1, _, _, h, q => ⟨h.1, h.2.set i q⟩
  | [], _ :: _, _, _, _, h, _ => h.elim
  | _ :: _, [], _, _, _, h, _ => h.elim
theorem Le.trans : ∀ {a b c : List Int}, Le a b → Le b c → Le a c
  | [], [], [], _, _ => trivial
  | _ :: _, _ :: _, _ :: _, h, q => ⟨Int.le_trans h.1 q.1, h.2.trans q.2⟩
  | [], _ :: _, _, h, _ => h.elim
  | _ :: _, [], _, h, _ => h.elim
  | [], [], _ :: _, _, q => q.elim
  | _ :: _, _ :: _, [], _, q => q.elim
theorem Le.antisymm : ∀ {a b : List Int}, Le a b → Le b a → a = b
  | [], [], _, _ => rfl
  | _ :: _, _ :: _, h, q => by rw [Int.le_antisymm h.1 q.1, h.2.antisymm q.2]
  | [], _ :: _, h, _ => h.elim
  | _ :: _, [], h, _ => h.elim
theorem pour_mono : ∀ {cs l m : List Int} {a b : Int}, cs.length = l.length → Le l m → a ≤ b → Le (pourM cs l a).1 (pourM cs m b).1 ∧ (pourM cs l a).2 ≤ (pourM cs m b).2
  | [], [], [], a, b, _, _, h => ⟨trivial, h⟩
  | c :: cs, x :: l, y :: m, a, b, hl, h, hab => by
    have h1 := h.1
    have ih := pour_mono (cs := cs) (l := l) (m := m) (a := a - min a (c - x)) (b := b - min b (c - y)) (by simpa using hl) h.2 (by omega)
    exact ⟨⟨by omega, ih.1⟩, ih.2⟩
  | [], _ :: _, _, _, _, hl, _, _ => by simp at hl
  | _ :: _, [], _, _, _, hl, _, _ => by simp at hl
  | _, [], _ :: _, _, _, _, h, _ => h.elim
  | _, _ :: _, [], _, _, _, h, _ => h.elim
theorem run_mono {caps : List Int} : ∀ {s : List Step} {l m : List Int} {x y : Int} {p : List Int × Int}, caps.length = l.length → Le l m → x ≤ y → runA caps l x s = some p → ∃ q, runA caps m y s = some q ∧ Le p.1 q.1 ∧ p.2 ≤ q.2
  | [], l, m, x, y, p, _, h, hxy, e => by
    cases e
    exact ⟨_, rfl, h, hxy⟩
  | .pour a :: s, l, m, x, y, p, hl, h, hxy, e => by
    obtain ⟨h1, h2⟩ := pour_mono (a := a) (b := a) hl h (Int.le_refl _)
    exact run_mono (s := s) (l := (pourM caps l a).1) (m := (pourM caps m a).1) (x := x + (pourM caps l a).2) (y := y + (pourM caps m a).2) (by rw [pourM_len hl, hl]) h1 (by omega) e
  | .spend i a :: s, l, m, x, y, p, hl, h, hxy, e => by
    have hg := h.get i
    simp only [runA, stepM] at e ⊢
    by_cases hlt : l.getD i 0 < a
    · rw [if_pos hlt] at e
      cases e
    · rw [if_neg hlt] at e
      rw [if_neg (by omega)]
      exact run_mono (s := s) (l := l.set i (l.getD i 0 - a)) (m := m.set i (m.getD i 0 - a)) (x := x + 0) (y := y + 0) (by rw [List.length_set, hl]) (h.set i (by omega)) (by omega) e
/-- a script that is possible behind a pour is possible behind a larger one -/
theorem pour_up {caps lv : List Int} {s : List Step} {a b : Int} (hl : caps.length = lv.length) (hab : a ≤ b) (h : runM caps lv (.pour a :: s) ≠ none) : runM caps lv (.pour b :: s) ≠ none := by
  obtain ⟨h1, h2⟩ := pour_mono (a := a) (b := b) hl (Le.refl lv) hab
  cases e : runM caps lv (.pour a :: s) with
  | none => exact absurd e h
  | some p =>
    obtain ⟨q, hq, _⟩ := run_mono (s := s) (x := 0 + (pourM caps lv a).2) (y := 0 + (pourM caps lv b).2) (by rw [pourM_len hl, hl]) h1 (by omega) e
    have : runM caps lv (.pour b :: s) = some q := hq
    rw [this]
    exact fun z => by cases z
theorem spend_down {caps lv : List Int} {s : List Step} {i : Nat} {a b : Int} (hl : caps.length = lv.length) (hab : a ≤ b) (h : runM caps lv (.spend i b :: s) ≠ none) : runM caps lv (.spend i a :: s) ≠ none := by
  simp only [runM, runA, stepM] at h ⊢
  by_cases hb : lv.getD i 0 < b
  · rw [if_pos hb] at h
    exact absurd rfl h
  · rw [if_neg hb] at h
    rw [if_neg (by omega)]
    cases e : runA caps (lv.set i (lv.getD i 0 - b)) (0 + 0) s with
    | none => exact absurd e h
    | some p =>
      obtain ⟨q, hq, _⟩ := run_mono (s := s) (x := 0 + 0) (y := 0 + 0) (by rw [List.length_set, hl]) ((Le.refl lv).set i (show lv.getD i 0 - b ≤ lv.getD i 0 - a by omega)) (Int.le_refl _) e
      show runA caps (lv.set i (lv.getD i 0 - a)) (0 + 0) s ≠ none
      rw [hq]
      exact fun z => by cases z
theorem set_self : ∀ {l : List Int} {i : Nat}, l.set i (l.getD i 0) = l
  | [], _ => rfl
  | _ :: _, 0 => rfl
  | x :: l, i + 1 => by
    have := set_self (l := l) (i := i)
    simpa using this
theorem spend_zero {caps lv : List Int} {s : List Step} {i : Nat} (h : 0 ≤ lv.getD i 0) : runM caps lv (.spend i 0 :: s) = runM caps lv s := by
  simp only [runM, runA, stepM]
  rw [if_neg (by omega), Int.sub_zero, set_self]
  rfl
end Lw

namespace Lw
open PySem L2 Fi
theorem isN_eR (r : Option (List Int × Int)) : isN (eR r) = r.isNone := by
  cases r <;> rfl
theorem cons_add {t : Step} {s : List Step} (h : s.length ≤ 1000) : fAdd (.tuple [eStep t]) (.tuple (s.map eStep)) = some (.tuple ((t :: s).map eStep)) := by
  rw [fAdd_tup (by simp; omega)]
  rfl
theorem cons_ok {n : Nat} {t : Step} {s : List Step} (h : StOk n t) (hs : ∀ t ∈ s, StOk n t) : ∀ u ∈ t :: s, StOk n u := fun u hu => by
  rcases List.mem_cons.mp hu with e | e
  · rw [e]
    exact h
  · exact hs u e
theorem least_loop {caps lv : List Int} {s : List Step} (hc : caps.length ≤ 100) (hl : caps.length = lv.length) (hs : ∀ t ∈ s, StOk caps.length t) (hsl : s.length ≤ 1000) : ∀ (n : Nat) (low high : Int) (y5 : Option Sl), 0 ≤ low → low ≤ high → high - low < 2 ^ n → runM caps lv (.pour high :: s) ≠ none → (∀ k, 0 ≤ k → k < low → runM caps lv (.pour k :: s) = none) →
    ∃ (m : Int) (z5 : Option Sl), 0 ≤ m ∧ m ≤ high ∧ runM caps lv (.pour m :: s) ≠ none ∧ (∀ k, 0 ≤ k → k < m → runM caps lv (.pour k :: s) = none) ∧
      whileD (asB (Fi.e2 fLt (eVar 3) (eVar 4))) lp_least_pour_0 (n + 1) [some (.val (eT caps)), some (.val (eT lv)), some (.val (eS s)), some (.val (.int low)), some (.val (.int high)), y5] = some (.next [some (.val (eT caps)), some (.val (eT lv)), some (.val (eS s)), some (.val (.int m)), some (.val (.int m)), z5])
  | n, low, high, y5, h0, h1, hn, hg, hb => by
    by_cases hlt : low < high
    · cases n with
      | zero => simp at hn; omega
      | succ n =>
        rw [Int.pow_succ] at hn
        have hm0 : 0 ≤ (low + high) / 2 := by omega
        have hml : low ≤ (low + high) / 2 := by omega
        have hmh : (low + high) / 2 < high := by omega
        have r := run_ok hc hl (cons_ok (t := .pour ((low + high) / 2)) hm0 hs)
        have ha := cons_add (t := .pour ((low + high) / 2)) hsl
        have hN := isN_eR (runM caps lv (.pour ((low + high) / 2) :: s))
        cases e : runM caps lv (.pour ((low + high) / 2) :: s) with
        | none =>
          obtain ⟨m, z5, q1, q2, q3, q4, q5⟩ := least_loop hc hl hs hsl n ((low + high) / 2 + 1) high (some (.val (.int ((low + high) / 2)))) (by omega) (by omega) (by omega) hg (fun k k0 k1 => by
            cases e2 : runM caps lv (.pour k :: s) with
            | none => rfl
            | some p => exact absurd e (pour_up (a := k) hl (by omega) (by rw [e2]; exact fun z => by cases z)))
          refine ⟨m, z5, q1, q2, q3, q4, ?_⟩
          rw [e] at r hN
          simp only [eT, eS, eStep] at r ha q5 ⊢
          generalize (Step.pour ((low + high) / 2) :: s).map eStep = W at r ha
          unfold whileD
          simp only [sSeq, sSet, sOwn, sPar, sParL,  sIf, sRet, sRetL, sRetO, sDrop, sAug, sApp, sFrz, frz, sAsg, gSet, gsNil, gsCons, gTupF, Fi.gSub, sFor, iL, iT, iR1, iR2, iZ, iEn, itemsK, eVar, eC, Fi.e2, Fi.e1, asB, eChain, tAndF, tOrF, tNotF, eAnd, eOr, eNot, eIf, aNil, aCons, eTup, lLst, eL, eCall, lCall, eCallF, lCallF, eSlT, lSl, oNone, oSome, ownIx, ownLen, lLc, wipeE, pYes, sNext, fnD, entry, fAdd_int, fSub, fMul_l, fMul_r, fDiv_ok, fMod_ok, fPow_ok, fLt, fLe, fGt, fGe, fEq_int, fEq_str, fEq_bool, fNe_int, fNe_str, fNe_bool, isN, fIs, fIsNot, fIx, fNeg, fLen, fMin, fMax, fTuple, fList, fIntB, fSum, fAll, fAny, at_0, at_1, at_2, eT, eS, eStep, eR, getInts_map, Option.bind_some, Option.map_some, List.getElem?_cons_succ, List.getElem?_cons_zero, List.set_cons_succ, List.set_cons_zero, List.length_cons, List.length_nil, List.length_map, List.map_cons, List.map_nil, List.nil_append, List.cons_append, List.replicate, Nat.zero_add, Nat.reduceAdd, Nat.reduceSub, decide_true, decide_false, reduceIte, Nat.reduceLeDiff, Nat.reduceLT, Int.reduceLT, Int.reduceLE, Int.reduceNeg, Int.reducePow, and_self, or_self, and_true, true_and, or_true, true_or, Bool.not_true, Bool.not_false, pour_spend, spend_pour, lp_least_pour_0, hlt, ha, r, Option.isNone_none]
          exact q5
        | some p =>
          obtain ⟨m, z5, q1, q2, q3, q4, q5⟩ := least_loop hc hl hs hsl n low ((low + high) / 2) (some (.val (.int ((low + high) / 2)))) (by omega) (by omega) (by omega) (by rw [e]; exact fun z => by cases z) hb
          refine ⟨m, z5, q1, by omega, q3, q4, ?_⟩
          rw [e] at r hN
          simp only [eT, eS, eStep] at r ha q5 ⊢
          generalize (Step.pour ((low + high) / 2) :: s).map eStep = W at r ha
          unfold whileD
          simp only [sSeq, sSet, sOwn, sPar, sParL,  sIf, sRet, sRetL, sRetO, sDrop, sAug, sApp, sFrz, frz, sAsg, gSet, gsNil, gsCons, gTupF, Fi.gSub, sFor, iL, iT, iR1, iR2, iZ, iEn, itemsK, eVar, eC, Fi.e2, Fi.e1, asB, eChain, tAndF, tOrF, tNotF, eAnd, eOr, eNot, eIf, aNil, aCons, eTup, lLst, eL, eCall, lCall, eCallF, lCallF, eSlT, lSl, oNone, oSome, ownIx, ownLen, lLc, wipeE, pYes, sNext, fnD, entry, fAdd_int, fSub, fMul_l, fMul_r, fDiv_ok, fMod_ok, fPow_ok, fLt, fLe, fGt, fGe, fEq_int, fEq_str, fEq_bool, fNe_int, fNe_str, fNe_bool, isN, fIs, fIsNot, fIx, fNeg, fLen, fMin, fMax, fTuple, fList, fIntB, fSum, fAll, fAny, at_0, at_1, at_2, eT, eS, eStep, eR, getInts_map, Option.bind_some, Option.map_some, List.getElem?_cons_succ, List.getElem?_cons_zero, List.set_cons_succ, List.set_cons_zero, List.length_cons, List.length_nil, List.length_map, List.map_cons, List.map_nil, List.nil_append, List.cons_append, List.replicate, Nat.zero_add, Nat.reduceAdd, Nat.reduceSub, decide_true, decide_false, reduceIte, Nat.reduceLeDiff, Nat.reduceLT, Int.reduceLT, Int.reduceLE, Int.reduceNeg, Int.reducePow, and_self, or_self, and_true, true_and, or_true, true_or, Bool.not_true, Bool.not_false, pour_spend, spend_pour, lp_least_pour_0, hlt, ha, r, Option.isNone_some]
          exact q5
    · have e : low = high := by omega
      subst e
      refine ⟨low, y5, h0, h1, hg, hb, ?_⟩
      unfold whileD
      simp only [sSeq, sSet, sOwn, sPar, sParL,  sIf, sRet, sRetL, sRetO, sDrop, sAug, sApp, sFrz, frz, sAsg, gSet, gsNil, gsCons, gTupF, Fi.gSub, sFor, iL, iT, iR1, iR2, iZ, iEn, itemsK, eVar, eC, Fi.e2, Fi.e1, asB, eChain, tAndF, tOrF, tNotF, eAnd, eOr, eNot, eIf, aNil, aCons, eTup, lLst, eL, eCall, lCall, eCallF, lCallF, eSlT, lSl, oNone, oSome, ownIx, ownLen, lLc, wipeE, pYes, sNext, fnD, entry, fAdd_int, fSub, fMul_l, fMul_r, fDiv_ok, fMod_ok, fPow_ok, fLt, fLe, fGt, fGe, fEq_int, fEq_str, fEq_bool, fNe_int, fNe_str, fNe_bool, isN, fIs, fIsNot, fIx, fNeg, fLen, fMin, fMax, fTuple, fList, fIntB, fSum, fAll, fAny, at_0, at_1, at_2, eT, eS, eStep, eR, getInts_map, Option.bind_some, Option.map_some, List.getElem?_cons_succ, List.getElem?_cons_zero, List.set_cons_succ, List.set_cons_zero, List.length_cons, List.length_nil, List.length_map, List.map_cons, List.map_nil, List.nil_append, List.cons_append, List.replicate, Nat.zero_add, Nat.reduceAdd, Nat.reduceSub, decide_true, decide_false, reduceIte, Nat.reduceLeDiff, Nat.reduceLT, Int.reduceLT, Int.reduceLE, Int.reduceNeg, Int.reducePow, and_self, or_self, and_true, true_and, or_true, true_or, Bool.not_true, Bool.not_false, pour_spend, spend_pour, hlt]
theorem least_ok {caps lv : List Int} {s : List Step} (hc : caps.length ≤ 100) (hl : caps.length = lv.length) (hs : ∀ t ∈ s, StOk caps.length t) (hsl : s.length ≤ 1000) (h0 : 0 ≤ caps.sum) (h1 : caps.sum < 2 ^ 63) :
    (runM caps lv (.pour caps.sum :: s) = none ∧ F_least_pour [eT caps, eT lv, eS s] = some (.val .none)) ∨
    ∃ m : Int, 0 ≤ m ∧ m ≤ caps.sum ∧ runM caps lv (.pour m :: s) ≠ none ∧ (∀ k, 0 ≤ k → k < m → runM caps lv (.pour k :: s) = none) ∧ F_least_pour [eT caps, eT lv, eS s] = some (.val (.int m)) := by
  have r := run_ok hc hl (cons_ok (t := .pour caps.sum) h0 hs)
  have ha := cons_add (t := .pour caps.sum) hsl
  have hN := isN_eR (runM caps lv (.pour caps.sum :: s))
  cases e : runM caps lv (.pour caps.sum :: s) with
  | none =>
    refine .inl ⟨rfl, fn_ret ?_⟩
    rw [e] at r hN
    unfold b_least_pour
    simp only [eT, eS, eStep] at r ha ⊢
    generalize (Step.pour caps.sum :: s).map eStep = W at r ha
    simp only [sSeq, sSet, sOwn, sPar, sParL,  sIf, sRet, sRetL, sRetO, sDrop, sAug, sApp, sFrz, frz, sAsg, gSet, gsNil, gsCons, gTupF, Fi.gSub, sFor, iL, iT, iR1, iR2, iZ, iEn, itemsK, eVar, eC, Fi.e2, Fi.e1, asB, eChain, tAndF, tOrF, tNotF, eAnd, eOr, eNot, eIf, aNil, aCons, eTup, lLst, eL, eCall, lCall, eCallF, lCallF, eSlT, lSl, oNone, oSome, ownIx, ownLen, lLc, wipeE, pYes, sNext, fnD, entry, fAdd_int, fSub, fMul_l, fMul_r, fDiv_ok, fMod_ok, fPow_ok, fLt, fLe, fGt, fGe, fEq_int, fEq_str, fEq_bool, fNe_int, fNe_str, fNe_bool, isN, fIs, fIsNot, fIx, fNeg, fLen, fMin, fMax, fTuple, fList, fIntB, fSum, fAll, fAny, at_0, at_1, at_2, eT, eS, eStep, eR, getInts_map, Option.bind_some, Option.map_some, List.getElem?_cons_succ, List.getElem?_cons_zero, List.set_cons_succ, List.set_cons_zero, List.length_cons, List.length_nil, List.length_map, List.map_cons, List.map_nil, List.nil_append, List.cons_append, List.replicate, Nat.zero_add, Nat.reduceAdd, Nat.reduceSub, decide_true, decide_false, reduceIte, Nat.reduceLeDiff, Nat.reduceLT, Int.reduceLT, Int.reduceLE, Int.reduceNeg, Int.reducePow, and_self, or_self, and_true, true_and, or_true, true_or, Bool.not_true, Bool.not_false, pour_spend, spend_pour, ha, r, Option.isNone_none]
  | some p =>
    obtain ⟨m, z5, q1, q2, q3, q4, q5⟩ := least_loop hc hl hs hsl 63 0 caps.sum none (Int.le_refl _) h0 (by omega) (by rw [e]; exact fun z => by cases z) (fun k k0 k1 => by omega)
    refine .inr ⟨m, q1, q2, q3, q4, fn_ret ?_⟩
    rw [e] at r hN
    unfold b_least_pour
    simp only [eT, eS, eStep] at r ha q5 ⊢
    generalize (Step.pour caps.sum :: s).map eStep = W at r ha
    have q6 : whileD (asB (Fi.e2 fLt (eVar 3) (eVar 4))) lp_least_pour_0 64 [some (.val (.tuple (caps.map .int))), some (.val (.tuple (lv.map .int))), some (.val (.tuple (s.map eStep))), some (.val (.int 0)), some (.val (.int caps.sum)), none] = _ := q5
    simp only [sSeq, sSet, sOwn, sPar, sParL,  sIf, sRet, sRetL, sRetO, sDrop, sAug, sApp, sFrz, frz, sAsg, gSet, gsNil, gsCons, gTupF, Fi.gSub, sFor, iL, iT, iR1, iR2, iZ, iEn, itemsK, eVar, eC, Fi.e2, Fi.e1, asB, eChain, tAndF, tOrF, tNotF, eAnd, eOr, eNot, eIf, aNil, aCons, eTup, lLst, eL, eCall, lCall, eCallF, lCallF, eSlT, lSl, oNone, oSome, ownIx, ownLen, lLc, wipeE, pYes, sNext, fnD, entry, fAdd_int, fSub, fMul_l, fMul_r, fDiv_ok, fMod_ok, fPow_ok, fLt, fLe, fGt, fGe, fEq_int, fEq_str, fEq_bool, fNe_int, fNe_str, fNe_bool, isN, fIs, fIsNot, fIx, fNeg, fLen, fMin, fMax, fTuple, fList, fIntB, fSum, fAll, fAny, at_0, at_1, at_2, eT, eS, eStep, eR, getInts_map, Option.bind_some, Option.map_some, List.getElem?_cons_succ, List.getElem?_cons_zero, List.set_cons_succ, List.set_cons_zero, List.length_cons, List.length_nil, List.length_map, List.map_cons, List.map_nil, List.nil_append, List.cons_append, List.replicate, Nat.zero_add, Nat.reduceAdd, Nat.reduceSub, decide_true, decide_false, reduceIte, Nat.reduceLeDiff, Nat.reduceLT, Int.reduceLT, Int.reduceLE, Int.reduceNeg, Int.reducePow, and_self, or_self, and_true, true_and, or_true, true_or, Bool.not_true, Bool.not_false, pour_spend, spend_pour, ha, r, q6, Option.isNone_some]
theorem largest_loop {caps lv : List Int} {s : List Step} {i : Nat} (hc : caps.length ≤ 100) (hl : caps.length = lv.length) (hs : ∀ t ∈ s, StOk caps.length t) (hsl : s.length ≤ 1000) (hi : i < caps.length) : ∀ (n : Nat) (low high : Int) (y6 : Option Sl), 0 ≤ low → low ≤ high → high - low < 2 ^ n → runM caps lv (.spend i low :: s) ≠ none → (∀ k, high < k → runM caps lv (.spend i k :: s) = none) →
    ∃ (m : Int) (z6 : Option Sl), 0 ≤ m ∧ m ≤ high ∧ runM caps lv (.spend i m :: s) ≠ none ∧ (∀ k, m < k → runM caps lv (.spend i k :: s) = none) ∧
      whileD (asB (Fi.e2 fLt (eVar 4) (eVar 5))) lp_largest_spending_0 (n + 1) [some (.val (eT caps)), some (.val (eT lv)), some (.val (eS s)), some (.val (.int i)), some (.val (.int low)), some (.val (.int high)), y6] = some (.next [some (.val (eT caps)), some (.val (eT lv)), some (.val (eS s)), some (.val (.int i)), some (.val (.int m)), some (.val (.int m)), z6])
  | n, low, high, y6, h0, h1, hn, hg, hb => by
    by_cases hlt : low < high
    · cases n with
      | zero => simp at hn; omega
      | succ n =>
        rw [Int.pow_succ] at hn
        have hm0 : 0 ≤ (low + high + 1) / 2 := by omega
        have hml : low < (low + high + 1) / 2 := by omega
        have hmh : (low + high + 1) / 2 ≤ high := by omega
        have r := run_ok hc hl (cons_ok (t := .spend i ((low + high + 1) / 2)) ⟨hi, hm0⟩ hs)
        have ha := cons_add (t := .spend i ((low + high + 1) / 2)) hsl
        have hN := isN_eR (runM caps lv (.spend i ((low + high + 1) / 2) :: s))
        cases e : runM caps lv (.spend i ((low + high + 1) / 2) :: s) with
        | none =>
          obtain ⟨m, z6, q1, q2, q3, q4, q5⟩ := largest_loop hc hl hs hsl hi n low ((low + high + 1) / 2 - 1) (some (.val (.int ((low + high + 1) / 2)))) (by omega) (by omega) (by omega) hg (fun k k1 => by
            cases e2 : runM caps lv (.spend i k :: s) with
            | none => rfl
            | some p => exact absurd e (spend_down (b := k) hl (by omega) (by rw [e2]; exact fun z => by cases z)))
          refine ⟨m, z6, q1, by omega, q3, q4, ?_⟩
          rw [e] at r hN
          simp only [eT, eS, eStep] at r ha q5 ⊢
          generalize (Step.spend i ((low + high + 1) / 2) :: s).map eStep = W at r ha
          unfold whileD
          simp only [sSeq, sSet, sOwn, sPar, sParL,  sIf, sRet, sRetL, sRetO, sDrop, sAug, sApp, sFrz, frz, sAsg, gSet, gsNil, gsCons, gTupF, Fi.gSub, sFor, iL, iT, iR1, iR2, iZ, iEn, itemsK, eVar, eC, Fi.e2, Fi.e1, asB, eChain, tAndF, tOrF, tNotF, eAnd, eOr, eNot, eIf, aNil, aCons, eTup, lLst, eL, eCall, lCall, eCallF, lCallF, eSlT, lSl, oNone, oSome, ownIx, ownLen, lLc, wipeE, pYes, sNext, fnD, entry, fAdd_int, fSub, fMul_l, fMul_r, fDiv_ok, fMod_ok, fPow_ok, fLt, fLe, fGt, fGe, fEq_int, fEq_str, fEq_bool, fNe_int, fNe_str, fNe_bool, isN, fIs, fIsNot, fIx, fNeg, fLen, fMin, fMax, fTuple, fList, fIntB, fSum, fAll, fAny, at_0, at_1, at_2, eT, eS, eStep, eR, getInts_map, Option.bind_some, Option.map_some, List.getElem?_cons_succ, List.getElem?_cons_zero, List.set_cons_succ, List.set_cons_zero, List.length_cons, List.length_nil, List.length_map, List.map_cons, List.map_nil, List.nil_append, List.cons_append, List.replicate, Nat.zero_add, Nat.reduceAdd, Nat.reduceSub, decide_true, decide_false, reduceIte, Nat.reduceLeDiff, Nat.reduceLT, Int.reduceLT, Int.reduceLE, Int.reduceNeg, Int.reducePow, and_self, or_self, and_true, true_and, or_true, true_or, Bool.not_true, Bool.not_false, pour_spend, spend_pour, lp_largest_spending_0, hlt, ha, r, Option.isNone_none]
          exact q5
        | some p =>
          obtain ⟨m, z6, q1, q2, q3, q4, q5⟩ := largest_loop hc hl hs hsl hi n ((low + high + 1) / 2) high (some (.val (.int ((low + high + 1) / 2)))) (by omega) (by omega) (by omega) (by rw [e]; exact fun z => by cases z) hb
          refine ⟨m, z6, q1, by omega, q3, q4, ?_⟩
          rw [e] at r hN
          simp only [eT, eS, eStep] at r ha q5 ⊢
          generalize (Step.spend i ((low + high + 1) / 2) :: s).map eStep = W at r ha
          unfold whileD
          simp only [sSeq, sSet, sOwn, sPar, sParL,  sIf, sRet, sRetL, sRetO, sDrop, sAug, sApp, sFrz, frz, sAsg, gSet, gsNil, gsCons, gTupF, Fi.gSub, sFor, iL, iT, iR1, iR2, iZ, iEn, itemsK, eVar, eC, Fi.e2, Fi.e1, asB, eChain, tAndF, tOrF, tNotF, eAnd, eOr, eNot, eIf, aNil, aCons, eTup, lLst, eL, eCall, lCall, eCallF, lCallF, eSlT, lSl, oNone, oSome, ownIx, ownLen, lLc, wipeE, pYes, sNext, fnD, entry, fAdd_int, fSub, fMul_l, fMul_r, fDiv_ok, fMod_ok, fPow_ok, fLt, fLe, fGt, fGe, fEq_int, fEq_str, fEq_bool, fNe_int, fNe_str, fNe_bool, isN, fIs, fIsNot, fIx, fNeg, fLen, fMin, fMax, fTuple, fList, fIntB, fSum, fAll, fAny, at_0, at_1, at_2, eT, eS, eStep, eR, getInts_map, Option.bind_some, Option.map_some, List.getElem?_cons_succ, List.getElem?_cons_zero, List.set_cons_succ, List.set_cons_zero, List.length_cons, List.length_nil, List.length_map, List.map_cons, List.map_nil, List.nil_append, List.cons_append, List.replicate, Nat.zero_add, Nat.reduceAdd, Nat.reduceSub, decide_true, decide_false, reduceIte, Nat.reduceLeDiff, Nat.reduceLT, Int.reduceLT, Int.reduceLE, Int.reduceNeg, Int.reducePow, and_self, or_self, and_true, true_and, or_true, true_or, Bool.not_true, Bool.not_false, pour_spend, spend_pour, lp_largest_spending_0, hlt, ha, r, Option.isNone_some]
          exact q5
    · have e : low = high := by omega
      subst e
      refine ⟨low, y6, h0, h1, hg, hb, ?_⟩
      unfold whileD
      simp only [sSeq, sSet, sOwn, sPar, sParL,  sIf, sRet, sRetL, sRetO, sDrop, sAug, sApp, sFrz, frz, sAsg, gSet, gsNil, gsCons, gTupF, Fi.gSub, sFor, iL, iT, iR1, iR2, iZ, iEn, itemsK, eVar, eC, Fi.e2, Fi.e1, asB, eChain, tAndF, tOrF, tNotF, eAnd, eOr, eNot, eIf, aNil, aCons, eTup, lLst, eL, eCall, lCall, eCallF, lCallF, eSlT, lSl, oNone, oSome, ownIx, ownLen, lLc, wipeE, pYes, sNext, fnD, entry, fAdd_int, fSub, fMul_l, fMul_r, fDiv_ok, fMod_ok, fPow_ok, fLt, fLe, fGt, fGe, fEq_int, fEq_str, fEq_bool, fNe_int, fNe_str, fNe_bool, isN, fIs, fIsNot, fIx, fNeg, fLen, fMin, fMax, fTuple, fList, fIntB, fSum, fAll, fAny, at_0, at_1, at_2, eT, eS, eStep, eR, getInts_map, Option.bind_some, Option.map_some, List.getElem?_cons_succ, List.getElem?_cons_zero, List.set_cons_succ, List.set_cons_zero, List.length_cons, List.length_nil, List.length_map, List.map_cons, List.map_nil, List.nil_append, List.cons_append, List.replicate, Nat.zero_add, Nat.reduceAdd, Nat.reduceSub, decide_true, decide_false, reduceIte, Nat.reduceLeDiff, Nat.reduceLT, Int.reduceLT, Int.reduceLE, Int.reduceNeg, Int.reducePow, and_self, or_self, and_true, true_and, or_true, true_or, Bool.not_true, Bool.not_false, pour_spend, spend_pour, hlt]
theorem lspend_ok {caps lv : List Int} {s : List Step} {i : Nat} (hc : caps.length ≤ 100) (hv : Lv caps lv) (hs : ∀ t ∈ s, StOk caps.length t) (hsl : s.length ≤ 1000) (hi : i < caps.length) (h1 : lv.getD i 0 < 2 ^ 63) :
    (runM caps lv s = none ∧ F_largest_spending [eT caps, eT lv, eS s, .int i] = some (.val .none)) ∨
    ∃ m : Int, 0 ≤ m ∧ m ≤ lv.getD i 0 ∧ runM caps lv s ≠ none ∧ runM caps lv (.spend i m :: s) ≠ none ∧ (∀ k, m < k → runM caps lv (.spend i k :: s) = none) ∧ F_largest_spending [eT caps, eT lv, eS s, .int i] = some (.val (.int m)) := by
  have hl := hv.len
  have hil : i < lv.length := by omega
  have h0 := (hv.get hil).1
  have r := run_ok hc hl hs
  have hN := isN_eR (runM caps lv s)
  have hat := at_get hil
  cases e : runM caps lv s with
  | none =>
    refine .inl ⟨rfl, fn_ret ?_⟩
    rw [e] at r hN
    unfold b_largest_spending
    simp only [eT, eS] at r ⊢
    simp only [sSeq, sSet, sOwn, sPar, sParL,  sIf, sRet, sRetL, sRetO, sDrop, sAug, sApp, sFrz, frz, sAsg, gSet, gsNil, gsCons, gTupF, Fi.gSub, sFor, iL, iT, iR1, iR2, iZ, iEn, itemsK, eVar, eC, Fi.e2, Fi.e1, asB, eChain, tAndF, tOrF, tNotF, eAnd, eOr, eNot, eIf, aNil, aCons, eTup, lLst, eL, eCall, lCall, eCallF, lCallF, eSlT, lSl, oNone, oSome, ownIx, ownLen, lLc, wipeE, pYes, sNext, fnD, entry, fAdd_int, fSub, fMul_l, fMul_r, fDiv_ok, fMod_ok, fPow_ok, fLt, fLe, fGt, fGe, fEq_int, fEq_str, fEq_bool, fNe_int, fNe_str, fNe_bool, isN, fIs, fIsNot, fIx, fNeg, fLen, fMin, fMax, fTuple, fList, fIntB, fSum, fAll, fAny, at_0, at_1, at_2, eT, eS, eStep, eR, getInts_map, Option.bind_some, Option.map_some, List.getElem?_cons_succ, List.getElem?_cons_zero, List.set_cons_succ, List.set_cons_zero, List.length_cons, List.length_nil, List.length_map, List.map_cons, List.map_nil, List.nil_append, List.cons_append, List.replicate, Nat.zero_add, Nat.reduceAdd, Nat.reduceSub, decide_true, decide_false, reduceIte, Nat.reduceLeDiff, Nat.reduceLT, Int.reduceLT, Int.reduceLE, Int.reduceNeg, Int.reducePow, and_self, or_self, and_true, true_and, or_true, true_or, Bool.not_true, Bool.not_false, pour_spend, spend_pour, r, hat, Option.isNone_none]
  | some p =>
    have hne : runM caps lv s ≠ none := by rw [e]; exact fun z => by cases z
    obtain ⟨m, z6, q1, q2, q3, q4, q5⟩ := largest_loop hc hl hs hsl hi 63 0 (lv.getD i 0) none (Int.le_refl _) h0 (by omega) (by rw [spend_zero h0]; exact hne) (fun k k1 => by
      simp only [runM, runA, stepM]
      rw [if_pos (by omega)])
    refine .inr ⟨m, q1, q2, fun z => (by cases z), q3, q4, fn_ret ?_⟩
    rw [e] at r hN
    unfold b_largest_spending
    simp only [eT, eS] at r q5 ⊢
    have q6 : whileD (asB (Fi.e2 fLt (eVar 4) (eVar 5))) lp_largest_spending_0 64 [some (.val (.tuple (caps.map .int))), some (.val (.tuple (lv.map .int))), some (.val (.tuple (s.map eStep))), some (.val (.int i)), some (.val (.int 0)), some (.val (.int (lv.getD i 0))), none] = _ := q5
    simp only [sSeq, sSet, sOwn, sPar, sParL,  sIf, sRet, sRetL, sRetO, sDrop, sAug, sApp, sFrz, frz, sAsg, gSet, gsNil, gsCons, gTupF, Fi.gSub, sFor, iL, iT, iR1, iR2, iZ, iEn, itemsK, eVar, eC, Fi.e2, Fi.e1, asB, eChain, tAndF, tOrF, tNotF, eAnd, eOr, eNot, eIf, aNil, aCons, eTup, lLst, eL, eCall, lCall, eCallF, lCallF, eSlT, lSl, oNone, oSome, ownIx, ownLen, lLc, wipeE, pYes, sNext, fnD, entry, fAdd_int, fSub, fMul_l, fMul_r, fDiv_ok, fMod_ok, fPow_ok, fLt, fLe, fGt, fGe, fEq_int, fEq_str, fEq_bool, fNe_int, fNe_str, fNe_bool, isN, fIs, fIsNot, fIx, fNeg, fLen, fMin, fMax, fTuple, fList, fIntB, fSum, fAll, fAny, at_0, at_1, at_2, eT, eS, eStep, eR, getInts_map, Option.bind_some, Option.map_some, List.getElem?_cons_succ, List.getElem?_cons_zero, List.set_cons_succ, List.set_cons_zero, List.length_cons, List.length_nil, List.length_map, List.map_cons, List.map_nil, List.nil_append, List.cons_append, List.replicate, Nat.zero_add, Nat.reduceAdd, Nat.reduceSub, decide_true, decide_false, reduceIte, Nat.reduceLeDiff, Nat.reduceLT, Int.reduceLT, Int.reduceLE, Int.reduceNeg, Int.reducePow, and_self, or_self, and_true, true_and, or_true, true_or, Bool.not_true, Bool.not_false, pour_spend, spend_pour, r, hat, q6, Option.isNone_some]
end Lw

namespace Lw
open PySem L2 Fi
theorem runA_app {caps : List Int} : ∀ (a : List Step) (lv : List Int) (x : Int) (b : List Step), runA caps lv x (a ++ b) = (runA caps lv x a).bind fun p => runA caps p.1 p.2 b
  | [], _, _, _ => rfl
  | t :: a, lv, x, b => by
    simp only [List.cons_append, runA]
    cases stepM caps lv t with
    | none => rfl
    | some p => exact runA_app a p.1 (x + p.2) b
/-! ### a step with another amount -/
def amt (a : Int) : Step → Step
  | .pour _ => .pour a
  | .spend i _ => .spend i a
def amtOf : Step → Int
  | .pour a => a
  | .spend _ a => a
def withA (s : List Step) (k : Nat) (a : Int) : List Step := s.take k ++ (match s[k]? with | some t => [amt a t] | none => []) ++ s.drop (k + 1)
theorem withA_eq {s : List Step} {k : Nat} {t : Step} {a : Int} (h : s[k]? = some t) : withA s k a = s.take k ++ amt a t :: s.drop (k + 1) := by
  unfold withA
  rw [h, List.append_assoc]
  rfl
theorem withA_ok {n : Nat} {s : List Step} {k : Nat} {t : Step} {a : Int} (h : s[k]? = some t) (hs : ∀ u ∈ s, StOk n u) (ha : 0 ≤ a) : ∀ u ∈ withA s k a, StOk n u := fun u hu => by
  rw [withA_eq h] at hu
  rcases List.mem_append.mp hu with q | q
  · exact hs u (List.mem_of_mem_take q)
  · rcases List.mem_cons.mp q with e | e
    · rw [e]
      have := hs t (List.mem_of_getElem? h)
      cases t with
      | pour x => exact ha
      | spend i x => exact ⟨this.1, ha⟩
    · exact hs u (List.mem_of_mem_drop e)
theorem cut_last1 {x : PyData} : cutD [.str "pour", x] none (some (-1)) = [.str "pour"] := rfl
theorem cut_last2 {x y : PyData} : cutD [.str "spend", x, y] none (some (-1)) = [.str "spend", x] := rfl
theorem with_eval {s : List Step} {k : Nat} {t : Step} {a : Int} (h : s[k]? = some t) (hl : s.length ≤ 1000) {b : FS}
    (hb : b = (sRet (Fi.e2 fAdd (Fi.e2 fAdd (eSlT (eVar 0) oNone (oSome (eVar 1))) (eTup (aCons (Fi.e2 fAdd (eSlT (Fi.e2 fIx (eVar 0) (eVar 1)) oNone (oSome (Fi.e1 fNeg (eC (.int 1))))) (eTup (aCons (eVar 2) aNil))) aNil))) (eSlT (eVar 0) (oSome (Fi.e2 fAdd (eVar 1) (eC (.int 1)))) oNone)))) :
    b (entry 3 [eS s, .int k, .int a]) = some (.ret (eS (withA s k a))) := by
  subst hb
  have hk := (List.getElem?_eq_some_iff.mp h).1
  have c1 : cutD (s.map eStep) none (some (k : Int)) = (s.take k).map eStep := by rw [cut_to, List.map_take]
  have c2 : cutD (s.map eStep) (some ((k : Int) + 1)) none = (s.drop (k + 1)).map eStep := by
    have := cut_from (l := s.map eStep) (a := k + 1)
    rw [← List.map_drop] at this
    exact this
  have hat : atI (s.map eStep) (k : Int) = some (eStep t) := by
    refine atI_nat ?_
    rw [List.getElem?_map, h]
    rfl
  have b1 : fAdd (.tuple ((s.take k).map eStep)) (.tuple [eStep (amt a t)]) = some (.tuple ((s.take k ++ [amt a t]).map eStep)) := by
    rw [fAdd_tup (by simp; omega), List.map_append]
    rfl
  have b2 : fAdd (.tuple ((s.take k ++ [amt a t]).map eStep)) (.tuple ((s.drop (k + 1)).map eStep)) = some (.tuple ((withA s k a).map eStep)) := by
    rw [fAdd_tup (by simp; omega), ← List.map_append, withA_eq h, List.append_assoc]
    rfl
  have b3 : ∀ x : PyData, fAdd (.tuple [.str "pour"]) (.tuple [x]) = some (.tuple [.str "pour", x]) := fun x => fAdd_tup (by simp)
  have b4 : ∀ x y : PyData, fAdd (.tuple [.str "spend", x]) (.tuple [y]) = some (.tuple [.str "spend", x, y]) := fun x y => fAdd_tup (by simp)
  simp only [eS]
  generalize (withA s k a).map eStep = W at b2 ⊢
  generalize (s.take k ++ [amt a t]).map eStep = W1 at b1 b2
  generalize (s.take k).map eStep = W2 at b1 c1
  generalize (s.drop (k + 1)).map eStep = W3 at b2 c2
  generalize s.map eStep = W4 at c1 c2 hat ⊢
  cases t with
  | pour x =>
    simp only [amt, eStep] at b1
    simp only [sSeq, sSet, sOwn, sPar, sParL,  sIf, sRet, sRetL, sRetO, sDrop, sAug, sApp, sFrz, frz, sAsg, gSet, gsNil, gsCons, gTupF, Fi.gSub, sFor, iL, iT, iR1, iR2, iZ, iEn, itemsK, eVar, eC, Fi.e2, Fi.e1, asB, eChain, tAndF, tOrF, tNotF, eAnd, eOr, eNot, eIf, aNil, aCons, eTup, lLst, eL, eCall, lCall, eCallF, lCallF, eSlT, lSl, oNone, oSome, ownIx, ownLen, lLc, wipeE, pYes, sNext, fnD, entry, fAdd_int, fSub, fMul_l, fMul_r, fDiv_ok, fMod_ok, fPow_ok, fLt, fLe, fGt, fGe, fEq_int, fEq_str, fEq_bool, fNe_int, fNe_str, fNe_bool, isN, fIs, fIsNot, fIx, fNeg, fLen, fMin, fMax, fTuple, fList, fIntB, fSum, fAll, fAny, at_0, at_1, at_2, eT, eS, eStep, eR, getInts_map, Option.bind_some, Option.map_some, List.getElem?_cons_succ, List.getElem?_cons_zero, List.set_cons_succ, List.set_cons_zero, List.length_cons, List.length_nil, List.length_map, List.map_cons, List.map_nil, List.nil_append, List.cons_append, List.replicate, Nat.zero_add, Nat.reduceAdd, Nat.reduceSub, decide_true, decide_false, reduceIte, Nat.reduceLeDiff, Nat.reduceLT, Int.reduceLT, Int.reduceLE, Int.reduceNeg, Int.reducePow, and_self, or_self, and_true, true_and, or_true, true_or, Bool.not_true, Bool.not_false, pour_spend, spend_pour, hat, c1, c2, cut_last1, b3, b1, b2]
  | spend i x =>
    simp only [amt, eStep] at b1
    simp only [sSeq, sSet, sOwn, sPar, sParL,  sIf, sRet, sRetL, sRetO, sDrop, sAug, sApp, sFrz, frz, sAsg, gSet, gsNil, gsCons, gTupF, Fi.gSub, sFor, iL, iT, iR1, iR2, iZ, iEn, itemsK, eVar, eC, Fi.e2, Fi.e1, asB, eChain, tAndF, tOrF, tNotF, eAnd, eOr, eNot, eIf, aNil, aCons, eTup, lLst, eL, eCall, lCall, eCallF, lCallF, eSlT, lSl, oNone, oSome, ownIx, ownLen, lLc, wipeE, pYes, sNext, fnD, entry, fAdd_int, fSub, fMul_l, fMul_r, fDiv_ok, fMod_ok, fPow_ok, fLt, fLe, fGt, fGe, fEq_int, fEq_str, fEq_bool, fNe_int, fNe_str, fNe_bool, isN, fIs, fIsNot, fIx, fNeg, fLen, fMin, fMax, fTuple, fList, fIntB, fSum, fAll, fAny, at_0, at_1, at_2, eT, eS, eStep, eR, getInts_map, Option.bind_some, Option.map_some, List.getElem?_cons_succ, List.getElem?_cons_zero, List.set_cons_succ, List.set_cons_zero, List.length_cons, List.length_nil, List.length_map, List.map_cons, List.map_nil, List.nil_append, List.cons_append, List.replicate, Nat.zero_add, Nat.reduceAdd, Nat.reduceSub, decide_true, decide_false, reduceIte, Nat.reduceLeDiff, Nat.reduceLT, Int.reduceLT, Int.reduceLE, Int.reduceNeg, Int.reducePow, and_self, or_self, and_true, true_and, or_true, true_or, Bool.not_true, Bool.not_false, pour_spend, spend_pour, hat, c1, c2, cut_last2, b4, b1, b2]
theorem pwith_ok {s : List Step} {k : Nat} {t : Step} {a : Int} (h : s[k]? = some t) (hl : s.length ≤ 1000) : F_with_amount [eS s, .int k, .int a] = some (.val (eS (withA s k a))) := fn_ret (with_eval h hl rfl)
/-! ### judgements -/
def allGe : List Int → List Int → Bool
  | a :: as, b :: bs => decide (b ≤ a) && allGe as bs
  | _, _ => true
def allLe : List Int → List Int → Bool
  | a :: as, b :: bs => decide (a ≤ b) && allLe as bs
  | _, _ => true
theorem allGe_le : ∀ {a b : List Int}, a.length = b.length → (allGe a b = true ↔ Le b a)
  | [], [], _ => by simp [allGe, Le]
  | x :: a, y :: b, h => by
    have := allGe_le (a := a) (b := b) (by simpa using h)
    simp only [allGe, Bool.and_eq_true, decide_eq_true_eq, this, Le]
  | [], _ :: _, h => by simp at h
  | _ :: _, [], h => by simp at h
theorem allLe_le : ∀ {a b : List Int}, a.length = b.length → (allLe a b = true ↔ Le a b)
  | [], [], _ => by simp [allLe, Le]
  | x :: a, y :: b, h => by
    have := allLe_le (a := a) (b := b) (by simpa using h)
    simp only [allLe, Bool.and_eq_true, decide_eq_true_eq, this, Le]
  | [], _ :: _, h => by simp at h
  | _ :: _, [], h => by simp at h
theorem ge_lc {env : En} (h : 9 < env.length) : ∀ (a b : List Int), ∃ l : List Bool, lcD (gTupF 2 (gsCons (gSet 8) (gsCons (gSet 9) gsNil))) pYes (Fi.e2 fGe (eVar 8) (eVar 9)) env (pairs (a.map .int) (b.map .int)) = some (l.map .bool) ∧ l.all id = allGe a b
  | [], _ => ⟨[], by simp [pairs, lcD], by simp [allGe]⟩
  | _ :: _, [] => ⟨[], by simp [pairs, lcD], by simp [allGe]⟩
  | x :: a, y :: b => by
    obtain ⟨l, ih, hl⟩ := ge_lc h a b
    have g1 : ∀ u v : Option Sl, ((env.set 8 u).set 9 v)[8]? = some u := fun u v => by
      rw [List.getElem?_set_ne (by decide), List.getElem?_set_self (by omega)]
    have g2 : ∀ u v : Option Sl, ((env.set 8 u).set 9 v)[9]? = some v := fun u v => List.getElem?_set_self (by rw [List.length_set]; exact h)
    have hp : pairs ((x :: a).map PyData.int) ((y :: b).map PyData.int) = .tuple [.int x, .int y] :: pairs (a.map .int) (b.map .int) := rfl
    refine ⟨decide (y ≤ x) :: l, ?_, by rw [List.all_cons, hl]; rfl⟩
    rw [hp]
    simp only [sSeq, sSet, sOwn, sPar, sParL,  sIf, sRet, sRetL, sRetO, sDrop, sAug, sApp, sFrz, frz, sAsg, gSet, gsNil, gsCons, gTupF, Fi.gSub, sFor, iL, iT, iR1, iR2, iZ, iEn, itemsK, eVar, eC, Fi.e2, Fi.e1, asB, eChain, tAndF, tOrF, tNotF, eAnd, eOr, eNot, eIf, aNil, aCons, eTup, lLst, eL, eCall, lCall, eCallF, lCallF, eSlT, lSl, oNone, oSome, ownIx, ownLen, lLc, wipeE, pYes, sNext, fnD, entry, fAdd_int, fSub, fMul_l, fMul_r, fDiv_ok, fMod_ok, fPow_ok, fLt, fLe, fGt, fGe, fEq_int, fEq_str, fEq_bool, fNe_int, fNe_str, fNe_bool, isN, fIs, fIsNot, fIx, fNeg, fLen, fMin, fMax, fTuple, fList, fIntB, fSum, fAll, fAny, at_0, at_1, at_2, eT, eS, eStep, eR, getInts_map, Option.bind_some, Option.map_some, List.getElem?_cons_succ, List.getElem?_cons_zero, List.set_cons_succ, List.set_cons_zero, List.length_cons, List.length_nil, List.length_map, List.map_cons, List.map_nil, List.nil_append, List.cons_append, List.replicate, Nat.zero_add, Nat.reduceAdd, Nat.reduceSub, decide_true, decide_false, reduceIte, Nat.reduceLeDiff, Nat.reduceLT, Int.reduceLT, Int.reduceLE, Int.reduceNeg, Int.reducePow, and_self, or_self, and_true, true_and, or_true, true_or, Bool.not_true, Bool.not_false, pour_spend, spend_pour, lcD, g1, g2, ih]
theorem le_lc {env : En} (h : 9 < env.length) : ∀ (a b : List Int), ∃ l : List Bool, lcD (gTupF 2 (gsCons (gSet 8) (gsCons (gSet 9) gsNil))) pYes (Fi.e2 fLe (eVar 8) (eVar 9)) env (pairs (a.map .int) (b.map .int)) = some (l.map .bool) ∧ l.all id = allLe a b
  | [], _ => ⟨[], by simp [pairs, lcD], by simp [allLe]⟩
  | _ :: _, [] => ⟨[], by simp [pairs, lcD], by simp [allLe]⟩
  | x :: a, y :: b => by
    obtain ⟨l, ih, hl⟩ := le_lc h a b
    have g1 : ∀ u v : Option Sl, ((env.set 8 u).set 9 v)[8]? = some u := fun u v => by
      rw [List.getElem?_set_ne (by decide), List.getElem?_set_self (by omega)]
    have g2 : ∀ u v : Option Sl, ((env.set 8 u).set 9 v)[9]? = some v := fun u v => List.getElem?_set_self (by rw [List.length_set]; exact h)
    have hp : pairs ((x :: a).map PyData.int) ((y :: b).map PyData.int) = .tuple [.int x, .int y] :: pairs (a.map .int) (b.map .int) := rfl
    refine ⟨decide (x ≤ y) :: l, ?_, by rw [List.all_cons, hl]; rfl⟩
    rw [hp]
    simp only [sSeq, sSet, sOwn, sPar, sParL,  sIf, sRet, sRetL, sRetO, sDrop, sAug, sApp, sFrz, frz, sAsg, gSet, gsNil, gsCons, gTupF, Fi.gSub, sFor, iL, iT, iR1, iR2, iZ, iEn, itemsK, eVar, eC, Fi.e2, Fi.e1, asB, eChain, tAndF, tOrF, tNotF, eAnd, eOr, eNot, eIf, aNil, aCons, eTup, lLst, eL, eCall, lCall, eCallF, lCallF, eSlT, lSl, oNone, oSome, ownIx, ownLen, lLc, wipeE, pYes, sNext, fnD, entry, fAdd_int, fSub, fMul_l, fMul_r, fDiv_ok, fMod_ok, fPow_ok, fLt, fLe, fGt, fGe, fEq_int, fEq_str, fEq_bool, fNe_int, fNe_str, fNe_bool, isN, fIs, fIsNot, fIx, fNeg, fLen, fMin, fMax, fTuple, fList, fIntB, fSum, fAll, fAny, at_0, at_1, at_2, eT, eS, eStep, eR, getInts_map, Option.bind_some, Option.map_some, List.getElem?_cons_succ, List.getElem?_cons_zero, List.set_cons_succ, List.set_cons_zero, List.length_cons, List.length_nil, List.length_map, List.map_cons, List.map_nil, List.nil_append, List.cons_append, List.replicate, Nat.zero_add, Nat.reduceAdd, Nat.reduceSub, decide_true, decide_false, reduceIte, Nat.reduceLeDiff, Nat.reduceLT, Int.reduceLT, Int.reduceLE, Int.reduceNeg, Int.reducePow, and_self, or_self, and_true, true_and, or_true, true_or, Bool.not_true, Bool.not_false, pour_spend, spend_pour, lcD, g1, g2, ih]
def geB (caps lv : List Int) (s : List Step) (k : Nat) (w : List Int) (a : Int) : Bool := match runM caps lv (withA s k a) with
  | none => false
  | some p => allGe p.1 w
def leB (caps lv : List Int) (s : List Step) (k : Nat) (w : List Int) (a : Int) : Bool := match runM caps lv (withA s k a) with
  | none => true
  | some p => allLe p.1 w
theorem judged_ok {caps lv w : List Int} {s : List Step} {k : Nat} {t : Step} {a : Int} (hc : caps.length ≤ 100) (hv : Lv caps lv) (hs : ∀ u ∈ s, StOk caps.length u) (hl : s.length ≤ 1000) (h : s[k]? = some t) (ha : 0 ≤ a) (hw : w.length ≤ 100) :
    F_judged [eT caps, eT lv, eS s, .int k, eT w, .int a] = some (.val (.tuple [.bool (geB caps lv s k w a), .bool (leB caps lv s k w a)])) := by
  have r1 := pwith_ok (a := a) h hl
  have r2 := run_ok hc hv.len (withA_ok h hs ha)
  refine fn_ret ?_
  unfold b_judged geB leB
  cases e : runM caps lv (withA s k a) with
  | none =>
    rw [e] at r2
    simp only [eT, eS] at r1 r2 ⊢
    generalize (withA s k a).map eStep = W at r1 r2
    generalize s.map eStep = sS at r1 ⊢
    simp only [sSeq, sSet, sOwn, sPar, sParL,  sIf, sRet, sRetL, sRetO, sDrop, sAug, sApp, sFrz, frz, sAsg, gSet, gsNil, gsCons, gTupF, Fi.gSub, sFor, iL, iT, iR1, iR2, iZ, iEn, itemsK, eVar, eC, Fi.e2, Fi.e1, asB, eChain, tAndF, tOrF, tNotF, eAnd, eOr, eNot, eIf, aNil, aCons, eTup, lLst, eL, eCall, lCall, eCallF, lCallF, eSlT, lSl, oNone, oSome, ownIx, ownLen, lLc, wipeE, pYes, sNext, fnD, entry, fAdd_int, fSub, fMul_l, fMul_r, fDiv_ok, fMod_ok, fPow_ok, fLt, fLe, fGt, fGe, fEq_int, fEq_str, fEq_bool, fNe_int, fNe_str, fNe_bool, isN, fIs, fIsNot, fIx, fNeg, fLen, fMin, fMax, fTuple, fList, fIntB, fSum, fAll, fAny, at_0, at_1, at_2, eT, eS, eStep, eR, getInts_map, Option.bind_some, Option.map_some, List.getElem?_cons_succ, List.getElem?_cons_zero, List.set_cons_succ, List.set_cons_zero, List.length_cons, List.length_nil, List.length_map, List.map_cons, List.map_nil, List.nil_append, List.cons_append, List.replicate, Nat.zero_add, Nat.reduceAdd, Nat.reduceSub, decide_true, decide_false, reduceIte, Nat.reduceLeDiff, Nat.reduceLT, Int.reduceLT, Int.reduceLE, Int.reduceNeg, Int.reducePow, and_self, or_self, and_true, true_and, or_true, true_or, Bool.not_true, Bool.not_false, pour_spend, spend_pour, r1, r2]
  | some p =>
    rw [e] at r2
    have hpl : (pairs (p.1.map PyData.int) (w.map PyData.int)).length ≤ 1000 := by
      unfold pairs
      rw [List.length_zipWith, List.length_map, List.length_map]
      omega
    have hpl2 : (pairs (p.1.map PyData.int) (w.map PyData.int)).length < 100000 := by omega
    have hge : ∀ x : List (Option Sl), 9 < x.length → _ := fun x h => ge_lc (env := x) h p.1 w
    have hle : ∀ x : List (Option Sl), 9 < x.length → _ := fun x h => le_lc (env := x) h p.1 w
    obtain ⟨l1, g1, g2⟩ := hge [some (.val (eT caps)), some (.val (eT lv)), some (.val (eS s)), some (.val (.int k)), some (.val (eT w)), some (.val (.int a)), some (.val (.tuple [eT p.1, .int p.2])), some (.val (.list (pairs (p.1.map .int) (w.map .int)))), none, none] (by simp)
    obtain ⟨l2, g3, g4⟩ := hle [some (.val (eT caps)), some (.val (eT lv)), some (.val (eS s)), some (.val (.int k)), some (.val (eT w)), some (.val (.int a)), some (.val (.tuple [eT p.1, .int p.2])), some (.val (.list (pairs (p.1.map .int) (w.map .int)))), none, none] (by simp)
    simp only [eT, eS, eR] at r1 r2 g1 g3 ⊢
    generalize (withA s k a).map eStep = W at r1 r2
    generalize s.map eStep = sS at r1 g1 g3 ⊢
    clear hge hle
    generalize hPP : pairs (p.1.map PyData.int) (w.map PyData.int) = PP at hpl hpl2 g1 g3
    simp only [sSeq, sSet, sOwn, sPar, sParL,  sIf, sRet, sRetL, sRetO, sDrop, sAug, sApp, sFrz, frz, sAsg, gSet, gsNil, gsCons, gTupF, Fi.gSub, sFor, iL, iT, iR1, iR2, iZ, iEn, itemsK, eVar, eC, Fi.e2, Fi.e1, asB, eChain, tAndF, tOrF, tNotF, eAnd, eOr, eNot, eIf, aNil, aCons, eTup, lLst, eL, eCall, lCall, eCallF, lCallF, eSlT, lSl, oNone, oSome, ownIx, ownLen, lLc, wipeE, pYes, sNext, fnD, entry, fAdd_int, fSub, fMul_l, fMul_r, fDiv_ok, fMod_ok, fPow_ok, fLt, fLe, fGt, fGe, fEq_int, fEq_str, fEq_bool, fNe_int, fNe_str, fNe_bool, isN, fIs, fIsNot, fIx, fNeg, fLen, fMin, fMax, fTuple, fList, fIntB, fSum, fAll, fAny, at_0, at_1, at_2, eT, eS, eStep, eR, getInts_map, Option.bind_some, Option.map_some, List.getElem?_cons_succ, List.getElem?_cons_zero, List.set_cons_succ, List.set_cons_zero, List.length_cons, List.length_nil, List.length_map, List.map_cons, List.map_nil, List.nil_append, List.cons_append, List.replicate, Nat.zero_add, Nat.reduceAdd, Nat.reduceSub, decide_true, decide_false, reduceIte, Nat.reduceLeDiff, Nat.reduceLT, Int.reduceLT, Int.reduceLE, Int.reduceNeg, Int.reducePow, and_self, or_self, and_true, true_and, or_true, true_or, Bool.not_true, Bool.not_false, pour_spend, spend_pour, r1, r2, lLZ, hPP, hpl, hpl2, g1, g3, getBools_map, g2, g4]
/-! ### monotone in the amount -/
theorem split_run {caps lv : List Int} {s : List Step} {k : Nat} {t : Step} {a : Int} (h : s[k]? = some t) : runM caps lv (withA s k a) = (runA caps lv 0 (s.take k)).bind fun p => runA caps p.1 p.2 (amt a t :: s.drop (k + 1)) := by
  rw [withA_eq h, runM, runA_app]
theorem pour_mono_w {caps lv : List Int} {s : List Step} {k : Nat} {x a b : Int} {p : List Int × Int} (hv : Lv caps lv) (hs : ∀ u ∈ s, StOk caps.length u) (h : s[k]? = some (.pour x)) (hab : a ≤ b) (e : runM caps lv (withA s k a) = some p) : ∃ q, runM caps lv (withA s k b) = some q ∧ Le p.1 q.1 := by
  rw [split_run h] at e ⊢
  obtain ⟨m, hm, e⟩ := Option_bind_some e
  have hml : caps.length = m.1.length := (hv.run (fun u hu => hs u (List.mem_of_mem_take hu)) hm).1.len
  rw [hm]
  obtain ⟨h1, h2⟩ := pour_mono (a := a) (b := b) hml (Le.refl m.1) hab
  obtain ⟨q, hq, hle, _⟩ := run_mono (s := s.drop (k + 1)) (x := m.2 + (pourM caps m.1 a).2) (y := m.2 + (pourM caps m.1 b).2) (by rw [pourM_len hml, hml]) h1 (by omega) e
  exact ⟨q, hq, hle⟩
theorem spend_mono_w {caps lv : List Int} {s : List Step} {k i : Nat} {x a b : Int} {p : List Int × Int} (hv : Lv caps lv) (hs : ∀ u ∈ s, StOk caps.length u) (h : s[k]? = some (.spend i x)) (hab : a ≤ b) (e : runM caps lv (withA s k b) = some p) : ∃ q, runM caps lv (withA s k a) = some q ∧ Le p.1 q.1 := by
  rw [split_run h] at e ⊢
  obtain ⟨m, hm, e⟩ := Option_bind_some e
  have hml : caps.length = m.1.length := (hv.run (fun u hu => hs u (List.mem_of_mem_take hu)) hm).1.len
  rw [hm]
  simp only [amt, runA, stepM] at e
  show ∃ q, runA caps m.1 m.2 (.spend i a :: s.drop (k + 1)) = some q ∧ Le p.1 q.1
  simp only [runA, stepM]
  by_cases hb : m.1.getD i 0 < b
  · rw [if_pos hb] at e
    cases e
  · rw [if_neg hb] at e
    rw [if_neg (by omega)]
    obtain ⟨q, hq, hle, _⟩ := run_mono (s := s.drop (k + 1)) (x := m.2 + 0) (y := m.2 + 0) (by rw [List.length_set, hml]) ((Le.refl m.1).set i (show m.1.getD i 0 - b ≤ m.1.getD i 0 - a by omega)) (Int.le_refl _) e
    exact ⟨q, hq, hle⟩
def fitsP (caps lv : List Int) (s : List Step) (k : Nat) (w : List Int) (a : Int) : Prop := ∃ p, runM caps lv (withA s k a) = some p ∧ p.1 = w
theorem run_len {caps lv : List Int} {s : List Step} {p : List Int × Int} (hv : Lv caps lv) (hs : ∀ u ∈ s, StOk caps.length u) (e : runM caps lv s = some p) : p.1.length = caps.length := (hv.run hs e).1.len.symm
theorem fits_iff {caps lv w : List Int} {s : List Step} {k : Nat} {t : Step} {a : Int} (hv : Lv caps lv) (hs : ∀ u ∈ s, StOk caps.length u) (h : s[k]? = some t) (hw : w.length = caps.length) (ha : 0 ≤ a) : fitsP caps lv s k w a ↔ geB caps lv s k w a = true ∧ leB caps lv s k w a = true := by
  unfold fitsP geB leB
  cases e : runM caps lv (withA s k a) with
  | none => simp
  | some p =>
    have hl := run_len hv (withA_ok h hs ha) e
    simp only [Option.some.injEq]
    rw [allGe_le (by omega), allLe_le (by omega)]
    constructor
    · rintro ⟨q, rfl, rfl⟩
      exact ⟨Le.refl _, Le.refl _⟩
    · rintro ⟨h1, h2⟩
      exact ⟨p, rfl, h2.antisymm h1⟩
theorem ge_pour {caps lv w : List Int} {s : List Step} {k : Nat} {x a b : Int} (hv : Lv caps lv) (hs : ∀ u ∈ s, StOk caps.length u) (h : s[k]? = some (.pour x)) (hw : w.length = caps.length) (ha : 0 ≤ a) (hab : a ≤ b) (g : geB caps lv s k w a = true) : geB caps lv s k w b = true := by
  unfold geB at g ⊢
  cases e : runM caps lv (withA s k a) with
  | none => rw [e] at g; cases g
  | some p =>
    rw [e] at g
    obtain ⟨q, hq, hle⟩ := pour_mono_w hv hs h hab e
    have l1 := run_len hv (withA_ok h hs ha) e
    have l2 := run_len hv (withA_ok h hs (by omega)) hq
    rw [hq]
    exact (allGe_le (by omega)).mpr (((allGe_le (by omega)).mp g).trans hle)
theorem le_pour {caps lv w : List Int} {s : List Step} {k : Nat} {x a b : Int} (hv : Lv caps lv) (hs : ∀ u ∈ s, StOk caps.length u) (h : s[k]? = some (.pour x)) (hw : w.length = caps.length) (ha : 0 ≤ a) (hab : a ≤ b) (g : leB caps lv s k w a = false) : leB caps lv s k w b = false := by
  unfold leB at g ⊢
  cases e : runM caps lv (withA s k a) with
  | none => rw [e] at g; cases g
  | some p =>
    rw [e] at g
    obtain ⟨q, hq, hle⟩ := pour_mono_w hv hs h hab e
    have l1 := run_len hv (withA_ok h hs ha) e
    have l2 := run_len hv (withA_ok h hs (by omega)) hq
    rw [hq]
    cases q2 : allLe q.1 w with
    | false => exact q2
    | true =>
      have := hle.trans ((allLe_le (by omega)).mp q2)
      have h3 : allLe p.1 w = true := (allLe_le (by omega)).mpr this
      have g' : allLe p.1 w = false := g
      rw [h3] at g'
      cases g'
theorem le_spend {caps lv w : List Int} {s : List Step} {k i : Nat} {x a b : Int} (hv : Lv caps lv) (hs : ∀ u ∈ s, StOk caps.length u) (h : s[k]? = some (.spend i x)) (hw : w.length = caps.length) (ha : 0 ≤ a) (hab : a ≤ b) (g : leB caps lv s k w a = true) : leB caps lv s k w b = true := by
  unfold leB at g ⊢
  cases e : runM caps lv (withA s k b) with
  | none => rfl
  | some p =>
    obtain ⟨q, hq, hle⟩ := spend_mono_w hv hs h hab e
    have l1 := run_len hv (withA_ok h hs (by omega)) e
    have l2 := run_len hv (withA_ok h hs ha) hq
    rw [hq] at g
    exact (allLe_le (by omega)).mpr (hle.trans ((allLe_le (by omega)).mp g))
theorem ge_spend {caps lv w : List Int} {s : List Step} {k i : Nat} {x a b : Int} (hv : Lv caps lv) (hs : ∀ u ∈ s, StOk caps.length u) (h : s[k]? = some (.spend i x)) (hw : w.length = caps.length) (ha : 0 ≤ a) (hab : a ≤ b) (g : geB caps lv s k w a = false) : geB caps lv s k w b = false := by
  unfold geB at g ⊢
  cases e : runM caps lv (withA s k b) with
  | none => rfl
  | some p =>
    obtain ⟨q, hq, hle⟩ := spend_mono_w hv hs h hab e
    have l1 := run_len hv (withA_ok h hs (by omega)) e
    have l2 := run_len hv (withA_ok h hs ha) hq
    rw [hq] at g
    cases q2 : allGe p.1 w with
    | false => exact q2
    | true =>
      have := ((allGe_le (by omega)).mp q2).trans hle
      have h3 : allGe q.1 w = true := (allGe_le (by omega)).mpr this
      have g' : allGe q.1 w = false := g
      rw [h3] at g'
      cases g'
/-! ### the binary search -/
theorem first_loop {caps lv w : List Int} {s : List Step} {k : Nat} {t : Step} (hc : caps.length ≤ 100) (hv : Lv caps lv) (hs : ∀ u ∈ s, StOk caps.length u) (hl : s.length ≤ 1000) (h : s[k]? = some t) (hw : w.length ≤ 100) (which : Nat) (want : Bool) (f : Int → Bool) (hf : ∀ a, 0 ≤ a → atI [PyData.bool (geB caps lv s k w a), .bool (leB caps lv s k w a)] (which : Int) = some (.bool (f a)))
    (M : Int) (hmono : ∀ a b, 0 ≤ a → a ≤ b → f a = want → f b = want) : ∀ (n : Nat) (low high : Int) (y9 : Option Sl), 0 ≤ low → low ≤ high → high ≤ M + 1 → high - low < 2 ^ n → (high ≤ M → f high = want) → (∀ a, 0 ≤ a → a < low → f a ≠ want) →
    ∃ (m : Int) (z9 : Option Sl), 0 ≤ m ∧ m ≤ M + 1 ∧ (m ≤ M → f m = want) ∧ (∀ a, 0 ≤ a → a < m → f a ≠ want) ∧
      whileD (asB (Fi.e2 fLt (eVar 7) (eVar 8))) lp_first_amount_0 (n + 1) [some (.val (eT caps)), some (.val (eT lv)), some (.val (eS s)), some (.val (.int k)), some (.val (eT w)), some (.val (.int which)), some (.val (.bool want)), some (.val (.int low)), some (.val (.int high)), y9]
        = some (.next [some (.val (eT caps)), some (.val (eT lv)), some (.val (eS s)), some (.val (.int k)), some (.val (eT w)), some (.val (.int which)), some (.val (.bool want)), some (.val (.int m)), some (.val (.int m)), z9])
  | n, low, high, y9, h0, h1, hM, hn, hg, hb => by
    by_cases hlt : low < high
    · cases n with
      | zero => simp at hn; omega
      | succ n =>
        rw [Int.pow_succ] at hn
        have hm0 : 0 ≤ (low + high) / 2 := by omega
        have hml : low ≤ (low + high) / 2 := by omega
        have hmh : (low + high) / 2 < high := by omega
        have j := judged_ok hc hv hs hl h hm0 hw
        have hat := hf _ hm0
        by_cases e : f ((low + high) / 2) = want
        · obtain ⟨m, z9, q1, q2, q3, q4, q5⟩ := first_loop hc hv hs hl h hw which want f hf M hmono n low ((low + high) / 2) (some (.val (.int ((low + high) / 2)))) h0 hml (by omega) (by omega) (fun _ => e) hb
          refine ⟨m, z9, q1, q2, q3, q4, ?_⟩
          have e' : (f ((low + high) / 2) = want) = True := eq_true e
          simp only [eT, eS] at j q5 ⊢
          generalize s.map eStep = sS at *
          unfold whileD
          simp only [sSeq, sSet, sOwn, sPar, sParL,  sIf, sRet, sRetL, sRetO, sDrop, sAug, sApp, sFrz, frz, sAsg, gSet, gsNil, gsCons, gTupF, Fi.gSub, sFor, iL, iT, iR1, iR2, iZ, iEn, itemsK, eVar, eC, Fi.e2, Fi.e1, asB, eChain, tAndF, tOrF, tNotF, eAnd, eOr, eNot, eIf, aNil, aCons, eTup, lLst, eL, eCall, lCall, eCallF, lCallF, eSlT, lSl, oNone, oSome, ownIx, ownLen, lLc, wipeE, pYes, sNext, fnD, entry, fAdd_int, fSub, fMul_l, fMul_r, fDiv_ok, fMod_ok, fPow_ok, fLt, fLe, fGt, fGe, fEq_int, fEq_str, fEq_bool, fNe_int, fNe_str, fNe_bool, isN, fIs, fIsNot, fIx, fNeg, fLen, fMin, fMax, fTuple, fList, fIntB, fSum, fAll, fAny, at_0, at_1, at_2, eT, eS, eStep, eR, getInts_map, Option.bind_some, Option.map_some, List.getElem?_cons_succ, List.getElem?_cons_zero, List.set_cons_succ, List.set_cons_zero, List.length_cons, List.length_nil, List.length_map, List.map_cons, List.map_nil, List.nil_append, List.cons_append, List.replicate, Nat.zero_add, Nat.reduceAdd, Nat.reduceSub, decide_true, decide_false, reduceIte, Nat.reduceLeDiff, Nat.reduceLT, Int.reduceLT, Int.reduceLE, Int.reduceNeg, Int.reducePow, and_self, or_self, and_true, true_and, or_true, true_or, Bool.not_true, Bool.not_false, pour_spend, spend_pour, lp_first_amount_0, hlt, j, hat, e']
          exact q5
        · obtain ⟨m, z9, q1, q2, q3, q4, q5⟩ := first_loop hc hv hs hl h hw which want f hf M hmono n ((low + high) / 2 + 1) high (some (.val (.int ((low + high) / 2)))) (by omega) (by omega) hM (by omega) hg (fun a a0 a1 q => e (hmono a _ a0 (by omega) q))
          refine ⟨m, z9, q1, q2, q3, q4, ?_⟩
          simp only [eT, eS] at j q5 ⊢
          generalize s.map eStep = sS at *
          unfold whileD
          simp only [sSeq, sSet, sOwn, sPar, sParL,  sIf, sRet, sRetL, sRetO, sDrop, sAug, sApp, sFrz, frz, sAsg, gSet, gsNil, gsCons, gTupF, Fi.gSub, sFor, iL, iT, iR1, iR2, iZ, iEn, itemsK, eVar, eC, Fi.e2, Fi.e1, asB, eChain, tAndF, tOrF, tNotF, eAnd, eOr, eNot, eIf, aNil, aCons, eTup, lLst, eL, eCall, lCall, eCallF, lCallF, eSlT, lSl, oNone, oSome, ownIx, ownLen, lLc, wipeE, pYes, sNext, fnD, entry, fAdd_int, fSub, fMul_l, fMul_r, fDiv_ok, fMod_ok, fPow_ok, fLt, fLe, fGt, fGe, fEq_int, fEq_str, fEq_bool, fNe_int, fNe_str, fNe_bool, isN, fIs, fIsNot, fIx, fNeg, fLen, fMin, fMax, fTuple, fList, fIntB, fSum, fAll, fAny, at_0, at_1, at_2, eT, eS, eStep, eR, getInts_map, Option.bind_some, Option.map_some, List.getElem?_cons_succ, List.getElem?_cons_zero, List.set_cons_succ, List.set_cons_zero, List.length_cons, List.length_nil, List.length_map, List.map_cons, List.map_nil, List.nil_append, List.cons_append, List.replicate, Nat.zero_add, Nat.reduceAdd, Nat.reduceSub, decide_true, decide_false, reduceIte, Nat.reduceLeDiff, Nat.reduceLT, Int.reduceLT, Int.reduceLE, Int.reduceNeg, Int.reducePow, and_self, or_self, and_true, true_and, or_true, true_or, Bool.not_true, Bool.not_false, pour_spend, spend_pour, lp_first_amount_0, hlt, j, hat, e]
          exact q5
    · have e : low = high := by omega
      subst e
      refine ⟨low, y9, h0, hM, hg, hb, ?_⟩
      unfold whileD
      simp only [sSeq, sSet, sOwn, sPar, sParL,  sIf, sRet, sRetL, sRetO, sDrop, sAug, sApp, sFrz, frz, sAsg, gSet, gsNil, gsCons, gTupF, Fi.gSub, sFor, iL, iT, iR1, iR2, iZ, iEn, itemsK, eVar, eC, Fi.e2, Fi.e1, asB, eChain, tAndF, tOrF, tNotF, eAnd, eOr, eNot, eIf, aNil, aCons, eTup, lLst, eL, eCall, lCall, eCallF, lCallF, eSlT, lSl, oNone, oSome, ownIx, ownLen, lLc, wipeE, pYes, sNext, fnD, entry, fAdd_int, fSub, fMul_l, fMul_r, fDiv_ok, fMod_ok, fPow_ok, fLt, fLe, fGt, fGe, fEq_int, fEq_str, fEq_bool, fNe_int, fNe_str, fNe_bool, isN, fIs, fIsNot, fIx, fNeg, fLen, fMin, fMax, fTuple, fList, fIntB, fSum, fAll, fAny, at_0, at_1, at_2, eT, eS, eStep, eR, getInts_map, Option.bind_some, Option.map_some, List.getElem?_cons_succ, List.getElem?_cons_zero, List.set_cons_succ, List.set_cons_zero, List.length_cons, List.length_nil, List.length_map, List.map_cons, List.map_nil, List.nil_append, List.cons_append, List.replicate, Nat.zero_add, Nat.reduceAdd, Nat.reduceSub, decide_true, decide_false, reduceIte, Nat.reduceLeDiff, Nat.reduceLT, Int.reduceLT, Int.reduceLE, Int.reduceNeg, Int.reducePow, and_self, or_self, and_true, true_and, or_true, true_or, Bool.not_true, Bool.not_false, pour_spend, spend_pour, hlt]
def largest (caps : List Int) : Step → Int
  | .pour _ => 1000000000
  | .spend i _ => caps.getD i 0
theorem largest_ok {caps : List Int} {s : List Step} {k : Nat} {t : Step} (h : s[k]? = some t) (hs : ∀ u ∈ s, StOk caps.length u) : F_largest_amount [eT caps, eS s, .int k] = some (.val (.int (largest caps t))) := by
  have hat : atI (s.map eStep) (k : Int) = some (eStep t) := by
    refine atI_nat ?_
    rw [List.getElem?_map, h]
    rfl
  have hst := hs t (List.mem_of_getElem? h)
  refine fn_ret ?_
  unfold b_largest_amount
  cases t with
  | pour x => simp only [sSeq, sSet, sOwn, sPar, sParL,  sIf, sRet, sRetL, sRetO, sDrop, sAug, sApp, sFrz, frz, sAsg, gSet, gsNil, gsCons, gTupF, Fi.gSub, sFor, iL, iT, iR1, iR2, iZ, iEn, itemsK, eVar, eC, Fi.e2, Fi.e1, asB, eChain, tAndF, tOrF, tNotF, eAnd, eOr, eNot, eIf, aNil, aCons, eTup, lLst, eL, eCall, lCall, eCallF, lCallF, eSlT, lSl, oNone, oSome, ownIx, ownLen, lLc, wipeE, pYes, sNext, fnD, entry, fAdd_int, fSub, fMul_l, fMul_r, fDiv_ok, fMod_ok, fPow_ok, fLt, fLe, fGt, fGe, fEq_int, fEq_str, fEq_bool, fNe_int, fNe_str, fNe_bool, isN, fIs, fIsNot, fIx, fNeg, fLen, fMin, fMax, fTuple, fList, fIntB, fSum, fAll, fAny, at_0, at_1, at_2, eT, eS, eStep, eR, getInts_map, Option.bind_some, Option.map_some, List.getElem?_cons_succ, List.getElem?_cons_zero, List.set_cons_succ, List.set_cons_zero, List.length_cons, List.length_nil, List.length_map, List.map_cons, List.map_nil, List.nil_append, List.cons_append, List.replicate, Nat.zero_add, Nat.reduceAdd, Nat.reduceSub, decide_true, decide_false, reduceIte, Nat.reduceLeDiff, Nat.reduceLT, Int.reduceLT, Int.reduceLE, Int.reduceNeg, Int.reducePow, and_self, or_self, and_true, true_and, or_true, true_or, Bool.not_true, Bool.not_false, pour_spend, spend_pour, hat, largest, show (("pour" : Str) = "pour") = True from by simp]
  | spend i x =>
    have hc := at_get hst.1
    simp only [sSeq, sSet, sOwn, sPar, sParL,  sIf, sRet, sRetL, sRetO, sDrop, sAug, sApp, sFrz, frz, sAsg, gSet, gsNil, gsCons, gTupF, Fi.gSub, sFor, iL, iT, iR1, iR2, iZ, iEn, itemsK, eVar, eC, Fi.e2, Fi.e1, asB, eChain, tAndF, tOrF, tNotF, eAnd, eOr, eNot, eIf, aNil, aCons, eTup, lLst, eL, eCall, lCall, eCallF, lCallF, eSlT, lSl, oNone, oSome, ownIx, ownLen, lLc, wipeE, pYes, sNext, fnD, entry, fAdd_int, fSub, fMul_l, fMul_r, fDiv_ok, fMod_ok, fPow_ok, fLt, fLe, fGt, fGe, fEq_int, fEq_str, fEq_bool, fNe_int, fNe_str, fNe_bool, isN, fIs, fIsNot, fIx, fNeg, fLen, fMin, fMax, fTuple, fList, fIntB, fSum, fAll, fAny, at_0, at_1, at_2, eT, eS, eStep, eR, getInts_map, Option.bind_some, Option.map_some, List.getElem?_cons_succ, List.getElem?_cons_zero, List.set_cons_succ, List.set_cons_zero, List.length_cons, List.length_nil, List.length_map, List.map_cons, List.map_nil, List.nil_append, List.cons_append, List.replicate, Nat.zero_add, Nat.reduceAdd, Nat.reduceSub, decide_true, decide_false, reduceIte, Nat.reduceLeDiff, Nat.reduceLT, Int.reduceLT, Int.reduceLE, Int.reduceNeg, Int.reducePow, and_self, or_self, and_true, true_and, or_true, true_or, Bool.not_true, Bool.not_false, pour_spend, spend_pour, hat, largest, hc]
theorem first_ok {caps lv w : List Int} {s : List Step} {k : Nat} {t : Step} (hc : caps.length ≤ 100) (hv : Lv caps lv) (hs : ∀ u ∈ s, StOk caps.length u) (hl : s.length ≤ 1000) (h : s[k]? = some t) (hw : w.length ≤ 100) (which : Nat) (want : Bool) (f : Int → Bool) (hf : ∀ a, 0 ≤ a → atI [PyData.bool (geB caps lv s k w a), .bool (leB caps lv s k w a)] (which : Int) = some (.bool (f a)))
    (hM0 : 0 ≤ largest caps t) (hM1 : largest caps t ≤ 1000000000) (hmono : ∀ a b, 0 ≤ a → a ≤ b → f a = want → f b = want) :
    ∃ m : Int, 0 ≤ m ∧ m ≤ largest caps t + 1 ∧ (m ≤ largest caps t → f m = want) ∧ (∀ a, 0 ≤ a → a < m → f a ≠ want) ∧ F_first_amount [eT caps, eT lv, eS s, .int k, eT w, .int which, .bool want] = some (.val (.int m)) := by
  obtain ⟨m, z9, q1, q2, q3, q4, q5⟩ := first_loop hc hv hs hl h hw which want f hf (largest caps t) hmono 63 0 (largest caps t + 1) none (Int.le_refl _) (by omega) (Int.le_refl _) (by omega) (fun q => by omega) (fun a a0 a1 => by omega)
  have hla := largest_ok h hs
  refine ⟨m, q1, q2, q3, q4, fn_ret ?_⟩
  unfold b_first_amount
  simp only [eT, eS] at hla q5 ⊢
  generalize s.map eStep = sS at hla q5 ⊢
  have q6 : whileD (asB (Fi.e2 fLt (eVar 7) (eVar 8))) lp_first_amount_0 64 [some (.val (.tuple (caps.map .int))), some (.val (.tuple (lv.map .int))), some (.val (.tuple sS)), some (.val (.int k)), some (.val (.tuple (w.map .int))), some (.val (.int which)), some (.val (.bool want)), some (.val (.int 0)), some (.val (.int (largest caps t + 1))), none] = _ := q5
  simp only [sSeq, sSet, sOwn, sPar, sParL,  sIf, sRet, sRetL, sRetO, sDrop, sAug, sApp, sFrz, frz, sAsg, gSet, gsNil, gsCons, gTupF, Fi.gSub, sFor, iL, iT, iR1, iR2, iZ, iEn, itemsK, eVar, eC, Fi.e2, Fi.e1, asB, eChain, tAndF, tOrF, tNotF, eAnd, eOr, eNot, eIf, aNil, aCons, eTup, lLst, eL, eCall, lCall, eCallF, lCallF, eSlT, lSl, oNone, oSome, ownIx, ownLen, lLc, wipeE, pYes, sNext, fnD, entry, fAdd_int, fSub, fMul_l, fMul_r, fDiv_ok, fMod_ok, fPow_ok, fLt, fLe, fGt, fGe, fEq_int, fEq_str, fEq_bool, fNe_int, fNe_str, fNe_bool, isN, fIs, fIsNot, fIx, fNeg, fLen, fMin, fMax, fTuple, fList, fIntB, fSum, fAll, fAny, at_0, at_1, at_2, eT, eS, eStep, eR, getInts_map, Option.bind_some, Option.map_some, List.getElem?_cons_succ, List.getElem?_cons_zero, List.set_cons_succ, List.set_cons_zero, List.length_cons, List.length_nil, List.length_map, List.map_cons, List.map_nil, List.nil_append, List.cons_append, List.replicate, Nat.zero_add, Nat.reduceAdd, Nat.reduceSub, decide_true, decide_false, reduceIte, Nat.reduceLeDiff, Nat.reduceLT, Int.reduceLT, Int.reduceLE, Int.reduceNeg, Int.reducePow, and_self, or_self, and_true, true_and, or_true, true_or, Bool.not_true, Bool.not_false, pour_spend, spend_pour, hla, q6]
/-- what fitting_amounts returns -/
theorem fitting_ok {caps lv w : List Int} {s : List Step} {k : Nat} {t : Step} (hc : caps.length ≤ 100) (hcp : ∀ c ∈ caps, 0 ≤ c ∧ c ≤ 20000) (hv : Lv caps lv) (hs : ∀ u ∈ s, StOk caps.length u) (hl : s.length ≤ 1000) (h : s[k]? = some t) (hw : w.length = caps.length) :
    ∃ low high : Int, 0 ≤ low ∧ high ≤ largest caps t ∧ (∀ a, 0 ≤ a → a ≤ largest caps t → (fitsP caps lv s k w a ↔ low ≤ a ∧ a ≤ high)) ∧ F_fitting_amounts [eT caps, eT lv, eS s, .int k, eT w] = some (.val (if low ≤ high then .tuple [.int low, .int high] else .none)) := by
  have hst := hs t (List.mem_of_getElem? h)
  have hat : atI (s.map eStep) (k : Int) = some (eStep t) := by
    refine atI_nat ?_
    rw [List.getElem?_map, h]
    rfl
  have hfit := fun (a : Int) (ha : 0 ≤ a) => fits_iff hv hs h hw ha
  cases t with
  | pour x =>
    obtain ⟨m1, a1, a2, a3, a4, a5⟩ := first_ok hc hv hs hl h (by omega) 0 true (geB caps lv s k w) (fun a _ => at_0) (by simp [largest]) (by simp [largest]) (fun a b h0 hab q => ge_pour hv hs h hw h0 hab q)
    obtain ⟨m2, b1, b2, b3, b4, b5⟩ := first_ok hc hv hs hl h (by omega) 1 false (leB caps lv s k w) (fun a _ => at_1) (by simp [largest]) (by simp [largest]) (fun a b h0 hab q => le_pour hv hs h hw h0 hab q)
    refine ⟨m1, m2 - 1, a1, by omega, fun a ha hM => ?_, ?_⟩
    · rw [hfit a ha]
      constructor
      · rintro ⟨g1, g2⟩
        refine ⟨Int.not_lt.mp fun q => a4 a ha q g1, ?_⟩
        have : ¬ m2 ≤ a := fun q => by
          have := le_pour hv hs h hw b1 q (b3 (by omega))
          rw [g2] at this
          cases this
        omega
      · rintro ⟨g1, g2⟩
        refine ⟨ge_pour hv hs h hw a1 g1 (a3 (by omega)), ?_⟩
        have := b4 a ha (by omega)
        simpa using this
    · refine fn_ret ?_
      unfold b_fitting_amounts
      have a5 : F_first_amount [eT caps, eT lv, eS s, .int k, eT w, .int (1 - 1), .bool true] = some (.val (.int m1)) := a5
      have b5 : F_first_amount [eT caps, eT lv, eS s, .int k, eT w, .int 1, .bool false] = some (.val (.int m2)) := b5
      simp only [eT, eS, eStep] at a5 b5 hat ⊢
      generalize s.map eStep = sS at *
      by_cases hle : m1 ≤ m2 - 1
      · simp only [sSeq, sSet, sOwn, sPar, sParL,  sIf, sRet, sRetL, sRetO, sDrop, sAug, sApp, sFrz, frz, sAsg, gSet, gsNil, gsCons, gTupF, Fi.gSub, sFor, iL, iT, iR1, iR2, iZ, iEn, itemsK, eVar, eC, Fi.e2, Fi.e1, asB, eChain, tAndF, tOrF, tNotF, eAnd, eOr, eNot, eIf, aNil, aCons, eTup, lLst, eL, eCall, lCall, eCallF, lCallF, eSlT, lSl, oNone, oSome, ownIx, ownLen, lLc, wipeE, pYes, sNext, fnD, entry, fAdd_int, fSub, fMul_l, fMul_r, fDiv_ok, fMod_ok, fPow_ok, fLt, fLe, fGt, fGe, fEq_int, fEq_str, fEq_bool, fNe_int, fNe_str, fNe_bool, isN, fIs, fIsNot, fIx, fNeg, fLen, fMin, fMax, fTuple, fList, fIntB, fSum, fAll, fAny, at_0, at_1, at_2, eT, eS, eStep, eR, getInts_map, Option.bind_some, Option.map_some, List.getElem?_cons_succ, List.getElem?_cons_zero, List.set_cons_succ, List.set_cons_zero, List.length_cons, List.length_nil, List.length_map, List.map_cons, List.map_nil, List.nil_append, List.cons_append, List.replicate, Nat.zero_add, Nat.reduceAdd, Nat.reduceSub, decide_true, decide_false, reduceIte, Nat.reduceLeDiff, Nat.reduceLT, Int.reduceLT, Int.reduceLE, Int.reduceNeg, Int.reducePow, and_self, or_self, and_true, true_and, or_true, true_or, Bool.not_true, Bool.not_false, pour_spend, spend_pour, hat, a5, b5, hle, show (("pour" : Str) = "pour") = True from by simp]
      · simp only [sSeq, sSet, sOwn, sPar, sParL,  sIf, sRet, sRetL, sRetO, sDrop, sAug, sApp, sFrz, frz, sAsg, gSet, gsNil, gsCons, gTupF, Fi.gSub, sFor, iL, iT, iR1, iR2, iZ, iEn, itemsK, eVar, eC, Fi.e2, Fi.e1, asB, eChain, tAndF, tOrF, tNotF, eAnd, eOr, eNot, eIf, aNil, aCons, eTup, lLst, eL, eCall, lCall, eCallF, lCallF, eSlT, lSl, oNone, oSome, ownIx, ownLen, lLc, wipeE, pYes, sNext, fnD, entry, fAdd_int, fSub, fMul_l, fMul_r, fDiv_ok, fMod_ok, fPow_ok, fLt, fLe, fGt, fGe, fEq_int, fEq_str, fEq_bool, fNe_int, fNe_str, fNe_bool, isN, fIs, fIsNot, fIx, fNeg, fLen, fMin, fMax, fTuple, fList, fIntB, fSum, fAll, fAny, at_0, at_1, at_2, eT, eS, eStep, eR, getInts_map, Option.bind_some, Option.map_some, List.getElem?_cons_succ, List.getElem?_cons_zero, List.set_cons_succ, List.set_cons_zero, List.length_cons, List.length_nil, List.length_map, List.map_cons, List.map_nil, List.nil_append, List.cons_append, List.replicate, Nat.zero_add, Nat.reduceAdd, Nat.reduceSub, decide_true, decide_false, reduceIte, Nat.reduceLeDiff, Nat.reduceLT, Int.reduceLT, Int.reduceLE, Int.reduceNeg, Int.reducePow, and_self, or_self, and_true, true_and, or_true, true_or, Bool.not_true, Bool.not_false, pour_spend, spend_pour, hat, a5, b5, hle, show (("pour" : Str) = "pour") = True from by simp]
  | spend i x =>
    have hci := hcp _ (getD_mem hst.1)
    obtain ⟨m1, a1, a2, a3, a4, a5⟩ := first_ok hc hv hs hl h (by omega) 1 true (leB caps lv s k w) (fun a _ => at_1) hci.1 (by have := hci.2; simp only [largest]; omega) (fun a b h0 hab q => le_spend hv hs h hw h0 hab q)
    obtain ⟨m2, b1, b2, b3, b4, b5⟩ := first_ok hc hv hs hl h (by omega) 0 false (geB caps lv s k w) (fun a _ => at_0) hci.1 (by have := hci.2; simp only [largest]; omega) (fun a b h0 hab q => ge_spend hv hs h hw h0 hab q)
    refine ⟨m1, m2 - 1, a1, by omega, fun a ha hM => ?_, ?_⟩
    · rw [hfit a ha]
      constructor
      · rintro ⟨g1, g2⟩
        refine ⟨Int.not_lt.mp fun q => a4 a ha q g2, ?_⟩
        have : ¬ m2 ≤ a := fun q => by
          have := ge_spend hv hs h hw b1 q (b3 (by omega))
          rw [g1] at this
          cases this
        omega
      · rintro ⟨g1, g2⟩
        refine ⟨?_, le_spend hv hs h hw a1 g1 (a3 (by omega))⟩
        have := b4 a ha (by omega)
        simpa using this
    · refine fn_ret ?_
      unfold b_fitting_amounts
      have a5 : F_first_amount [eT caps, eT lv, eS s, .int k, eT w, .int (1 - 0), .bool true] = some (.val (.int m1)) := a5
      have b5 : F_first_amount [eT caps, eT lv, eS s, .int k, eT w, .int 0, .bool false] = some (.val (.int m2)) := b5
      simp only [eT, eS, eStep] at a5 b5 hat ⊢
      generalize s.map eStep = sS at *
      by_cases hle : m1 ≤ m2 - 1
      · simp only [sSeq, sSet, sOwn, sPar, sParL,  sIf, sRet, sRetL, sRetO, sDrop, sAug, sApp, sFrz, frz, sAsg, gSet, gsNil, gsCons, gTupF, Fi.gSub, sFor, iL, iT, iR1, iR2, iZ, iEn, itemsK, eVar, eC, Fi.e2, Fi.e1, asB, eChain, tAndF, tOrF, tNotF, eAnd, eOr, eNot, eIf, aNil, aCons, eTup, lLst, eL, eCall, lCall, eCallF, lCallF, eSlT, lSl, oNone, oSome, ownIx, ownLen, lLc, wipeE, pYes, sNext, fnD, entry, fAdd_int, fSub, fMul_l, fMul_r, fDiv_ok, fMod_ok, fPow_ok, fLt, fLe, fGt, fGe, fEq_int, fEq_str, fEq_bool, fNe_int, fNe_str, fNe_bool, isN, fIs, fIsNot, fIx, fNeg, fLen, fMin, fMax, fTuple, fList, fIntB, fSum, fAll, fAny, at_0, at_1, at_2, eT, eS, eStep, eR, getInts_map, Option.bind_some, Option.map_some, List.getElem?_cons_succ, List.getElem?_cons_zero, List.set_cons_succ, List.set_cons_zero, List.length_cons, List.length_nil, List.length_map, List.map_cons, List.map_nil, List.nil_append, List.cons_append, List.replicate, Nat.zero_add, Nat.reduceAdd, Nat.reduceSub, decide_true, decide_false, reduceIte, Nat.reduceLeDiff, Nat.reduceLT, Int.reduceLT, Int.reduceLE, Int.reduceNeg, Int.reducePow, and_self, or_self, and_true, true_and, or_true, true_or, Bool.not_true, Bool.not_false, pour_spend, spend_pour, hat, a5, b5, hle, Bool.false_eq_true]
      · simp only [sSeq, sSet, sOwn, sPar, sParL,  sIf, sRet, sRetL, sRetO, sDrop, sAug, sApp, sFrz, frz, sAsg, gSet, gsNil, gsCons, gTupF, Fi.gSub, sFor, iL, iT, iR1, iR2, iZ, iEn, itemsK, eVar, eC, Fi.e2, Fi.e1, asB, eChain, tAndF, tOrF, tNotF, eAnd, eOr, eNot, eIf, aNil, aCons, eTup, lLst, eL, eCall, lCall, eCallF, lCallF, eSlT, lSl, oNone, oSome, ownIx, ownLen, lLc, wipeE, pYes, sNext, fnD, entry, fAdd_int, fSub, fMul_l, fMul_r, fDiv_ok, fMod_ok, fPow_ok, fLt, fLe, fGt, fGe, fEq_int, fEq_str, fEq_bool, fNe_int, fNe_str, fNe_bool, isN, fIs, fIsNot, fIx, fNeg, fLen, fMin, fMax, fTuple, fList, fIntB, fSum, fAll, fAny, at_0, at_1, at_2, eT, eS, eStep, eR, getInts_map, Option.bind_some, Option.map_some, List.getElem?_cons_succ, List.getElem?_cons_zero, List.set_cons_succ, List.set_cons_zero, List.length_cons, List.length_nil, List.length_map, List.map_cons, List.map_nil, List.nil_append, List.cons_append, List.replicate, Nat.zero_add, Nat.reduceAdd, Nat.reduceSub, decide_true, decide_false, reduceIte, Nat.reduceLeDiff, Nat.reduceLT, Int.reduceLT, Int.reduceLE, Int.reduceNeg, Int.reducePow, and_self, or_self, and_true, true_and, or_true, true_or, Bool.not_true, Bool.not_false, pour_spend, spend_pour, hat, a5, b5, hle, Bool.false_eq_true]
/-! ### the law's checks -/
end Lw

namespace Lw
open PySem L2 Fi
/-! ### plain: the formula -/
/-- some place is to be raised -/
def up : List Int → List Int → Bool
  | a :: s, b :: y => decide (a < b) || up s y
  | _, _ => false
def mid : List Int → List Int → List Int → List Int
  | c :: cs, a :: s, b :: y => if up s y then c :: mid cs s y else (if a < b then b else a) :: s
  | _, s, _ => s
def amtU : List Int → List Int → List Int → Int
  | c :: cs, a :: s, b :: y => if up s y then (c - a) + amtU cs s y else if a < b then b - a else 0
  | _, _, _ => 0
def dn : List Int → List Int → Nat
  | b :: y, m :: l => (if b < m then 1 else 0) + dn y l
  | _, _ => 0
def fF (caps s y : List Int) : Nat := (if up s y then 1 else 0) + dn y (mid caps s y)
theorem mid_no : ∀ {caps s y : List Int}, up s y = false → mid caps s y = s
  | c :: cs, a :: s, b :: y, h => by
    simp only [up, Bool.or_eq_false_iff, decide_eq_false_iff_not] at h
    simp only [mid, h.2, Bool.false_eq_true, if_false]
    rw [if_neg h.1]
  | [], s, y, _ => by cases s <;> cases y <;> rfl
  | _ :: _, [], y, _ => by cases y <;> rfl
  | _ :: _, _ :: _, [], _ => rfl
/-- one place is lowered -/
inductive Low : List Int → List Int → Prop
  | here {b b' : Int} {x : List Int} (h0 : 0 ≤ b') (h : b' < b) : Low (b :: x) (b' :: x)
  | there {b : Int} {x y : List Int} (h : Low x y) : Low (b :: x) (b :: y)
theorem Low.le {x y : List Int} (h : Low x y) : Le y x := by
  induction h with
  | here h0 h => exact ⟨Int.le_of_lt h, Le.refl _⟩
  | there h ih => exact ⟨Int.le_refl _, ih⟩
end Lw

namespace Lw
open PySem L2 Fi
/-! ### the script, plain -/
def upF : Nat → List Int → List Int → List Nat
  | k, a :: s, b :: y => (if a < b then [k] else []) ++ upF (k + 1) s y
  | _, _, _ => []
def spF : Nat → List Int → List Int → List Step
  | k, b :: y, m :: l => (if b < m then [.spend k (m - b)] else []) ++ spF (k + 1) y l
  | _, _, _ => []
theorem upF_no : ∀ {s y : List Int} (k : Nat), up s y = false → upF k s y = []
  | a :: s, b :: y, k, h => by
    simp only [up, Bool.or_eq_false_iff, decide_eq_false_iff_not] at h
    simp only [upF, if_neg h.1, upF_no (k + 1) h.2, List.append_nil]
  | [], y, _, _ => by cases y <;> rfl
  | _ :: _, [], _, _ => rfl
theorem sum_range_succ (f : Nat → Int) (j : Nat) : ((List.range (j + 1)).map f).sum = f 0 + ((List.range j).map fun p => f (p + 1)).sum := by
  rw [List.range_succ_eq_map, List.map_cons, List.map_map, List.sum_cons]
  rfl
theorem last_of : ∀ {caps s y : List Int}, caps.length = s.length → s.length = y.length → up s y = true → ∃ j, j < s.length ∧ (∀ k, (upF k s y).getLast? = some (k + j)) ∧ mid caps s y = caps.take j ++ y.getD j 0 :: s.drop (j + 1) ∧
    amtU caps s y = ((List.range j).map fun p => caps.getD p 0 - s.getD p 0).sum + y.getD j 0 - s.getD j 0
  | c :: cs, a :: s, b :: y, h1, h2, h => by
    cases hu : up s y with
    | true =>
      obtain ⟨j, hj, g1, g2, g3⟩ := last_of (caps := cs) (s := s) (y := y) (by simpa using h1) (by simpa using h2) hu
      refine ⟨j + 1, by simp; omega, fun k => ?_, ?_, ?_⟩
      · unfold upF
        rw [List.getLast?_append, g1 (k + 1)]
        simp
        omega
      · simp only [mid, hu, if_true, g2]
        rfl
      · simp only [amtU, hu, if_true, g3, sum_range_succ, List.getD_cons_succ, List.getD_cons_zero]
        omega
    | false =>
      have hab : a < b := by simpa [up, hu] using h
      refine ⟨0, by simp, fun k => ?_, ?_, ?_⟩
      · unfold upF
        rw [upF_no _ hu, if_pos hab]
        rfl
      · simp only [mid, hu, Bool.false_eq_true, if_false, if_pos hab]
        rfl
      · simp only [amtU, hu, Bool.false_eq_true, if_false, if_pos hab]
        show b - a = 0 + b - a
        omega
  | [], [], [], _, _, h => by simp [up] at h
  | [], _ :: _, _, h, _, _ => by simp at h
  | _ :: _, [], _, h, _, _ => by simp at h
  | [], [], _ :: _, _, h, _ => by simp at h
  | _ :: _, _ :: _, [], _, h, _ => by simp at h
theorem mid_ge : ∀ {caps s y : List Int}, Lv caps s → Lv caps y → Le y (mid caps s y)
  | [], [], [], _, _ => trivial
  | c :: cs, a :: s, b :: y, hs, hy => by
    have hbc := hy.2.1
    cases hu : up s y with
    | true =>
      simp only [mid, hu, if_true]
      exact ⟨hbc, mid_ge hs.2.2 hy.2.2⟩
    | false =>
      have := mid_ge hs.2.2 hy.2.2
      rw [mid_no hu] at this
      simp only [mid, hu, Bool.false_eq_true, if_false]
      exact ⟨by split <;> omega, this⟩
  | [], [], _ :: _, _, h => h.elim
  | [], _ :: _, _, h, _ => h.elim
  | _ :: _, [], _, h, _ => h.elim
  | _ :: _, _ :: _, [], _, h => h.elim
theorem spF_len : ∀ (k : Nat) (y m : List Int), (spF k y m).length = dn y m
  | k, [], _ => by cases ‹List Int› <;> rfl
  | k, _ :: _, [] => rfl
  | k, b :: y, m :: l => by
    unfold spF dn
    rw [List.length_append, spF_len (k + 1) y l]
    split <;> rfl
theorem get_app (y0 : List Int) (m : Int) (l : List Int) : (y0 ++ m :: l).getD y0.length 0 = m := by
  rw [List.getD_eq_getElem?_getD, List.getElem?_append_right (Nat.le_refl _), Nat.sub_self]
  rfl
def scr (caps s y : List Int) : List Step := (if up s y then [.pour (amtU caps s y)] else []) ++ spF 0 y (mid caps s y)
theorem scr_len (caps s y : List Int) : (scr caps s y).length = fF caps s y := by
  unfold scr fF
  rw [List.length_append, spF_len]
  split <;> rfl
theorem Lv.pos : ∀ {cs l : List Int}, Lv cs l → ∀ b ∈ l, 0 ≤ b
  | [], [], _, b, h => by simp at h
  | _ :: _, x :: l, h, b, hb => by
    rcases List.mem_cons.mp hb with rfl | hb
    · exact h.1
    · exact h.2.2.pos b hb
  | [], _ :: _, h, _, _ => h.elim
  | _ :: _, [], h, _, _ => h.elim
end Lw

namespace Lw
open PySem L2 Fi
theorem atI_last {l : List PyData} {x : PyData} (h : l.getLast? = some x) : atI l (-1) = some x := by
  have hl : 0 < l.length := by
    cases l with
    | nil => cases h
    | cons _ _ => simp
  rw [List.getLast?_eq_getElem?] at h
  unfold atI ixN
  rw [if_neg (by decide), if_pos (by omega)]
  have e : ((l.length : Int) + -1).toNat = l.length - 1 := by omega
  have e2 : (-1 + (l.length : Int)).toNat = l.length - 1 := by omega
  simp only [Option.bind_some, e, e2]
  exact h
theorem at_app (y0 : List Int) (m : Int) (l : List Int) : atI ((y0 ++ m :: l).map PyData.int) (y0.length : Int) = some (.int m) := by
  rw [at_get (by simp), get_app]
theorem raised_lc {env : En} (h6 : 6 < env.length) {k : Nat} : ∀ (s y s0 y0 : List Int), s.length = y.length → s0.length = k → y0.length = k → env[1]? = some (some (.val (eT (s0 ++ s)))) → env[2]? = some (some (.val (eT (y0 ++ y)))) →
    lcD (gSet 6) (asB (Fi.e2 fGt (Fi.e2 fIx (eVar 2) (eVar 6)) (Fi.e2 fIx (eVar 1) (eVar 6)))) (eVar 6) env ((List.range' k s.length).map fun (i : Nat) => PyData.int (i : Int)) = some ((upF k s y).map fun (i : Nat) => PyData.int (i : Int)) := by
  intro s
  induction s generalizing k with
  | nil =>
    intro y s0 y0 h _ _ _ _
    cases y with
    | nil => rfl
    | cons _ _ => simp at h
  | cons a s ih =>
    intro y s0 y0 h hs0 hy0 g1 g2
    cases y with
    | nil => simp at h
    | cons b y =>
      have ih := ih (k := k + 1) y (s0 ++ [a]) (y0 ++ [b]) (by simpa using h) (by simp [hs0]) (by simp [hy0]) (by rw [List.append_assoc]; exact g1) (by rw [List.append_assoc]; exact g2)
      have a1 := at_app s0 a s
      have a2 := at_app y0 b y
      rw [hs0] at a1
      rw [hy0] at a2
      have e6 : ∀ x : Option Sl, (env.set 6 x)[6]? = some x := fun x => List.getElem?_set_self h6
      have e1 : ∀ x : Option Sl, (env.set 6 x)[1]? = some (some (.val (eT (s0 ++ a :: s)))) := fun x => by rw [List.getElem?_set_ne (by decide)]; exact g1
      have e2 : ∀ x : Option Sl, (env.set 6 x)[2]? = some (some (.val (eT (y0 ++ b :: y)))) := fun x => by rw [List.getElem?_set_ne (by decide)]; exact g2
      rw [List.length_cons, List.range'_succ, List.map_cons]
      unfold upF
      simp only [eT] at e1 e2
      generalize (s0 ++ a :: s).map PyData.int = S' at *
      generalize (y0 ++ b :: y).map PyData.int = Y' at *
      by_cases q : a < b
      · rw [if_pos q]
        simp only [List.singleton_append, List.map_cons]
        simp only [sSeq, sSet, sOwn, sPar, sParL,  sIf, sRet, sRetL, sRetO, sDrop, sAug, sApp, sFrz, frz, sAsg, gSet, gsNil, gsCons, gTupF, Fi.gSub, sFor, iL, iT, iR1, iR2, iZ, iEn, itemsK, eVar, eC, Fi.e2, Fi.e1, asB, eChain, tAndF, tOrF, tNotF, eAnd, eOr, eNot, eIf, aNil, aCons, eTup, lLst, eL, eCall, lCall, eCallF, lCallF, eSlT, lSl, oNone, oSome, ownIx, ownLen, lLc, wipeE, pYes, sNext, fnD, entry, fAdd_int, fSub, fMul_l, fMul_r, fDiv_ok, fMod_ok, fPow_ok, fLt, fLe, fGt, fGe, fEq_int, fEq_str, fEq_bool, fNe_int, fNe_str, fNe_bool, isN, fIs, fIsNot, fIx, fNeg, fLen, fMin, fMax, fTuple, fList, fIntB, fSum, fAll, fAny, at_0, at_1, at_2, eT, eS, eStep, eR, getInts_map, Option.bind_some, Option.map_some, List.getElem?_cons_succ, List.getElem?_cons_zero, List.set_cons_succ, List.set_cons_zero, List.length_cons, List.length_nil, List.length_map, List.map_cons, List.map_nil, List.nil_append, List.cons_append, List.replicate, Nat.zero_add, Nat.reduceAdd, Nat.reduceSub, decide_true, decide_false, reduceIte, Nat.reduceLeDiff, Nat.reduceLT, Int.reduceLT, Int.reduceLE, Int.reduceNeg, Int.reducePow, and_self, or_self, and_true, true_and, or_true, true_or, Bool.not_true, Bool.not_false, pour_spend, spend_pour, lcD, e6, e1, e2, a1, a2, gt_iff_lt, q, ih]
      · rw [if_neg q]
        simp only [List.nil_append]
        simp only [sSeq, sSet, sOwn, sPar, sParL,  sIf, sRet, sRetL, sRetO, sDrop, sAug, sApp, sFrz, frz, sAsg, gSet, gsNil, gsCons, gTupF, Fi.gSub, sFor, iL, iT, iR1, iR2, iZ, iEn, itemsK, eVar, eC, Fi.e2, Fi.e1, asB, eChain, tAndF, tOrF, tNotF, eAnd, eOr, eNot, eIf, aNil, aCons, eTup, lLst, eL, eCall, lCall, eCallF, lCallF, eSlT, lSl, oNone, oSome, ownIx, ownLen, lLc, wipeE, pYes, sNext, fnD, entry, fAdd_int, fSub, fMul_l, fMul_r, fDiv_ok, fMod_ok, fPow_ok, fLt, fLe, fGt, fGe, fEq_int, fEq_str, fEq_bool, fNe_int, fNe_str, fNe_bool, isN, fIs, fIsNot, fIx, fNeg, fLen, fMin, fMax, fTuple, fList, fIntB, fSum, fAll, fAny, at_0, at_1, at_2, eT, eS, eStep, eR, getInts_map, Option.bind_some, Option.map_some, List.getElem?_cons_succ, List.getElem?_cons_zero, List.set_cons_succ, List.set_cons_zero, List.length_cons, List.length_nil, List.length_map, List.map_cons, List.map_nil, List.nil_append, List.cons_append, List.replicate, Nat.zero_add, Nat.reduceAdd, Nat.reduceSub, decide_true, decide_false, reduceIte, Nat.reduceLeDiff, Nat.reduceLT, Int.reduceLT, Int.reduceLE, Int.reduceNeg, Int.reducePow, and_self, or_self, and_true, true_and, or_true, true_or, Bool.not_true, Bool.not_false, pour_spend, spend_pour, lcD, e6, e1, e2, a1, a2, gt_iff_lt, q, ih]
theorem diff_lc {caps s : List Int} {env : En} (h6 : 6 < env.length) (g0 : env[0]? = some (some (.val (eT caps)))) (g1 : env[1]? = some (some (.val (eT s)))) : ∀ l : List Nat, (∀ p ∈ l, p < caps.length ∧ p < s.length) →
    lcD (gSet 6) pYes (Fi.e2 fSub (Fi.e2 fIx (eVar 0) (eVar 6)) (Fi.e2 fIx (eVar 1) (eVar 6))) env (l.map fun (i : Nat) => PyData.int (i : Int)) = some ((l.map fun p => caps.getD p 0 - s.getD p 0).map .int)
  | [], _ => rfl
  | p :: l, h => by
    have ih := diff_lc h6 g0 g1 l fun q hq => h q (by simp [hq])
    have hp := h p (by simp)
    have a1 := at_get hp.1
    have a2 := at_get hp.2
    have e6 : ∀ x : Option Sl, (env.set 6 x)[6]? = some x := fun x => List.getElem?_set_self h6
    have e0 : ∀ x : Option Sl, (env.set 6 x)[0]? = some (some (.val (eT caps))) := fun x => by rw [List.getElem?_set_ne (by decide)]; exact g0
    have e1 : ∀ x : Option Sl, (env.set 6 x)[1]? = some (some (.val (eT s))) := fun x => by rw [List.getElem?_set_ne (by decide)]; exact g1
    rw [List.map_cons, List.map_cons, List.map_cons]
    simp only [eT] at e0 e1
    simp only [sSeq, sSet, sOwn, sPar, sParL,  sIf, sRet, sRetL, sRetO, sDrop, sAug, sApp, sFrz, frz, sAsg, gSet, gsNil, gsCons, gTupF, Fi.gSub, sFor, iL, iT, iR1, iR2, iZ, iEn, itemsK, eVar, eC, Fi.e2, Fi.e1, asB, eChain, tAndF, tOrF, tNotF, eAnd, eOr, eNot, eIf, aNil, aCons, eTup, lLst, eL, eCall, lCall, eCallF, lCallF, eSlT, lSl, oNone, oSome, ownIx, ownLen, lLc, wipeE, pYes, sNext, fnD, entry, fAdd_int, fSub, fMul_l, fMul_r, fDiv_ok, fMod_ok, fPow_ok, fLt, fLe, fGt, fGe, fEq_int, fEq_str, fEq_bool, fNe_int, fNe_str, fNe_bool, isN, fIs, fIsNot, fIx, fNeg, fLen, fMin, fMax, fTuple, fList, fIntB, fSum, fAll, fAny, at_0, at_1, at_2, eT, eS, eStep, eR, getInts_map, Option.bind_some, Option.map_some, List.getElem?_cons_succ, List.getElem?_cons_zero, List.set_cons_succ, List.set_cons_zero, List.length_cons, List.length_nil, List.length_map, List.map_cons, List.map_nil, List.nil_append, List.cons_append, List.replicate, Nat.zero_add, Nat.reduceAdd, Nat.reduceSub, decide_true, decide_false, reduceIte, Nat.reduceLeDiff, Nat.reduceLT, Int.reduceLT, Int.reduceLE, Int.reduceNeg, Int.reducePow, and_self, or_self, and_true, true_and, or_true, true_or, Bool.not_true, Bool.not_false, pour_spend, spend_pour, lcD, e6, e0, e1, a1, a2, ih]
theorem spends_loop (x0 x3 x4 x7 x8 : Option Sl) : ∀ (y m y0 m0 : List Int) (acc : List Step) (k : Nat) (x6 : Option Sl), m.length = y.length → m0.length = k → y0.length = k → acc.length + y.length ≤ 1000 → ∃ z6,
    forD (gSet 6) lp_shortest_script_0 ((List.range' k y.length).map fun (i : Nat) => PyData.int (i : Int)) [x0, some (.val (eT (m0 ++ m))), some (.val (eT (y0 ++ y))), x3, x4, some (.own (acc.map eStep)), x6, x7, x8]
      = some (.next [x0, some (.val (eT (m0 ++ m))), some (.val (eT (y0 ++ y))), x3, x4, some (.own ((acc ++ spF k y m).map eStep)), z6, x7, x8])
  | [], m, y0, m0, acc, k, x6, h, _, _, _ => ⟨x6, by cases m <;> simp [forD, spF]⟩
  | b :: y, [], _, _, _, _, _, h, _, _, _ => by simp at h
  | b :: y, a :: m, y0, m0, acc, k, x6, h, hm0, hy0, hn => by
    have a1 := at_app m0 a m
    have a2 := at_app y0 b y
    rw [hm0] at a1
    rw [hy0] at a2
    have hal : (acc.map eStep).length < 100000 := by rw [List.length_map]; simp at hn; omega
    rw [List.length_cons, List.range'_succ, List.map_cons]
    unfold spF
    by_cases q : b < a
    · rw [if_pos q]
      obtain ⟨z6, ih⟩ := spends_loop x0 x3 x4 x7 x8 y m (y0 ++ [b]) (m0 ++ [a]) (acc ++ [Step.spend k (a - b)]) (k + 1) (some (.val (.int (k : Int)))) (by simpa using h) (by simp [hm0]) (by simp [hy0]) (by simp at hn ⊢; omega)
      rw [List.append_assoc, List.append_assoc, List.append_assoc] at ih
      refine ⟨z6, forD_step (e1 := [x0, some (.val (eT (m0 ++ a :: m))), some (.val (eT (y0 ++ b :: y))), x3, x4, some (.own (acc.map eStep)), some (.val (.int (k : Int))), x7, x8]) (e2 := [x0, some (.val (eT (m0 ++ a :: m))), some (.val (eT (y0 ++ b :: y))), x3, x4, some (.own ((acc ++ [Step.spend k (a - b)]).map eStep)), some (.val (.int (k : Int))), x7, x8]) rfl ?_ ih⟩
      rw [List.map_append]
      simp only [List.map_cons, List.map_nil]
      generalize acc.map eStep = AC at *
      simp only [eT, eStep]
      generalize (m0 ++ a :: m).map PyData.int = M' at *
      generalize (y0 ++ b :: y).map PyData.int = Y' at *
      simp only [sSeq, sSet, sOwn, sPar, sParL,  sIf, sRet, sRetL, sRetO, sDrop, sAug, sApp, sFrz, frz, sAsg, gSet, gsNil, gsCons, gTupF, Fi.gSub, sFor, iL, iT, iR1, iR2, iZ, iEn, itemsK, eVar, eC, Fi.e2, Fi.e1, asB, eChain, tAndF, tOrF, tNotF, eAnd, eOr, eNot, eIf, aNil, aCons, eTup, lLst, eL, eCall, lCall, eCallF, lCallF, eSlT, lSl, oNone, oSome, ownIx, ownLen, lLc, wipeE, pYes, sNext, fnD, entry, fAdd_int, fSub, fMul_l, fMul_r, fDiv_ok, fMod_ok, fPow_ok, fLt, fLe, fGt, fGe, fEq_int, fEq_str, fEq_bool, fNe_int, fNe_str, fNe_bool, isN, fIs, fIsNot, fIx, fNeg, fLen, fMin, fMax, fTuple, fList, fIntB, fSum, fAll, fAny, at_0, at_1, at_2, eT, eS, eStep, eR, getInts_map, Option.bind_some, Option.map_some, List.getElem?_cons_succ, List.getElem?_cons_zero, List.set_cons_succ, List.set_cons_zero, List.length_cons, List.length_nil, List.length_map, List.map_cons, List.map_nil, List.nil_append, List.cons_append, List.replicate, Nat.zero_add, Nat.reduceAdd, Nat.reduceSub, decide_true, decide_false, reduceIte, Nat.reduceLeDiff, Nat.reduceLT, Int.reduceLT, Int.reduceLE, Int.reduceNeg, Int.reducePow, and_self, or_self, and_true, true_and, or_true, true_or, Bool.not_true, Bool.not_false, pour_spend, spend_pour, lp_shortest_script_0, a1, a2, q, hal, Nat.zero_le]
    · rw [if_neg q]
      obtain ⟨z6, ih⟩ := spends_loop x0 x3 x4 x7 x8 y m (y0 ++ [b]) (m0 ++ [a]) acc (k + 1) (some (.val (.int (k : Int)))) (by simpa using h) (by simp [hm0]) (by simp [hy0]) (by simp at hn ⊢; omega)
      rw [List.append_assoc, List.append_assoc] at ih
      refine ⟨z6, forD_step (e1 := [x0, some (.val (eT (m0 ++ a :: m))), some (.val (eT (y0 ++ b :: y))), x3, x4, some (.own (acc.map eStep)), some (.val (.int (k : Int))), x7, x8]) (e2 := [x0, some (.val (eT (m0 ++ a :: m))), some (.val (eT (y0 ++ b :: y))), x3, x4, some (.own (acc.map eStep)), some (.val (.int (k : Int))), x7, x8]) rfl ?_ (by rw [List.nil_append]; exact ih)⟩
      generalize acc.map eStep = AC at *
      simp only [eT]
      generalize (m0 ++ a :: m).map PyData.int = M' at *
      generalize (y0 ++ b :: y).map PyData.int = Y' at *
      simp only [sSeq, sSet, sOwn, sPar, sParL,  sIf, sRet, sRetL, sRetO, sDrop, sAug, sApp, sFrz, frz, sAsg, gSet, gsNil, gsCons, gTupF, Fi.gSub, sFor, iL, iT, iR1, iR2, iZ, iEn, itemsK, eVar, eC, Fi.e2, Fi.e1, asB, eChain, tAndF, tOrF, tNotF, eAnd, eOr, eNot, eIf, aNil, aCons, eTup, lLst, eL, eCall, lCall, eCallF, lCallF, eSlT, lSl, oNone, oSome, ownIx, ownLen, lLc, wipeE, pYes, sNext, fnD, entry, fAdd_int, fSub, fMul_l, fMul_r, fDiv_ok, fMod_ok, fPow_ok, fLt, fLe, fGt, fGe, fEq_int, fEq_str, fEq_bool, fNe_int, fNe_str, fNe_bool, isN, fIs, fIsNot, fIx, fNeg, fLen, fMin, fMax, fTuple, fList, fIntB, fSum, fAll, fAny, at_0, at_1, at_2, eT, eS, eStep, eR, getInts_map, Option.bind_some, Option.map_some, List.getElem?_cons_succ, List.getElem?_cons_zero, List.set_cons_succ, List.set_cons_zero, List.length_cons, List.length_nil, List.length_map, List.map_cons, List.map_nil, List.nil_append, List.cons_append, List.replicate, Nat.zero_add, Nat.reduceAdd, Nat.reduceSub, decide_true, decide_false, reduceIte, Nat.reduceLeDiff, Nat.reduceLT, Int.reduceLT, Int.reduceLE, Int.reduceNeg, Int.reducePow, and_self, or_self, and_true, true_and, or_true, true_or, Bool.not_true, Bool.not_false, pour_spend, spend_pour, lp_shortest_script_0, a1, a2, q]
theorem range_r (n : Nat) : List.range n = List.range' 0 n := List.range_eq_range'
theorem fNe_nats (l : List Nat) : fNe (.list (l.map fun (i : Nat) => PyData.int (i : Int))) (.list []) = some (.bool (!l.isEmpty)) := by
  cases l with
  | nil => exact fNe_self rfl
  | cons r l =>
    have e : ((r :: l).map fun (i : Nat) => PyData.int (i : Int)) = ((r :: l).map fun (i : Nat) => (i : Int)).map .int := by rw [List.map_map]; rfl
    have sh : SeqAt.shaped (.list ((r :: l).map fun (i : Nat) => PyData.int (i : Int))) = true := by
      rw [e]
      have h := depth_ints ((r :: l).map fun (i : Nat) => (i : Int))
      have h2 := canLay_ints ((r :: l).map fun (i : Nat) => (i : Int))
      simp only [SeqAt.shaped, PyData.canLay0, h2, PyData.depth, Bool.true_and]
      exact decide_eq_true (by omega)
    show (if _ then _ else _) = _
    rw [if_pos ⟨sh, rfl⟩]
    rfl
theorem upF_len : ∀ (k : Nat) (s y : List Int), (upF k s y).length ≤ s.length
  | k, [], y => by cases y <;> simp [upF]
  | k, _ :: _, [] => by simp [upF]
  | k, a :: s, b :: y => by
    have := upF_len (k + 1) s y
    unfold upF
    rw [List.length_append, List.length_cons]
    split <;> simp <;> omega
theorem short_ok {caps s y : List Int} (hc : caps.length ≤ 100) (hs : Lv caps s) (hy : Lv caps y) : F_shortest_script [eT caps, eT s, eT y] = some (.val (eS (scr caps s y))) := by
  have hl := hs.len
  have hl2 := hy.len
  have hmy : (mid caps s y).length = y.length := (mid_ge hs hy).len.symm
  have r1 := raised_lc (env := [some (.val (eT caps)), some (.val (eT s)), some (.val (eT y)), some (.val (.list ((List.range caps.length).map fun (i : Nat) => PyData.int (i : Int)))), none, none, none, none, none]) (by simp) (k := 0) s y [] [] (by omega) rfl rfl rfl rfl
  rw [← range_r, ← hl] at r1
  have hb : -100000 < (caps.length : Int) ∧ (caps.length : Int) < 100000 := by omega
  have hb2 : (List.range caps.length).length < 100000 := by rw [List.length_range]; omega
  have ne := fNe_nats (upF 0 s y)
  have hul := upF_len 0 s y
  refine fn_ret ?_
  unfold b_shortest_script
  cases hu : up s y with
  | false =>
    have hm := mid_no (caps := caps) hu
    have sc : scr caps s y = spF 0 y s := by unfold scr; rw [hu, hm]; rfl
    obtain ⟨z6, l1⟩ := spends_loop (some (.val (eT caps))) (some (.val (.list ((List.range caps.length).map fun (i : Nat) => PyData.int (i : Int))))) (some (.val (.list []))) none none y s [] [] [] 0 none (by omega) rfl rfl (by simp; omega)
    rw [← range_r, ← hl2] at l1
    rw [sc]
    rw [upF_no 0 hu] at r1 ne
    simp only [List.nil_append, List.map_nil] at l1 r1 ne
    simp only [eS]
    generalize (spF 0 y s).map eStep = SP at *
    simp only [eT] at r1 l1 ⊢
    generalize hRG : ((List.range caps.length).map fun (i : Nat) => PyData.int (i : Int)) = RG at *
    have hRl : RG.length < 100000 := by rw [← hRG, List.length_map]; exact hb2
    simp only [sSeq, sSet, sOwn, sPar, sParL,  sIf, sRet, sRetL, sRetO, sDrop, sAug, sApp, sFrz, frz, sAsg, gSet, gsNil, gsCons, gTupF, Fi.gSub, sFor, iL, iT, iR1, iR2, iZ, iEn, itemsK, eVar, eC, Fi.e2, Fi.e1, asB, eChain, tAndF, tOrF, tNotF, eAnd, eOr, eNot, eIf, aNil, aCons, eTup, lLst, eL, eCall, lCall, eCallF, lCallF, eSlT, lSl, oNone, oSome, ownIx, ownLen, lLc, wipeE, pYes, sNext, fnD, entry, fAdd_int, fSub, fMul_l, fMul_r, fDiv_ok, fMod_ok, fPow_ok, fLt, fLe, fGt, fGe, fEq_int, fEq_str, fEq_bool, fNe_int, fNe_str, fNe_bool, isN, fIs, fIsNot, fIx, fNeg, fLen, fMin, fMax, fTuple, fList, fIntB, fSum, fAll, fAny, at_0, at_1, at_2, eT, eS, eStep, eR, getInts_map, Option.bind_some, Option.map_some, List.getElem?_cons_succ, List.getElem?_cons_zero, List.set_cons_succ, List.set_cons_zero, List.length_cons, List.length_nil, List.length_map, List.map_cons, List.map_nil, List.nil_append, List.cons_append, List.replicate, Nat.zero_add, Nat.reduceAdd, Nat.reduceSub, decide_true, decide_false, reduceIte, Nat.reduceLeDiff, Nat.reduceLT, Int.reduceLT, Int.reduceLE, Int.reduceNeg, Int.reducePow, and_self, or_self, and_true, true_and, or_true, true_or, Bool.not_true, Bool.not_false, pour_spend, spend_pour, lR1, hb, hb2, hRl, Int.toNat_natCast, hRG, r1, ne, List.isEmpty_nil, l1, Nat.zero_le]
  | true =>
    obtain ⟨j, hj, g1, g2, g3⟩ := last_of hl (by omega) hu
    have g1 := g1 0
    rw [Nat.zero_add] at g1
    have gl : atI ((upF 0 s y).map fun (i : Nat) => PyData.int (i : Int)) (-1) = some (.int (j : Int)) := atI_last (by rw [List.getLast?_map, g1]; rfl)
    have hne : (upF 0 s y).isEmpty = false := by
      cases e : upF 0 s y with
      | nil => rw [e] at g1; cases g1
      | cons _ _ => rfl
    rw [hne] at ne
    have cr : cutD ((List.range caps.length).map fun (i : Nat) => PyData.int (i : Int)) none (some (j : Int)) = (List.range j).map fun (i : Nat) => PyData.int (i : Int) := by
      rw [cut_to, ← List.map_take, List.take_range, Nat.min_eq_left (by omega)]
    have d1 := diff_lc (caps := caps) (s := s) (env := [some (.val (eT caps)), some (.val (eT s)), some (.val (eT y)), some (.val (.list ((List.range caps.length).map fun (i : Nat) => PyData.int (i : Int)))), some (.val (.list ((upF 0 s y).map fun (i : Nat) => PyData.int (i : Int)))), some (.own []), none, some (.val (.int (j : Int))), none]) (by simp) rfl rfl (List.range j) (fun p hp => by have := List.mem_range.mp hp; omega)
    have a1 := at_get (l := y) (k := j) (by omega)
    have a2 := at_get (l := s) (k := j) (by omega)
    have c1 : cutD (caps.map PyData.int) none (some (j : Int)) = (caps.take j).map .int := by rw [cut_to, List.map_take]
    have c2 : cutD (s.map PyData.int) (some ((j : Int) + 1)) none = (s.drop (j + 1)).map .int := by
      have := cut_from (l := s.map PyData.int) (a := j + 1)
      rw [← List.map_drop] at this
      exact this
    have b1 : fAdd (.tuple ((caps.take j).map .int)) (.tuple [.int (y.getD j 0)]) = some (.tuple ((caps.take j ++ [y.getD j 0]).map .int)) := by
      rw [fAdd_tup (by simp; omega), List.map_append]
      rfl
    have b2 : fAdd (.tuple ((caps.take j ++ [y.getD j 0]).map .int)) (.tuple ((s.drop (j + 1)).map .int)) = some (.tuple ((mid caps s y).map .int)) := by
      rw [fAdd_tup (by simp; omega), ← List.map_append, g2, List.append_assoc]
      rfl
    have sc : scr caps s y = [.pour (amtU caps s y)] ++ spF 0 y (mid caps s y) := by unfold scr; rw [hu]; rfl
    obtain ⟨z6, l1⟩ := spends_loop (some (.val (eT caps))) (some (.val (.list ((List.range caps.length).map fun (i : Nat) => PyData.int (i : Int))))) (some (.val (.list ((upF 0 s y).map fun (i : Nat) => PyData.int (i : Int))))) (some (.val (.int (j : Int)))) (some (.val (.int (amtU caps s y)))) y (mid caps s y) [] [] [.pour (amtU caps s y)] 0 none (by omega) rfl rfl (by simp; omega)
    rw [← range_r, ← hl2, ← sc] at l1
    have hRl : ((List.range caps.length).map fun (i : Nat) => PyData.int (i : Int)).length < 100000 := by rw [List.length_map]; exact hb2
    have hRj : ((List.range j).map fun (i : Nat) => PyData.int (i : Int)).length < 100000 := by rw [List.length_map, List.length_range]; omega
    simp only [List.nil_append, List.map_cons, List.map_nil, eStep] at l1
    simp only [eS]
    generalize (scr caps s y).map eStep = SP at *
    simp only [eT] at r1 l1 d1 ⊢
    have g4 := g3.symm
    clear g3
    generalize hSM : ((List.range j).map fun p => caps.getD p 0 - s.getD p 0) = SM at *
    generalize hRG : ((List.range caps.length).map fun (i : Nat) => PyData.int (i : Int)) = RG at *
    generalize ((List.range j).map fun (i : Nat) => PyData.int (i : Int)) = RJ at *
    generalize ((upF 0 s y).map fun (i : Nat) => PyData.int (i : Int)) = UP at *
    generalize (mid caps s y).map PyData.int = MD at *
    generalize (caps.take j ++ [y.getD j 0]).map PyData.int = W1 at *
    generalize (caps.take j).map PyData.int = W2 at *
    generalize (s.drop (j + 1)).map PyData.int = W3 at *
    simp only [sSeq, sSet, sOwn, sPar, sParL,  sIf, sRet, sRetL, sRetO, sDrop, sAug, sApp, sFrz, frz, sAsg, gSet, gsNil, gsCons, gTupF, Fi.gSub, sFor, iL, iT, iR1, iR2, iZ, iEn, itemsK, eVar, eC, Fi.e2, Fi.e1, asB, eChain, tAndF, tOrF, tNotF, eAnd, eOr, eNot, eIf, aNil, aCons, eTup, lLst, eL, eCall, lCall, eCallF, lCallF, eSlT, lSl, oNone, oSome, ownIx, ownLen, lLc, wipeE, pYes, sNext, fnD, entry, fAdd_int, fSub, fMul_l, fMul_r, fDiv_ok, fMod_ok, fPow_ok, fLt, fLe, fGt, fGe, fEq_int, fEq_str, fEq_bool, fNe_int, fNe_str, fNe_bool, isN, fIs, fIsNot, fIx, fNeg, fLen, fMin, fMax, fTuple, fList, fIntB, fSum, fAll, fAny, at_0, at_1, at_2, eT, eS, eStep, eR, getInts_map, Option.bind_some, Option.map_some, List.getElem?_cons_succ, List.getElem?_cons_zero, List.set_cons_succ, List.set_cons_zero, List.length_cons, List.length_nil, List.length_map, List.map_cons, List.map_nil, List.nil_append, List.cons_append, List.replicate, Nat.zero_add, Nat.reduceAdd, Nat.reduceSub, decide_true, decide_false, reduceIte, Nat.reduceLeDiff, Nat.reduceLT, Int.reduceLT, Int.reduceLE, Int.reduceNeg, Int.reducePow, and_self, or_self, and_true, true_and, or_true, true_or, Bool.not_true, Bool.not_false, pour_spend, spend_pour, lR1, hb, hRl, hRj, Int.toNat_natCast, hRG, r1, ne, gl, cr, d1, a1, a2, c1, c2, b1, b2, g4, l1, Nat.zero_le]
end Lw

namespace Lw
open PySem L2 Fi
theorem few_ok {caps s y : List Int} (hc : caps.length ≤ 100) (hs : Lv caps s) (hy : Lv caps y) : F_fewest_steps [eT caps, eT s, eT y] = some (.val (.int (fF caps s y))) := by
  have f := short_ok hc hs hy
  have hl : ((scr caps s y).map eStep).length = fF caps s y := by rw [List.length_map, scr_len]
  refine fn_ret ?_
  unfold b_fewest_steps
  simp only [eS] at f
  generalize (scr caps s y).map eStep = SC at *
  simp only [eT] at f ⊢
  simp only [sSeq, sSet, sOwn, sPar, sParL,  sIf, sRet, sRetL, sRetO, sDrop, sAug, sApp, sFrz, frz, sAsg, gSet, gsNil, gsCons, gTupF, Fi.gSub, sFor, iL, iT, iR1, iR2, iZ, iEn, itemsK, eVar, eC, Fi.e2, Fi.e1, asB, eChain, tAndF, tOrF, tNotF, eAnd, eOr, eNot, eIf, aNil, aCons, eTup, lLst, eL, eCall, lCall, eCallF, lCallF, eSlT, lSl, oNone, oSome, ownIx, ownLen, lLc, wipeE, pYes, sNext, fnD, entry, fAdd_int, fSub, fMul_l, fMul_r, fDiv_ok, fMod_ok, fPow_ok, fLt, fLe, fGt, fGe, fEq_int, fEq_str, fEq_bool, fNe_int, fNe_str, fNe_bool, isN, fIs, fIsNot, fIx, fNeg, fLen, fMin, fMax, fTuple, fList, fIntB, fSum, fAll, fAny, at_0, at_1, at_2, eT, eS, eStep, eR, getInts_map, Option.bind_some, Option.map_some, List.getElem?_cons_succ, List.getElem?_cons_zero, List.set_cons_succ, List.set_cons_zero, List.length_cons, List.length_nil, List.length_map, List.map_cons, List.map_nil, List.nil_append, List.cons_append, List.replicate, Nat.zero_add, Nat.reduceAdd, Nat.reduceSub, decide_true, decide_false, reduceIte, Nat.reduceLeDiff, Nat.reduceLT, Int.reduceLT, Int.reduceLE, Int.reduceNeg, Int.reducePow, and_self, or_self, and_true, true_and, or_true, true_or, Bool.not_true, Bool.not_false, pour_spend, spend_pour, f, hl]
end Lw

namespace Lw
open PySem L2 Fi
theorem fits_end {caps lv w : List Int} {k : Nat} {s : List Step} {t : Step} {low high a b : Int} (L : Int) (hch : ∀ a, 0 ≤ a → a ≤ L → (fitsP caps lv s k w a ↔ low ≤ a ∧ a ≤ high)) (hlo : 0 ≤ low) (hL : high ≤ L) (hab : 0 ≤ a ∧ a ≤ b ∧ b ≤ L) (h1 : fitsP caps lv s k w a) (h2 : fitsP caps lv s k w b) (h3 : a = 0 ∨ ¬ fitsP caps lv s k w (a - 1)) (h4 : b = L ∨ ¬ fitsP caps lv s k w (b + 1)) : low = a ∧ high = b := by
  have e1 := (hch a hab.1 (by omega)).mp h1
  have e2 := (hch b (by omega) hab.2.2).mp h2
  constructor
  · rcases h3 with h | h
    · omega
    · by_cases z : low = a
      · exact z
      · exact absurd ((hch (a - 1) (by omega) (by omega)).mpr (by omega)) h
  · rcases h4 with h | h
    · omega
    · by_cases z : high = b
      · exact z
      · exact absurd ((hch (b + 1) (by omega) (by omega)).mpr (by omega)) h
/-! ### two envelopes, f a letter -/
theorem p2 {a b x y z p q r : Int} (h1 : x + min z (a - x) = p) (h2 : y + min (z - min z (a - x)) (b - y) = q) (h3 : z - min z (a - x) - min (z - min z (a - x)) (b - y) = r) : pourM [a, b] [x, y] z = ([p, q], r) := by
  subst h1 h2 h3
  rfl
theorem sP {caps : List Int} {a b x y z p q r : Int} (hc : caps = [a, b]) (h1 : x + min z (a - x) = p) (h2 : y + min (z - min z (a - x)) (b - y) = q) (h3 : z - min z (a - x) - min (z - min z (a - x)) (b - y) = r) : stepM caps [x, y] (.pour z) = some ([p, q], r) := by
  subst hc
  show some (pourM [a, b] [x, y] z) = _
  rw [p2 h1 h2 h3]
theorem s1 {caps : List Int} {x y a p : Int} (h : a ≤ y) (e : y - a = p) : stepM caps [x, y] (.spend 1 a) = some ([x, p], 0) := by
  subst e
  show (if y < a then none else some ([x, y - a], (0 : Int))) = _
  rw [if_neg (by omega)]
theorem n1 {caps : List Int} {x y a : Int} (h : y < a) : stepM caps [x, y] (.spend 1 a) = none := by
  show (if y < a then none else some ([x, y - a], (0 : Int))) = _
  rw [if_pos h]
theorem s0 {caps : List Int} {x y a p : Int} (h : a ≤ x) (e : x - a = p) : stepM caps [x, y] (.spend 0 a) = some ([p, y], 0) := by
  subst e
  show (if x < a then none else some ([x - a, y], (0 : Int))) = _
  rw [if_neg (by omega)]
theorem rA {caps lv l : List Int} {x z : Int} {t : Step} {r : List Step} (h : stepM caps lv t = some (l, z)) : runA caps lv x (t :: r) = runA caps l (x + z) r := by
  simp only [runA, h]
theorem rN {caps lv : List Int} {x : Int} {t : Step} {r : List Step} (h : stepM caps lv t = none) : runA caps lv x (t :: r) = none := by
  simp only [runA, h]
theorem l2_iff {a b c d : Int} : ([a, b] : List Int) = [c, d] ↔ a = c ∧ b = d := by simp
section
variable {f : Int} (h1 : 1 ≤ f) (h2 : f ≤ 1000)
include h1 h2
theorem g_lv : Lv [5 * f, 9 * f] [f, 0] := ⟨by omega, by omega, by omega, by omega, trivial⟩
theorem g_run : F_run [eT [5 * f, 9 * f], eT [0, 0], eS [.pour (7 * f), .spend 1 (2 * f), .pour (20 * f)]] = some (.val (.tuple [eT [5 * f, 9 * f], .int (11 * f)])) := by
  have e := run_ok (caps := [5 * f, 9 * f]) (lv := [0, 0]) (s := [.pour (7 * f), .spend 1 (2 * f), .pour (20 * f)]) (by simp) rfl (by simp [StOk]; omega)
  have r : runM [5 * f, 9 * f] [0, 0] [.pour (7 * f), .spend 1 (2 * f), .pour (20 * f)] = some ([5 * f, 9 * f], 11 * f) := by
    unfold runM
    rw [rA (sP (p := 5 * f) (q := 2 * f) (r := 0) rfl (by omega) (by omega) (by omega)), rA (s1 (p := 0) (by omega) (by omega)), rA (sP (p := 5 * f) (q := 9 * f) (r := 11 * f) rfl (by omega) (by omega) (by omega))]
    show some ([5 * f, 9 * f], 0 + 0 + 0 + 11 * f) = _
    congr 2
    omega
  rw [r] at e
  exact e
theorem g_least : F_least_pour [eT [5 * f, 9 * f], eT [f, 0], eS [.spend 1 (4 * f)]] = some (.val (.int (8 * f))) := by
  have hs : ([5 * f, 9 * f] : List Int).sum = 14 * f := by simp; omega
  have no : ∀ m, 0 ≤ m → m < 8 * f → runM [5 * f, 9 * f] [f, 0] [.pour m, .spend 1 (4 * f)] = none := fun m m0 hm => by
    unfold runM
    rw [rA (sP (p := f + min m (5 * f - f)) (q := 0 + min (m - min m (5 * f - f)) (9 * f - 0)) rfl rfl rfl rfl), rN (n1 (by omega))]
  have yes : ∀ m, 8 * f ≤ m → runM [5 * f, 9 * f] [f, 0] [.pour m, .spend 1 (4 * f)] ≠ none := fun m hm => by
    unfold runM
    rw [rA (sP (p := f + min m (5 * f - f)) (q := 0 + min (m - min m (5 * f - f)) (9 * f - 0)) rfl rfl rfl rfl), rA (s1 (by omega) rfl)]
    exact fun z => by cases z
  rcases least_ok (caps := [5 * f, 9 * f]) (lv := [f, 0]) (s := [.spend 1 (4 * f)]) (by simp) rfl (by simp [StOk]; omega) (by simp) (by omega) (by omega) with ⟨e, _⟩ | ⟨m, m0, m1, g1, g2, e⟩
  · exact absurd e (yes _ (by omega))
  · have a : ¬ m < 8 * f := fun h => g1 (no m m0 h)
    have b : ¬ 8 * f < m := fun h => yes (8 * f) (by omega) (g2 (8 * f) (by omega) h)
    have e1 : m = 8 * f := by omega
    rw [← e1]
    exact e
theorem g_larg : F_largest_spending [eT [5 * f, 9 * f], eT [5 * f, 3 * f], eS [.pour (2 * f), .spend 1 (4 * f)], .int 0] = some (.val (.int f)) := by
  have no : ∀ m, f < m → m ≤ 5 * f → runM [5 * f, 9 * f] [5 * f, 3 * f] [.spend 0 m, .pour (2 * f), .spend 1 (4 * f)] = none := fun m m0 hm => by
    unfold runM
    rw [rA (s0 hm rfl), rA (sP (p := 5 * f - m + min (2 * f) (5 * f - (5 * f - m))) (q := 3 * f + min (2 * f - min (2 * f) (5 * f - (5 * f - m))) (9 * f - 3 * f)) rfl rfl rfl rfl), rN (n1 (by omega))]
  have yes : runM [5 * f, 9 * f] [5 * f, 3 * f] [.spend 0 f, .pour (2 * f), .spend 1 (4 * f)] ≠ none := by
    unfold runM
    rw [rA (s0 (by omega) rfl), rA (sP (p := 5 * f - f + min (2 * f) (5 * f - (5 * f - f))) (q := 3 * f + min (2 * f - min (2 * f) (5 * f - (5 * f - f))) (9 * f - 3 * f)) rfl rfl rfl rfl), rA (s1 (by omega) rfl)]
    exact fun z => by cases z
  have y0 : runM [5 * f, 9 * f] [5 * f, 3 * f] [.pour (2 * f), .spend 1 (4 * f)] ≠ none := by
    unfold runM
    rw [rA (sP (p := 5 * f) (q := 5 * f) (r := 0) rfl (by omega) (by omega) (by omega)), rA (s1 (by omega) rfl)]
    exact fun z => by cases z
  rcases lspend_ok (caps := [5 * f, 9 * f]) (lv := [5 * f, 3 * f]) (s := [.pour (2 * f), .spend 1 (4 * f)]) (i := 0) (by simp) ⟨by omega, by omega, by omega, by omega, trivial⟩ (by simp [StOk]; omega) (by simp) (by simp) (by show 5 * f < 2 ^ 63; omega) with ⟨e, _⟩ | ⟨m, m0, m1, _, g1, g2, e⟩
  · exact absurd e y0
  · replace m1 : m ≤ 5 * f := m1
    have a : ¬ f < m := fun h => g1 (no m h m1)
    have b : ¬ m < f := fun h => yes (g2 f h)
    have e1 : m = f := by omega
    rw [← e1]
    rw [← e1] at e
    exact e
theorem fit_iff {w : List Int} {a : Int} : fitsP [5 * f, 9 * f] [f, 0] [.pour 0] 0 w a ↔ [f + min a (5 * f - f), 0 + min (a - min a (5 * f - f)) (9 * f - 0)] = w := by
  have r : runM [5 * f, 9 * f] [f, 0] (withA [.pour 0] 0 a) = some ([f + min a (5 * f - f), 0 + min (a - min a (5 * f - f)) (9 * f - 0)], 0 + (a - min a (5 * f - f) - min (a - min a (5 * f - f)) (9 * f - 0))) := by
    show runA [5 * f, 9 * f] [f, 0] 0 [.pour a] = _
    rw [rA (sP (p := f + min a (5 * f - f)) (q := 0 + min (a - min a (5 * f - f)) (9 * f - 0)) rfl rfl rfl rfl)]
    rfl
  unfold fitsP
  constructor
  · rintro ⟨p, e1, e2⟩
    rw [r] at e1
    cases e1
    exact e2
  · intro e
    exact ⟨_, r, e⟩
theorem g_fit1 : F_fitting_amounts [eT [5 * f, 9 * f], eT [f, 0], eS [.pour 0], .int 0, eT [5 * f, 9 * f]] = some (.val (.tuple [.int (13 * f), .int 1000000000])) := by
  obtain ⟨low, high, h0, hL, hch, e⟩ := fitting_ok (caps := [5 * f, 9 * f]) (lv := [f, 0]) (s := [.pour 0]) (k := 0) (t := .pour 0) (w := [5 * f, 9 * f]) (by simp) (by simp; omega) (g_lv h1 h2) (by simp [StOk]) (by simp) rfl rfl
  obtain ⟨rfl, rfl⟩ := fits_end (t := .pour 0) (a := 13 * f) (b := 1000000000) 1000000000 hch h0 hL (by omega) ((fit_iff h1 h2).mpr (l2_iff.mpr (by omega))) ((fit_iff h1 h2).mpr (l2_iff.mpr (by omega))) (.inr fun z => by have := l2_iff.mp ((fit_iff h1 h2).mp z); omega) (.inl rfl)
  rw [if_pos (by omega)] at e
  exact e
theorem g_fit2 : F_fitting_amounts [eT [5 * f, 9 * f], eT [f, 0], eS [.pour 0], .int 0, eT [5 * f, 2 * f]] = some (.val (.tuple [.int (6 * f), .int (6 * f)])) := by
  obtain ⟨low, high, h0, hL, hch, e⟩ := fitting_ok (caps := [5 * f, 9 * f]) (lv := [f, 0]) (s := [.pour 0]) (k := 0) (t := .pour 0) (w := [5 * f, 2 * f]) (by simp) (by simp; omega) (g_lv h1 h2) (by simp [StOk]) (by simp) rfl rfl
  obtain ⟨rfl, rfl⟩ := fits_end (t := .pour 0) (a := 6 * f) (b := 6 * f) 1000000000 hch h0 hL (by omega) ((fit_iff h1 h2).mpr (l2_iff.mpr (by omega))) ((fit_iff h1 h2).mpr (l2_iff.mpr (by omega))) (.inr fun z => by have := l2_iff.mp ((fit_iff h1 h2).mp z); omega) (.inr fun z => by have := l2_iff.mp ((fit_iff h1 h2).mp z); omega)
  rw [if_pos (by omega)] at e
  exact e
theorem g_few : F_fewest_steps [eT [5 * f, 9 * f], eT [f, 0], eT [2 * f, 4 * f]] = some (.val (.int 2)) := by
  have e := few_ok (caps := [5 * f, 9 * f]) (s := [f, 0]) (y := [2 * f, 4 * f]) (by simp) (g_lv h1 h2) ⟨by omega, by omega, by omega, by omega, trivial⟩
  have u2 : up [0] [4 * f] = true := by simp [up]; omega
  have u1 : up [f, 0] [2 * f, 4 * f] = true := by simp [up]; omega
  have u0 : up [] [] = false := rfl
  have x : fF [5 * f, 9 * f] [f, 0] [2 * f, 4 * f] = 2 := by
    unfold fF
    rw [if_pos u1]
    simp only [mid, u2, u0, if_true, Bool.false_eq_true, if_false, if_pos (show (0 : Int) < 4 * f by omega), dn, if_pos (show 2 * f < 5 * f by omega), if_neg (show ¬ 4 * f < 4 * f by omega)]
  rw [x] at e
  exact e
theorem g_short : F_shortest_script [eT [5 * f, 9 * f], eT [f, 0], eT [5 * f, 2 * f]] = some (.val (eS [.pour (6 * f)])) := by
  have e := short_ok (caps := [5 * f, 9 * f]) (s := [f, 0]) (y := [5 * f, 2 * f]) (by simp) (g_lv h1 h2) ⟨by omega, by omega, by omega, by omega, trivial⟩
  have u2 : up [0] [2 * f] = true := by simp [up]; omega
  have u1 : up [f, 0] [5 * f, 2 * f] = true := by simp [up]; omega
  have u0 : up [] [] = false := rfl
  have x : scr [5 * f, 9 * f] [f, 0] [5 * f, 2 * f] = [.pour (6 * f)] := by
    unfold scr
    rw [if_pos u1]
    simp only [mid, amtU, u2, u0, if_true, Bool.false_eq_true, if_false, if_pos (show (0 : Int) < 2 * f by omega), spF, if_neg (show ¬ 5 * f < 5 * f by omega), if_neg (show ¬ 2 * f < 2 * f by omega), List.append_nil]
    rw [show 5 * f - f + (2 * f - 0) = 6 * f by omega]
  rw [x] at e
  exact e
end
end Lw

namespace Lw
open PySem L2 Fi
section
variable {f : Int} (h1 : 1 ≤ f) (h2 : f ≤ 1000)
include h1 h2
theorem g_pe : F_prefix_effects [eT [5 * f, 9 * f], eS [.pour (7 * f), .spend 1 (2 * f)]] = some (.own [.tuple [.int (7 * f), .int (5 * f)], .tuple [.int (5 * f), .int (12 * f)]]) := by
  have e := prefix_ok (caps := [5 * f, 9 * f]) (s := [.pour (7 * f), .spend 1 (2 * f)]) (by simp)
  have x : effL [5 * f, 9 * f] [.pour (7 * f), .spend 1 (2 * f)] = [(7 * f, 5 * f), (5 * f, 12 * f)] := by
    simp [effL, effA, effRow, psum, effS]
    omega
  rw [x] at e
  exact e
theorem g_comm : F_commute [.tuple [.int (5 * f), .int (9 * f)], .tuple [.str "pour", .int (3 * f)], .tuple [.str "spend", .int 1, .int (2 * f)]] = some (.val (.bool false)) := by
  have a1 : atI [PyData.int (5 * f), .int (9 * f)] 1 = some (.int (9 * f)) := rfl
  have d1 : ¬ (3 * f = 0) := by omega
  have d2 : ¬ (2 * f = 0) := by omega
  have d3 : ¬ (9 * f < 2 * f) := by omega
  simp only [sSeq, sSet, sOwn, sPar, sParL,  sIf, sRet, sRetL, sRetO, sDrop, sAug, sApp, sFrz, frz, sAsg, gSet, gsNil, gsCons, gTupF, Fi.gSub, sFor, iL, iT, iR1, iR2, iZ, iEn, itemsK, eVar, eC, Fi.e2, Fi.e1, asB, eChain, tAndF, tOrF, tNotF, eAnd, eOr, eNot, eIf, aNil, aCons, eTup, lLst, eL, eCall, lCall, eCallF, lCallF, eSlT, lSl, oNone, oSome, ownIx, ownLen, lLc, wipeE, pYes, sNext, fnD, entry, fAdd_int, fSub, fMul_l, fMul_r, fDiv_ok, fMod_ok, fPow_ok, fLt, fLe, fGt, fGe, fEq_int, fEq_str, fEq_bool, fNe_int, fNe_str, fNe_bool, isN, fIs, fIsNot, fIx, fNeg, fLen, fMin, fMax, fTuple, fList, fIntB, fSum, fAll, fAny, at_0, at_1, at_2, eT, eS, eStep, eR, getInts_map, Option.bind_some, Option.map_some, List.getElem?_cons_succ, List.getElem?_cons_zero, List.set_cons_succ, List.set_cons_zero, List.length_cons, List.length_nil, List.length_map, List.map_cons, List.map_nil, List.nil_append, List.cons_append, List.replicate, Nat.zero_add, Nat.reduceAdd, Nat.reduceSub, decide_true, decide_false, reduceIte, Nat.reduceLeDiff, Nat.reduceLT, Int.reduceLT, Int.reduceLE, Int.reduceNeg, Int.reducePow, and_self, or_self, and_true, true_and, or_true, true_or, Bool.not_true, Bool.not_false, pour_spend, spend_pour, F_commute, b_commute, at_0, at_1, at_2, a1, d1, d2, d3, pour_spend, gt_iff_lt]
theorem g_rows : F__law_rows_right [.int f] = some (.val (.bool true)) := by
  have m : ∀ k : Int, 0 < k → k < 100 → fMul (.int k) (.int f) = some (.int (k * f)) := fun k a b => fMul_l (by omega) (by omega)
  have m2 := m 2 (by decide) (by decide)
  have m3 := m 3 (by decide) (by decide)
  have m4 := m 4 (by decide) (by decide)
  have m5 := m 5 (by decide) (by decide)
  have m6 := m 6 (by decide) (by decide)
  have m7 := m 7 (by decide) (by decide)
  have m8 := m 8 (by decide) (by decide)
  have m9 := m 9 (by decide) (by decide)
  have m11 := m 11 (by decide) (by decide)
  have m12 := m 12 (by decide) (by decide)
  have m13 := m 13 (by decide) (by decide)
  have m20 := m 20 (by decide) (by decide)
  have e1 := g_run h1 h2
  have e2 := g_pe h1 h2
  have e3 := g_comm h1 h2
  have e4 := g_least h1 h2
  have e5 := g_larg h1 h2
  have e6 := g_fit1 h1 h2
  have e7 := g_fit2 h1 h2
  have e8 := g_few h1 h2
  have e9 := g_short h1 h2
  simp only [eT, eS, eStep, List.map_cons, List.map_nil, show ((1 : Nat) : Int) = 1 from rfl] at e1 e2 e4 e5 e6 e7 e8 e9
  have p9 : fPow (.int 10) (.int 9) = some (.int 1000000000) := by kernel_rfl
  have q1 : fNe (.tuple [.tuple [.int (5 * f), .int (9 * f)], .int (11 * f)]) (.tuple [.tuple [.int (5 * f), .int (9 * f)], .int (11 * f)]) = some (.bool false) := fNe_self rfl
  have q2 : fNe (.list [.tuple [.int (7 * f), .int (5 * f)], .tuple [.int (5 * f), .int (12 * f)]]) (.list [.tuple [.int (7 * f), .int (5 * f)], .tuple [.int (5 * f), .int (12 * f)]]) = some (.bool false) := fNe_self rfl
  have q3 : ∀ a : Int, fNe (.int a) (.int a) = some (.bool false) := fun a => by rw [fNe_int]; simp
  have q4 : fNe (.tuple [.int (13 * f), .int 1000000000]) (.tuple [.int (13 * f), .int 1000000000]) = some (.bool false) := fNe_self rfl
  have q5 : fNe (.tuple [.int (6 * f), .int (6 * f)]) (.tuple [.int (6 * f), .int (6 * f)]) = some (.bool false) := fNe_self rfl
  have q6 : fEq (.tuple [.tuple [.str "pour", .int (6 * f)]]) (.tuple [.tuple [.str "pour", .int (6 * f)]]) = some (.bool true) := fEq_self (by kernel_rfl)
  refine fn_ret ?_
  unfold b__law_rows_right
  simp only [sSeq, sSet, sOwn, sPar, sParL,  sIf, sRet, sRetL, sRetO, sDrop, sAug, sApp, sFrz, frz, sAsg, gSet, gsNil, gsCons, gTupF, Fi.gSub, sFor, iL, iT, iR1, iR2, iZ, iEn, itemsK, eVar, eC, Fi.e2, Fi.e1, asB, eChain, tAndF, tOrF, tNotF, eAnd, eOr, eNot, eIf, aNil, aCons, eTup, lLst, eL, eCall, lCall, eCallF, lCallF, eSlT, lSl, oNone, oSome, ownIx, ownLen, lLc, wipeE, pYes, sNext, fnD, entry, fAdd_int, fSub, fMul_l, fMul_r, fDiv_ok, fMod_ok, fPow_ok, fLt, fLe, fGt, fGe, fEq_int, fEq_str, fEq_bool, fNe_int, fNe_str, fNe_bool, isN, fIs, fIsNot, fIx, fNeg, fLen, fMin, fMax, fTuple, fList, fIntB, fSum, fAll, fAny, at_0, at_1, at_2, eT, eS, eStep, eR, getInts_map, Option.bind_some, Option.map_some, List.getElem?_cons_succ, List.getElem?_cons_zero, List.set_cons_succ, List.set_cons_zero, List.length_cons, List.length_nil, List.length_map, List.map_cons, List.map_nil, List.nil_append, List.cons_append, List.replicate, Nat.zero_add, Nat.reduceAdd, Nat.reduceSub, decide_true, decide_false, reduceIte, Nat.reduceLeDiff, Nat.reduceLT, Int.reduceLT, Int.reduceLE, Int.reduceNeg, Int.reducePow, and_self, or_self, and_true, true_and, or_true, true_or, Bool.not_true, Bool.not_false, pour_spend, spend_pour, m2, m3, m4, m5, m6, m7, m8, m9, m11, m12, m13, m20, e1, e2, e3, e4, e5, e6, e7, e8, e9, p9, q1, q2, q3, q4, q5, q6]
end
theorem g_env : ∃ st, F__law_envelopes_right [] [] = some (.ok (.val (.py (.bool true))) st) := by
  have h : (match F__law_envelopes_right [] [] with | some (.ok (.val (.py (.bool true))) _) => true | _ => false) = true := by kernel_rfl
  split at h
  · rename_i st e
    exact ⟨st, e⟩
  · cases h
theorem law_true (ns : List Int) (hl : ns.length ≤ 63) : ∃ st, F_law [.py (.list (ns.map .int))] [] = some (.ok (.val (.py (.bool true))) st) := by
  obtain ⟨ds, hds, hd, e1⟩ := digits_ok ns hl 0 (by omega) 4 (by decide) 1000 (by decide)
  replace e1 : F__law_digits [.list (ns.map .int), .int 0, .int 4, .int 1000] = some (.own (ds.map .int)) := e1
  have g0 : atI (ds.map PyData.int) 0 = some (.int (ds.getD 0 0)) := at_get (k := 0) (by omega)
  have b0 : 0 ≤ ds.getD 0 0 ∧ ds.getD 0 0 < 1000 := by
    have hm : ds.getD 0 0 ∈ ds := by
      rw [List.getD_eq_getElem?_getD, List.getElem?_eq_getElem (by omega)]
      exact List.getElem_mem _
    exact hd _ hm
  have r1 := g_rows (f := 1) (by decide) (by decide)
  have r2 := g_rows (f := 1 + ds.getD 0 0) (by omega) (by omega)
  obtain ⟨st, ee⟩ := g_env
  have sr : F_same_results [.tuple [.int 2, .int 3], .tuple [.tuple [.str "pour", .int 1], .tuple [.str "pour", .int 1]], .tuple [.tuple [.str "pour", .int 2]]] = some (.val (.bool true)) := by kernel_rfl
  have ls : F_least_starts [.tuple [.int 2, .int 3], .tuple [.tuple [.str "pour", .int 1], .tuple [.str "spend", .int 1, .int 2]]] = some (.own [.tuple [.int 0, .int 2], .tuple [.int 2, .int 1]]) := by kernel_rfl
  have nl : fNe (.list [.tuple [.int 0, .int 2], .tuple [.int 2, .int 1]]) (.list [.tuple [.int 0, .int 2], .tuple [.int 2, .int 1]]) = some (.bool false) := fNe_self rfl
  refine ⟨st, ?_⟩
  generalize ns.map PyData.int = nsl at *
  generalize ds.map PyData.int = dsl at *
  generalize ds.getD 0 0 = d0 at *
  simp only [sSeq, sSet, sOwn, sPar, sParL,  sIf, sRet, sRetL, sRetO, sDrop, sAug, sApp, sFrz, frz, sAsg, gSet, gsNil, gsCons, gTupF, Fi.gSub, sFor, iL, iT, iR1, iR2, iZ, iEn, itemsK, eVar, eC, Fi.e2, Fi.e1, asB, eChain, tAndF, tOrF, tNotF, eAnd, eOr, eNot, eIf, aNil, aCons, eTup, lLst, eL, eCall, lCall, eCallF, lCallF, eSlT, lSl, oNone, oSome, ownIx, ownLen, lLc, wipeE, pYes, sNext, fnD, entry, fAdd_int, fSub, fMul_l, fMul_r, fDiv_ok, fMod_ok, fPow_ok, fLt, fLe, fGt, fGe, fEq_int, fEq_str, fEq_bool, fNe_int, fNe_str, fNe_bool, isN, fIs, fIsNot, fIx, fNeg, fLen, fMin, fMax, fTuple, fList, fIntB, fSum, fAll, fAny, at_0, at_1, at_2, eT, eS, eStep, eR, getInts_map, Option.bind_some, Option.map_some, List.getElem?_cons_succ, List.getElem?_cons_zero, List.set_cons_succ, List.set_cons_zero, List.length_cons, List.length_nil, List.length_map, List.map_cons, List.map_nil, List.nil_append, List.cons_append, List.replicate, Nat.zero_add, Nat.reduceAdd, Nat.reduceSub, decide_true, decide_false, reduceIte, Nat.reduceLeDiff, Nat.reduceLT, Int.reduceLT, Int.reduceLE, Int.reduceNeg, Int.reducePow, and_self, or_self, and_true, true_and, or_true, true_or, Bool.not_true, Bool.not_false, pour_spend, spend_pour, Ob.sSeq, Ob.sSet, Ob.sOwn, Ob.sIf, Ob.sRet, Ob.sRetL, Ob.sRetO, Ob.sRetN, Ob.sDrop, Ob.sApp, Ob.sAug, Ob.sFrz, Ob.frz, Ob.sAsg, Ob.sPar, Ob.sE, Ob.bnd, Ob.lft, Ob.gSet, Ob.gsNil, Ob.gsCons, Ob.gTup, Ob.gLst, Ob.sFor, Ob.iL, Ob.iT, Ob.eVar, Ob.e2, Ob.op2, Ob.asB, Ob.truD, Ob.eChain, Ob.tAndF, Ob.tOrF, Ob.tNotF, Ob.eAnd, Ob.eOr, Ob.eNot, Ob.eIf, Ob.aNil, Ob.aCons, Ob.eTup, Ob.mkT, Ob.lLst, Ob.eL, Ob.mkL, Ob.eCall, Ob.pyAll, Ob.pE, Ob.pL, Ob.pT, Ob.pv, Ob.pvS, Ob.eIx, Ob.ixD, Ob.D.lst?, Ob.D.tup?, Ob.lLc, Ob.lcD, Ob.wipeE, Ob.pYes, Ob.sNext, Ob.fnO, Ob.entry, Ob.goE, Ob.goL, Ob.goN, Ob.eG, Ob.lG, Ob.eP, Ob.eFld, Ob.fld, Ob.sFld, Ob.setFld, Ob.putD, Ob.sFldAug, Ob.clsOf, Ob.eMeth, Ob.eMeth0, Ob.eProp, Ob.eMake, Ob.eMakeK, Ob.made, Ob.eSup, Ob.eSup0, Ob.eSupK, Ob.Mr.list, Ob.eIsC, Ob.isC, Ob.sRaise, Ob.eLenSet, Ob.lenSet, List.lookup_cons, List.lookup_nil, Bool.false_eq_true, List.set_set, beq_self_eq_true, Option.isNone_none, Option.map_none, Option.bind_none, F_law, b_law, q_law_0, q_law_1, q_law_2, Ob.eAnd, e1, sr, ls, nl, g0, ee, r1, r2]
end Lw

namespace Lw
open PySem PySem.Spec PyProof.Rows L2 Fi
section
variable {w : World} {K : PySem.W.Frag} {mg : Str → Option Value} {base : Heap}
theorem sf_Goal (T : Tx K mg) : Ob.SupF PW K mg file (He.ga K "Goal") := ⟨by kernel_rfl, by kernel_rfl, (Ob.sup_of T.u_Goal_Goal___init__).2.2.2.2, T.sup, T.cst⟩
theorem sf_Reserve (T : Tx K mg) : Ob.SupF PW K mg file (He.ga K "Reserve") := ⟨by kernel_rfl, by kernel_rfl, (Ob.sup_of T.u_GoalReserve_Reserve___init__).2.2.2.2, T.sup, T.cst⟩
theorem k__law_cell (T : Tx K mg) : Known PW w K mg base 1 "_law_cell" 2 F__law_cell :=
  known_mk T.d__law_cell T.g__law_cell sc__law_cell rfl rfl (fun _ _ _ _ _ _ us hl => match us, hl with | [_, _], _ => rfl) fun cdv A outer s H E hr =>
    (s_cons (s_if (t_cmp od_lt (x_var 1) (x_callB cd_len rfl T.n_len PySem.boot_len (a_cons (x_var 0) a_nil)) (nomark _)) (s_one (s_ret (x_ix (x_var 0) (x_var 1) (fun _ _ => rfl)))) s_nil)
    (s_cons (s_if (t_cmp (od_eq hr.units) (x_callB cd_len rfl T.n_len PySem.boot_len (a_cons (x_var 0) a_nil)) x_int (nomark _)) (s_one (s_ret (x_bin od_add (x_bin od_mul x_int (x_var 1)) x_int))) s_nil)
    (s_one (s_ret (x_bin od_add (x_bin od_mod (x_ix (x_var 0) (x_bin od_mod (x_var 1) (x_callB cd_len rfl T.n_len PySem.boot_len (a_cons (x_var 0) a_nil))) (fun _ _ => rfl)) x_int) (x_bin od_mul x_int (x_var 1)))))))
theorem k_all_levels (T : Tx K mg) : Known PW w K mg base 1 "all_levels" 1 F_all_levels :=
  known_mk T.d_all_levels T.g_all_levels sc_all_levels rfl rfl (fun _ _ _ _ _ _ us hl => match us, hl with | [_], _ => rfl) fun cdv A outer s H E hr =>
    (s_cons (s_set 1 sc_all_levels.nd (x_L (l_lst (a_cons (x_tup a_nil) a_nil))))
    (s_cons (s_for PassesOwn.never rfl (i_tup (x_var 0)) (g_name 2 sc_all_levels.nd) (s_cons (s_setLc2 1 rfl sc_all_levels.nd (sw_true rfl rfl rfl (by decide +kernel)) (vs1 := [4]) (i_list (x_var 1)) (blkOk_by (own := [("levels", 3), ("level", 4)]) (N := N_all_levels) (sc := defScope s_all_levels) (by decide +kernel)) (fun _ _ _ _ _ => (g_name 3 sc_all_levels.nd)) (fun _ _ _ _ _ => (i_range1 rfl T.n_range (a_cons (x_bin od_add (x_var 2) x_int) a_nil))) (fun _ _ _ _ _ => (g_name 4 sc_all_levels.nd)) (fun _ _ _ _ _ => (x_bin od_add (x_var 3) (x_tup (a_cons (x_var 4) a_nil))))) (s_frz 1 s_nil)))
    (s_one (s_ret (x_var 1)))))
theorem k_poured (T : Tx K mg) : Known PW w K mg base 1 "poured" 3 F_poured :=
  known_mk T.d_poured T.g_poured sc_poured rfl rfl (fun _ _ _ _ _ _ us hl => match us, hl with | [_, _, _], _ => rfl) fun cdv A outer s H E hr =>
    (s_cons (s_own 3 sc_poured.nd (l_lst a_nil))
    (s_cons (s_for PassesOwn.never rfl (i_zip .t .t rfl T.n_zip (a_cons (x_var 0) (a_cons (x_var 1) a_nil))) (g_tup rfl (gs_cons (g_name 4 sc_poured.nd) (gs_cons (g_name 5 sc_poured.nd) (gs_nil (m := false))))) (s_cons (s_set 6 sc_poured.nd (x_callB (cd_min rfl) rfl T.n_min (by decide +kernel) (a_cons (x_var 2) (a_cons (x_bin od_sub (x_var 4) (x_var 5)) a_nil))))
    (s_cons (s_app 3 (x_bin od_add (x_var 5) (x_var 6)))
    (s_one (s_aug 2 sc_poured.nd (x_var 6) ip_sub)))))
    (s_frz 3 (s_one (s_ret (x_tup (a_cons (x_callTy cd_tuple rfl T.n_tuple (by decide +kernel) (a_cons (x_var 3) a_nil)) (a_cons (x_var 2) a_nil))))))))
theorem k_first_sums (T : Tx K mg) : Known PW w K mg base 1 "first_sums" 1 F_first_sums :=
  known_mk T.d_first_sums T.g_first_sums sc_first_sums rfl rfl (fun _ _ _ _ _ _ us hl => match us, hl with | [_], _ => rfl) fun cdv A outer s H E hr =>
    (s_cons (s_parL 2 3 rfl sc_first_sums.nd (l_lst a_nil) x_int)
    (s_cons (s_for PassesOwn.never rfl (i_tup (x_var 0)) (g_name 1 sc_first_sums.nd) (s_cons (s_aug 3 sc_first_sums.nd (x_var 1) ip_add)
    (s_one (s_app 2 (x_var 3)))))
    (s_one (s_retO 2))))
theorem k_commute (T : Tx K mg) : Known PW w K mg base 1 "commute" 3 F_commute :=
  known_mk T.d_commute T.g_commute sc_commute rfl rfl (fun _ _ _ _ _ _ us hl => match us, hl with | [_, _, _], _ => rfl) fun cdv A outer s H E hr =>
    (s_cons (s_if (t_cmp (od_eq hr.units) (x_ix (x_var 1) x_int (fun _ _ => rfl)) (x_ix (x_var 2) x_int (fun _ _ => rfl)) (nomark _)) (s_one (s_ret x_bl)) s_nil)
    (s_cons (s_asg (x_if (t_cmp (od_eq hr.units) (x_ix (x_var 1) x_int (fun _ _ => rfl)) x_str (nomark _)) (x_tup (a_cons (x_var 1) (a_cons (x_var 2) a_nil))) (x_tup (a_cons (x_var 2) (a_cons (x_var 1) a_nil)))) (g_tup rfl (gs_cons (g_name 3 sc_commute.nd) (gs_cons (g_name 4 sc_commute.nd) (gs_nil (m := false))))))
    (s_one (s_ret (x_or (x_cmp (od_eq hr.units) (x_ix (x_var 3) x_int (fun _ _ => rfl)) x_int (nomark _)) (x_or (x_cmp (od_eq hr.units) (x_ix (x_var 4) x_int (fun _ _ => rfl)) x_int (nomark _)) (x_one (x_cmp od_gt (x_ix (x_var 4) x_int (fun _ _ => rfl)) (x_ix (x_var 0) (x_ix (x_var 4) x_int (fun _ _ => rfl)) (fun _ _ => rfl)) (nomark _)))))))))
theorem k_largest_amount (T : Tx K mg) : Known PW w K mg base 1 "largest_amount" 3 F_largest_amount :=
  known_mk T.d_largest_amount T.g_largest_amount sc_largest_amount rfl rfl (fun _ _ _ _ _ _ us hl => match us, hl with | [_, _, _], _ => rfl) fun cdv A outer s H E hr =>
    (s_one (s_ret (x_if (t_cmp (od_eq hr.units) (x_ix (x_ix (x_var 1) (x_var 2) (fun _ _ => rfl)) x_int (fun _ _ => rfl)) x_str (nomark _)) x_int (x_ix (x_var 0) (x_ix (x_ix (x_var 1) (x_var 2) (fun _ _ => rfl)) x_int (fun _ _ => rfl)) (fun _ _ => rfl)))))
theorem k_with_amount (T : Tx K mg) : Known PW w K mg base 1 "with_amount" 3 F_with_amount :=
  known_mk T.d_with_amount T.g_with_amount sc_with_amount rfl rfl (fun _ _ _ _ _ _ us hl => match us, hl with | [_, _, _], _ => rfl) fun cdv A outer s H E hr =>
    (s_one (s_ret (x_bin od_add (x_bin od_add (x_slT (x_var 0) o_none (o_some (x_var 1))) (x_tup (a_cons (x_bin od_add (x_slT (x_ix (x_var 0) (x_var 1) (fun _ _ => rfl)) o_none (o_some (x_neg x_int))) (x_tup (a_cons (x_var 2) a_nil))) a_nil))) (x_slT (x_var 0) (o_some (x_bin od_add (x_var 1) x_int)) o_none))))
theorem k_shortest_script (T : Tx K mg) : Known PW w K mg base 1 "shortest_script" 3 F_shortest_script :=
  known_mk T.d_shortest_script T.g_shortest_script sc_shortest_script rfl rfl (fun _ _ _ _ _ _ us hl => match us, hl with | [_, _, _], _ => rfl) fun cdv A outer s H E hr =>
    (s_cons (s_set 3 sc_shortest_script.nd (x_L (l_listRange rfl rfl T.n_list rfl T.n_range (x_callB cd_len rfl T.n_len PySem.boot_len (a_cons (x_var 0) a_nil)))))
    (s_cons (s_setLc 4 rfl sc_shortest_script.nd (sw_true rfl rfl rfl (by decide +kernel)) (i_list (x_var 3)) (blkOk_by (own := [("place", 6)]) (N := N_shortest_script) (sc := defScope s_shortest_script) (by decide +kernel)) (fun _ _ _ _ _ => (g_name 6 sc_shortest_script.nd)) (fun _ _ _ _ _ => (q_one (t_cmp od_gt (x_ix (x_var 2) (x_var 6) (fun _ _ => rfl)) (x_ix (x_var 1) (x_var 6) (fun _ _ => rfl)) (nomark _)))) (fun _ _ _ _ _ => (x_var 6))) (s_frz 4 (s_cons (s_own 5 sc_shortest_script.nd (l_lst a_nil))
    (s_cons (s_if (t_cmp (od_ne hr.units) (x_var 4) (x_L (l_lst a_nil)) (nomark _)) (s_cons (s_set 7 sc_shortest_script.nd (x_ix (x_var 4) (x_neg x_int) (fun _ _ => rfl)))
    (s_cons (s_set 8 sc_shortest_script.nd (x_bin od_sub (x_bin od_add (x_callB (cd_sum rfl) rfl T.n_sum (by decide +kernel) (a_cons (x_L (l_lc rfl sc_shortest_script.nd (i_list (x_L (l_sl (x_var 3) o_none (o_some (x_var 7))))) (blkOk_by (own := [("place", 6)]) (N := N_shortest_script) (sc := defScope s_shortest_script) (by decide +kernel)) (fun _ _ _ _ _ => (g_name 6 sc_shortest_script.nd)) (fun _ _ _ _ _ => q_nil) (fun _ _ _ _ _ => (x_bin od_sub (x_ix (x_var 0) (x_var 6) (fun _ _ => rfl)) (x_ix (x_var 1) (x_var 6) (fun _ _ => rfl)))))) a_nil)) (x_ix (x_var 2) (x_var 7) (fun _ _ => rfl))) (x_ix (x_var 1) (x_var 7) (fun _ _ => rfl))))
    (s_cons (s_app 5 (x_tup (a_cons x_str (a_cons (x_var 8) a_nil))))
    (s_one (s_set 1 sc_shortest_script.nd (x_bin od_add (x_bin od_add (x_slT (x_var 0) o_none (o_some (x_var 7))) (x_tup (a_cons (x_ix (x_var 2) (x_var 7) (fun _ _ => rfl)) a_nil))) (x_slT (x_var 1) (o_some (x_bin od_add (x_var 7) x_int)) o_none))))))) s_nil)
    (s_cons (s_for PassesOwn.never rfl (i_list (x_var 3)) (g_name 6 sc_shortest_script.nd) (s_one (s_if (t_cmp od_lt (x_ix (x_var 2) (x_var 6) (fun _ _ => rfl)) (x_ix (x_var 1) (x_var 6) (fun _ _ => rfl)) (nomark _)) (s_one (s_app 5 (x_tup (a_cons x_str (a_cons (x_var 6) (a_cons (x_bin od_sub (x_ix (x_var 1) (x_var 6) (fun _ _ => rfl)) (x_ix (x_var 2) (x_var 6) (fun _ _ => rfl))) a_nil)))))) s_nil)))
    (s_frz 5 (s_one (s_ret (x_callTy cd_tuple rfl T.n_tuple (by decide +kernel) (a_cons (x_var 5) a_nil)))))))))))
theorem k_is_number_text (T : Tx K mg) : Known PW w K mg base 1 "is_number_text" 1 F_is_number_text :=
  known_mk T.d_is_number_text T.g_is_number_text sc_is_number_text rfl rfl (fun _ _ _ _ _ _ us hl => match us, hl with | [_], _ => rfl) fun cdv A outer s H E hr =>
    (s_cons (s_if (PW.pt (w_or (t_cmp (od_eq hr.units) (x_var 0) x_str (nomark _)) (w_or (t_cmp od_gt (x_callB cd_lenS rfl T.n_len PySem.boot_len (a_cons (x_var 0) a_nil)) x_int (nomark _)) (pw_or1 (t_not (t_val (x_callB (cd_all rfl) rfl T.n_all (by decide +kernel) (a_cons (x_L (l_lc rfl sc_is_number_text.nd (i_str (x_var 0)) (blkOk_by (own := [("sign", 1)]) (N := N_is_number_text) (sc := defScope s_is_number_text) (by decide +kernel)) (fun _ _ _ _ _ => (g_name 1 sc_is_number_text.nd)) (fun _ _ _ _ _ => q_nil) (fun _ _ _ _ _ => (x_cmp od_inS (x_var 1) (x_glS T.c_FIGURES) rfl)))) a_nil)))))))) (s_one (s_ret x_bl)) s_nil)
    (s_one (s_ret (x_or (x_cmp (od_eq hr.units) (x_var 0) x_str (nomark _)) (x_one (x_cmp (od_ne hr.units) (x_ixS (x_var 0) x_int (fun _ _ => rfl)) x_str (nomark _)))))))
theorem k_Envelope_is_name (T : Tx K mg) : Ob.Stat PW w K mg base 1 "Envelope" "is_name" 1 F_Envelope_is_name := by
  obtain ⟨fd, F⟩ := T.d_Envelope_is_name
  exact Ob.stat_of T.t_Envelope_is_name T.g_Envelope (Ob.pure_ok F sc_Envelope_is_name rfl rfl fun cdv A outer s H E hr =>
    (s_one (s_ret (x_and (x_isI (T := "str") (by decide +kernel) rfl T.n_isinstance rfl T.n_str (x_var 0)) (x_and (x_chain od_le od_le x_int (x_callB cd_lenS rfl T.n_len PySem.boot_len (a_cons (x_var 0) a_nil)) x_int) (x_one (x_callB (cd_all rfl) rfl T.n_all (by decide +kernel) (a_cons (x_L (l_lc rfl sc_Envelope_is_name.nd (i_str (x_var 0)) (blkOk_by (own := [("sign", 1)]) (N := N_Envelope_is_name) (sc := defScope s_Envelope_is_name) (by decide +kernel)) (fun _ _ _ _ _ => (g_name 1 sc_Envelope_is_name.nd)) (fun _ _ _ _ _ => q_nil) (fun _ _ _ _ _ => (x_cmp od_inS (x_var 1) (x_glS T.c_LETTERS) rfl)))) a_nil)))))))) F.kp (F.bindsN (fun _ _ _ _ _ _ us hl => match us, hl with | [_], _ => rfl))
theorem k_is_integer (T : Tx K mg) : Known PW w K mg base 1 "is_integer" 3 F_is_integer :=
  known_mk T.d_is_integer T.g_is_integer sc_is_integer rfl rfl (fun _ _ _ _ _ _ us hl => match us, hl with | [_, _, _], _ => rfl) fun cdv A outer s H E hr =>
    (s_one (s_ret (x_and (x_isI (T := "int") (by decide +kernel) rfl T.n_isinstance rfl T.n_int (x_var 0)) (x_and (x_not (x_isI (T := "bool") (by decide +kernel) rfl T.n_isinstance rfl T.n_bool (x_var 0))) (x_one (x_chain od_le od_le (x_var 1) (x_var 0) (x_var 2)))))))
theorem fn_Envelope_text (T : Tx K mg) {fd : FuncData} (F : FunD K "text" "Envelope.text" (defArgs s_Envelope_text) (defBody s_Envelope_text) (defScope s_Envelope_text) [] [] (Ob.Lo.ad K (.m "Envelope" "text")) fd) : FnOk PW w K mg base (L2N.CX PW w) 1 (Ob.Lo.ad K (.m "Envelope" "text")) fd ["self"] (Ob.spO K 1 F_Envelope_text) :=
  Ob.def_ok F sc_Envelope_text rfl rfl fun cdv A outer s H E hr tk =>
    (Ob.s_one (Ob.s_ret (Ob.x_bin od_add (Ob.x_bin od_add (Ob.x_bin od_add (Ob.x_bin od_add (Ob.x_fld ["Envelope", "Goal", "Reserve", "GoalReserve"] T.a_Env_label (Ob.x_var 0)) (Ob.x_p x_str)) (Ob.x_callTy cd_strI rfl T.n_str (by decide +kernel) (Ob.a_cons (Ob.x_fld ["Envelope", "Goal", "Reserve", "GoalReserve"] T.a_Env_held (Ob.x_var 0)) Ob.a_nil))) (Ob.x_p x_str)) (Ob.x_callTy cd_strI rfl T.n_str (by decide +kernel) (Ob.a_cons (Ob.x_fld ["Envelope", "Goal", "Reserve", "GoalReserve"] T.a_Env_limit (Ob.x_var 0)) Ob.a_nil)))))
theorem k_Envelope_text (T : Tx K mg) : Ob.Cal PW w K mg base 1 (Ob.Lo.ad K (.m "Envelope" "text")) (Ob.spO K 1 F_Envelope_text) := by
  obtain ⟨fd, F⟩ := T.d_Envelope_text
  exact Ob.cal_of (fn_Envelope_text T F) (FunD.bindsN (ps := ["self"]) F (fun _ _ _ _ _ _ us hl => match us, hl with | [_], _ => rfl))
theorem fn_Goal_reached (T : Tx K mg) {fd : FuncData} (F : FunD K "reached" "Goal.reached" (defArgs s_Goal_reached) (defBody s_Goal_reached) (defScope s_Goal_reached) [] [] (Ob.Lo.ad K (.p "Goal" "reached")) fd) : FnOk PW w K mg base (L2N.CX PW w) 1 (Ob.Lo.ad K (.p "Goal" "reached")) fd ["self"] (Ob.spO K 1 F_Goal_reached) :=
  Ob.def_ok F sc_Goal_reached rfl rfl fun cdv A outer s H E hr tk =>
    (Ob.s_one (Ob.s_ret (Ob.x_fld ["Envelope", "Goal", "Reserve", "GoalReserve"] T.a_Env_done (Ob.x_var 0))))
theorem k_Goal_reached (T : Tx K mg) : Ob.Cal PW w K mg base 1 (Ob.Lo.ad K (.p "Goal" "reached")) (Ob.spO K 1 F_Goal_reached) := by
  obtain ⟨fd, F⟩ := T.d_Goal_reached
  exact Ob.cal_of (fn_Goal_reached T F) (FunD.bindsN (ps := ["self"]) F (fun _ _ _ _ _ _ us hl => match us, hl with | [_], _ => rfl))
theorem fn_Envelope_free (T : Tx K mg) {fd : FuncData} (F : FunD K "free" "Envelope.free" (defArgs s_Envelope_free) (defBody s_Envelope_free) (defScope s_Envelope_free) [] [] (Ob.Lo.ad K (.m "Envelope" "free")) fd) : FnOk PW w K mg base (L2N.CX PW w) 1 (Ob.Lo.ad K (.m "Envelope" "free")) fd ["self"] (Ob.spO K 1 F_Envelope_free) :=
  Ob.def_ok F sc_Envelope_free rfl rfl fun cdv A outer s H E hr tk =>
    (Ob.s_one (Ob.s_ret (Ob.x_fld ["Envelope", "Goal", "Reserve", "GoalReserve"] T.a_Env_held (Ob.x_var 0))))
theorem k_Envelope_free (T : Tx K mg) : Ob.Cal PW w K mg base 1 (Ob.Lo.ad K (.m "Envelope" "free")) (Ob.spO K 1 F_Envelope_free) := by
  obtain ⟨fd, F⟩ := T.d_Envelope_free
  exact Ob.cal_of (fn_Envelope_free T F) (FunD.bindsN (ps := ["self"]) F (fun _ _ _ _ _ _ us hl => match us, hl with | [_], _ => rfl))
theorem fn_Envelope_name (T : Tx K mg) {fd : FuncData} (F : FunD K "name" "Envelope.name" (defArgs s_Envelope_name) (defBody s_Envelope_name) (defScope s_Envelope_name) [] [] (Ob.Lo.ad K (.p "Envelope" "name")) fd) : FnOk PW w K mg base (L2N.CX PW w) 1 (Ob.Lo.ad K (.p "Envelope" "name")) fd ["self"] (Ob.spO K 1 F_Envelope_name) :=
  Ob.def_ok F sc_Envelope_name rfl rfl fun cdv A outer s H E hr tk =>
    (Ob.s_one (Ob.s_ret (Ob.x_fld ["Envelope", "Goal", "Reserve", "GoalReserve"] T.a_Env_label (Ob.x_var 0))))
theorem k_Envelope_name (T : Tx K mg) : Ob.Cal PW w K mg base 1 (Ob.Lo.ad K (.p "Envelope" "name")) (Ob.spO K 1 F_Envelope_name) := by
  obtain ⟨fd, F⟩ := T.d_Envelope_name
  exact Ob.cal_of (fn_Envelope_name T F) (FunD.bindsN (ps := ["self"]) F (fun _ _ _ _ _ _ us hl => match us, hl with | [_], _ => rfl))
theorem fn_Plan_lost (T : Tx K mg) {fd : FuncData} (F : FunD K "lost" "Plan.lost" (defArgs s_Plan_lost) (defBody s_Plan_lost) (defScope s_Plan_lost) [] [] (Ob.Lo.ad K (.p "Plan" "lost")) fd) : FnOk PW w K mg base (L2N.CX PW w) 1 (Ob.Lo.ad K (.p "Plan" "lost")) fd ["self"] (Ob.spO K 1 F_Plan_lost) :=
  Ob.def_ok F sc_Plan_lost rfl rfl fun cdv A outer s H E hr tk =>
    (Ob.s_one (Ob.s_ret (Ob.x_fld ["Plan"] T.a_Plan_gone (Ob.x_var 0))))
theorem k_Plan_lost (T : Tx K mg) : Ob.Cal PW w K mg base 1 (Ob.Lo.ad K (.p "Plan" "lost")) (Ob.spO K 1 F_Plan_lost) := by
  obtain ⟨fd, F⟩ := T.d_Plan_lost
  exact Ob.cal_of (fn_Plan_lost T F) (FunD.bindsN (ps := ["self"]) F (fun _ _ _ _ _ _ us hl => match us, hl with | [_], _ => rfl))
theorem fn_Envelope_level (T : Tx K mg) {fd : FuncData} (F : FunD K "level" "Envelope.level" (defArgs s_Envelope_level) (defBody s_Envelope_level) (defScope s_Envelope_level) [] [] (Ob.Lo.ad K (.p "Envelope" "level")) fd) : FnOk PW w K mg base (L2N.CX PW w) 1 (Ob.Lo.ad K (.p "Envelope" "level")) fd ["self"] (Ob.spO K 1 F_Envelope_level) :=
  Ob.def_ok F sc_Envelope_level rfl rfl fun cdv A outer s H E hr tk =>
    (Ob.s_one (Ob.s_ret (Ob.x_fld ["Envelope", "Goal", "Reserve", "GoalReserve"] T.a_Env_held (Ob.x_var 0))))
theorem kH_Envelope_level (T : Tx K mg) : Ob.CalH PW w K mg base 1 (Ob.Lo.ad K (.p "Envelope" "level")) (Ob.spO K 1 F_Envelope_level) := by
  obtain ⟨fd, F⟩ := T.d_Envelope_level
  exact Ob.calH_of (Ob.def_okH F sc_Envelope_level rfl rfl fun cdv A outer s H E p hot hr tk =>
    (Ob.s_one (Ob.s_ret (Ob.x_fld ["Envelope", "Goal", "Reserve", "GoalReserve"] T.a_Env_held (Ob.x_var 0))))) (FunD.bindsN (ps := ["self"]) F (fun _ _ _ _ _ _ us hl => match us, hl with | [_], _ => rfl))
theorem k_Envelope_level (T : Tx K mg) : Ob.Cal PW w K mg base 1 (Ob.Lo.ad K (.p "Envelope" "level")) (Ob.spO K 1 F_Envelope_level) := by
  obtain ⟨fd, F⟩ := T.d_Envelope_level
  exact Ob.cal_of (fn_Envelope_level T F) (FunD.bindsN (ps := ["self"]) F (fun _ _ _ _ _ _ us hl => match us, hl with | [_], _ => rfl))
theorem k__law_digits (T : Tx K mg) : Known PW w K mg base 2 "_law_digits" 4 F__law_digits :=
  known_mk T.d__law_digits T.g__law_digits sc__law_digits rfl rfl (fun _ _ _ _ _ _ us hl => match us, hl with | [_, _, _, _], _ => rfl) fun cdv A outer s H E hr =>
    (s_cons (s_set 4 sc__law_digits.nd (x_tup (a_cons x_int (a_cons x_int (a_cons x_int (a_cons x_int (a_cons x_int (a_cons x_int (a_cons x_int (a_cons x_int a_nil))))))))))
    (s_cons (s_set 5 sc__law_digits.nd (x_fn (k__law_cell T) hr (a_cons (x_var 0) (a_cons (x_var 1) a_nil)) (ln_cons (ln_cons ln_nil))))
    (s_cons (s_set 6 sc__law_digits.nd (x_if (t_cmp od_ge (x_var 5) (x_bin od_pow x_int x_int) (nomark _)) (x_var 5) x_int))
    (s_cons (s_own 7 sc__law_digits.nd (l_lst a_nil))
    (s_cons (s_for PassesOwn.never rfl (i_range1 rfl T.n_range (a_cons (x_var 2) a_nil)) (g_name 8 sc__law_digits.nd) (s_cons (s_set 9 sc__law_digits.nd (x_bin od_mul (x_bin od_mod (x_var 5) (x_ix (x_var 4) (x_bin od_mod (x_var 8) x_int) (fun _ _ => rfl))) (x_bin od_add x_int (x_bin od_mul (x_bin od_mul x_int (x_var 8)) (x_var 8)))))
    (s_cons (s_set 9 sc__law_digits.nd (x_bin od_add (x_bin od_add (x_var 9) (x_bin od_mul (x_bin od_mul x_int (x_bin od_add (x_var 8) x_int)) (x_bin od_add (x_var 8) x_int))) (x_bin od_mul x_int (x_var 1))))
    (s_cons (s_set 9 sc__law_digits.nd (x_bin od_mod (x_var 9) (x_ix (x_var 4) (x_bin od_mod (x_bin od_add (x_bin od_mul x_int (x_var 8)) (x_var 1)) x_int) (fun _ _ => rfl))))
    (s_cons (s_set 9 sc__law_digits.nd (x_bin od_mod (x_bin od_mul (x_bin od_mul (x_var 9) (x_var 9)) (x_var 9)) (x_ix (x_var 4) (x_bin od_mod (x_bin od_add (x_var 8) x_int) x_int) (fun _ _ => rfl))))
    (s_cons (s_if (t_cmp od_gt (x_var 6) x_int (nomark _)) (s_one (s_set 9 sc__law_digits.nd (x_var 6))) s_nil)
    (s_cons (s_app 7 (x_bin od_mod (x_var 9) (x_var 3)))
    (s_one (s_set 6 sc__law_digits.nd (x_bin od_div (x_var 6) (x_var 3)))))))))))
    (s_one (s_retO 7)))))))
theorem k_run (T : Tx K mg) : Known PW w K mg base 2 "run" 3 F_run :=
  known_mk T.d_run T.g_run sc_run rfl rfl (fun _ _ _ _ _ _ us hl => match us, hl with | [_, _, _], _ => rfl) fun cdv A outer s H E hr =>
    (s_cons (s_set 3 sc_run.nd x_int)
    (s_cons (s_for PassesOwn.never rfl (i_tup (x_var 2)) (g_name 4 sc_run.nd) (s_one (s_if (t_cmp (od_eq hr.units) (x_ix (x_var 4) x_int (fun _ _ => rfl)) x_str (nomark _)) (s_cons (s_asg (x_fn (k_poured T) hr (a_cons (x_var 0) (a_cons (x_var 1) (a_cons (x_ix (x_var 4) x_int (fun _ _ => rfl)) a_nil))) (ln_cons (ln_cons (ln_cons ln_nil)))) (g_tup rfl (gs_cons (g_name 1 sc_run.nd) (gs_cons (g_name 5 sc_run.nd) (gs_nil (m := false))))))
    (s_one (s_aug 3 sc_run.nd (x_var 5) ip_add))) (s_cons (s_par 6 7 rfl sc_run.nd (a_cons (x_ix (x_var 4) x_int (fun _ _ => rfl)) (a_cons (x_ix (x_var 4) x_int (fun _ _ => rfl)) a_nil)))
    (s_cons (s_if (t_cmp od_lt (x_ix (x_var 1) (x_var 6) (fun _ _ => rfl)) (x_var 7) (nomark _)) (s_one (s_ret x_non)) s_nil)
    (s_one (s_set 1 sc_run.nd (x_bin od_add (x_bin od_add (x_slT (x_var 1) o_none (o_some (x_var 6))) (x_tup (a_cons (x_bin od_sub (x_ix (x_var 1) (x_var 6) (fun _ _ => rfl)) (x_var 7)) a_nil))) (x_slT (x_var 1) (o_some (x_bin od_add (x_var 6) x_int)) o_none)))))))))
    (s_one (s_ret (x_tup (a_cons (x_var 1) (a_cons (x_var 3) a_nil)))))))
theorem k_prefix_effects (T : Tx K mg) : Known PW w K mg base 2 "prefix_effects" 2 F_prefix_effects :=
  known_mk T.d_prefix_effects T.g_prefix_effects sc_prefix_effects rfl rfl (fun _ _ _ _ _ _ us hl => match us, hl with | [_, _], _ => rfl) fun cdv A outer s H E hr =>
    (s_cons (s_setLc 2 rfl sc_prefix_effects.nd (sw_true rfl rfl rfl (by decide +kernel)) (i_list (x_L (l_fn (k_first_sums T) hr (a_cons (x_var 0) a_nil) (ln_cons ln_nil)))) (blkOk_by (own := [("total", 4)]) (N := N_prefix_effects) (sc := defScope s_prefix_effects) (by decide +kernel)) (fun _ _ _ _ _ => (g_name 4 sc_prefix_effects.nd)) (fun _ _ _ _ _ => q_nil) (fun _ _ _ _ _ => (x_tup (a_cons x_int (a_cons (x_var 4) a_nil)))))
    (s_cons (s_for PassesOwn.never rfl (i_tup (x_var 1)) (g_name 3 sc_prefix_effects.nd) (s_one (s_for PassesOwn.never rfl (i_enum .l rfl T.n_enumerate (a_cons (x_L (l_fn (k_first_sums T) hr (a_cons (x_var 0) a_nil) (ln_cons ln_nil))) a_nil)) (g_tup rfl (gs_cons (g_name 5 sc_prefix_effects.nd) (gs_cons (g_name 6 sc_prefix_effects.nd) (gs_nil (m := false))))) (s_cons (s_asg (x_ownIx 2 (x_var 5) (fun _ _ => rfl)) (g_tup rfl (gs_cons (g_name 7 sc_prefix_effects.nd) (gs_cons (g_name 8 sc_prefix_effects.nd) (gs_nil (m := false))))))
    (s_one (s_if (t_cmp (od_eq hr.units) (x_ix (x_var 3) x_int (fun _ _ => rfl)) x_str (nomark _)) (s_one (s_asg (x_tup (a_cons (x_bin od_add (x_var 7) (x_ix (x_var 3) x_int (fun _ _ => rfl))) (a_cons (x_callB (cd_min rfl) rfl T.n_min (by decide +kernel) (a_cons (x_var 6) (a_cons (x_bin od_add (x_var 8) (x_ix (x_var 3) x_int (fun _ _ => rfl))) a_nil))) a_nil))) (g_sub 2 (he := (x_var 5))))) (s_one (s_if (t_cmp od_le (x_ix (x_var 3) x_int (fun _ _ => rfl)) (x_var 5) (nomark _)) (s_one (s_asg (x_tup (a_cons (x_bin od_sub (x_var 7) (x_ix (x_var 3) x_int (fun _ _ => rfl))) (a_cons (x_bin od_sub (x_var 8) (x_ix (x_var 3) x_int (fun _ _ => rfl))) a_nil))) (g_sub 2 (he := (x_var 5))))) s_nil))))))))
    (s_one (s_retO 2))))
theorem k_fewest_steps (T : Tx K mg) : Known PW w K mg base 2 "fewest_steps" 3 F_fewest_steps :=
  known_mk T.d_fewest_steps T.g_fewest_steps sc_fewest_steps rfl rfl (fun _ _ _ _ _ _ us hl => match us, hl with | [_, _, _], _ => rfl) fun cdv A outer s H E hr =>
    (s_one (s_ret (x_callB cd_len rfl T.n_len PySem.boot_len (a_cons (x_fn (k_shortest_script T) hr (a_cons (x_var 0) (a_cons (x_var 1) (a_cons (x_var 2) a_nil))) (ln_cons (ln_cons (ln_cons ln_nil)))) a_nil))))
theorem fn_Envelope___init__ (T : Tx K mg) {fd : FuncData} (F : FunD K "__init__" "Envelope.__init__" (defArgs s_Envelope___init__) (defBody s_Envelope___init__) (defScope s_Envelope___init__) [.int 0] [] (Ob.Lo.ad K (.m "Envelope" "__init__")) fd) : FnOk PW w K mg base (L2N.CX PW w) 2 (Ob.Lo.ad K (.m "Envelope" "__init__")) fd ["self", "name", "cap", "level"] (Ob.spO K 4 F_Envelope___init__) :=
  Ob.def_ok F sc_Envelope___init__ rfl rfl fun cdv A outer s H E hr tk =>
    (Ob.s_cons (Ob.s_if (Ob.t_p (t_not (t_val (Ob.x_stat (k_Envelope_is_name T) hr (a_cons (x_var 1) a_nil) (ln_cons ln_nil))))) (Ob.s_one (Ob.s_raise T.e_InvalidName rfl tk)) Ob.s_nil)
    (Ob.s_cons (Ob.s_if (Ob.t_p (t_not (t_val (x_fn (k_is_integer T) hr (a_cons (x_var 2) (a_cons x_int (a_cons (Ob.x_cval T.v_Envelope_LARGEST) a_nil))) (ln_cons (ln_cons (ln_cons ln_nil))))))) (Ob.s_one (Ob.s_raise T.e_InvalidCap rfl tk)) Ob.s_nil)
    (Ob.s_cons (Ob.s_if (Ob.t_p (t_not (t_val (x_fn (k_is_integer T) hr (a_cons (x_var 3) (a_cons x_int (a_cons (x_var 2) a_nil))) (ln_cons (ln_cons (ln_cons ln_nil))))))) (Ob.s_one (Ob.s_raise T.e_InvalidLevel rfl tk)) Ob.s_nil)
    (Ob.s_cons (Ob.s_fld ["Envelope", "Goal", "Reserve", "GoalReserve"] T.a_Env_label (Ob.x_p (x_var 1)) (Ob.x_var 0))
    (Ob.s_cons (Ob.s_fld ["Envelope", "Goal", "Reserve", "GoalReserve"] T.a_Env_limit (Ob.x_p (x_var 2)) (Ob.x_var 0))
    (Ob.s_one (Ob.s_fld ["Envelope", "Goal", "Reserve", "GoalReserve"] T.a_Env_held (Ob.x_p (x_var 3)) (Ob.x_var 0))))))))
theorem k_Envelope___init__ (T : Tx K mg) : Ob.Cal PW w K mg base 2 (Ob.Lo.ad K (.m "Envelope" "__init__")) (Ob.spO K 4 F_Envelope___init__) := by
  obtain ⟨fd, F⟩ := T.d_Envelope___init__
  exact Ob.cal_of (fn_Envelope___init__ T F) (Ob.FunD.bindsP (ps := ["self", "name", "cap", "level"]) F (by decide) (fun _ _ _ _ _ _ _ us its hl hi => match us, hl, its, hi with | [_, _, _, _], _, [_], _ => ⟨_, rfl, rfl⟩))
theorem fn_check_amount (T : Tx K mg) {fd : FuncData} (F : FunD K "check_amount" "check_amount" (defArgs s_check_amount) (defBody s_check_amount) (defScope s_check_amount) [] [] (Ob.Lo.ad K (.g "check_amount")) fd) : FnOk PW w K mg base (L2N.CX PW w) 2 (Ob.Lo.ad K (.g "check_amount")) fd ["amount"] (Ob.spO K 1 F_check_amount) :=
  Ob.def_ok F sc_check_amount rfl rfl fun cdv A outer s H E hr tk =>
    (Ob.s_one (Ob.s_if (Ob.t_p (t_not (t_val (x_fn (k_is_integer T) hr (a_cons (x_var 0) (a_cons x_int (a_cons x_int a_nil))) (ln_cons (ln_cons (ln_cons ln_nil))))))) (Ob.s_one (Ob.s_raise T.e_InvalidAmount rfl tk)) Ob.s_nil))
theorem k_check_amount_c (T : Tx K mg) : Ob.Cal PW w K mg base 2 (Ob.Lo.ad K (.g "check_amount")) (Ob.spO K 1 F_check_amount) := by
  obtain ⟨fd, F⟩ := T.d_check_amount
  exact Ob.cal_of (fn_check_amount T F) (FunD.bindsN (ps := ["amount"]) F (fun _ _ _ _ _ _ us hl => match us, hl with | [_], _ => rfl))
theorem k_check_amount (T : Tx K mg) : Ob.Kn PW w K mg base 2 "check_amount" 1 F_check_amount := by
  obtain ⟨fd, F⟩ := T.d_check_amount
  exact ⟨_, k_check_amount_c T, T.g_check_amount, F.kp⟩
theorem fn_Reserve_free (T : Tx K mg) {fd : FuncData} (F : Ob.FunS K file "free" "Reserve.free" (defArgs s_Reserve_free) (defBody s_Reserve_free) (defScope s_Reserve_free) [] [] (He.ga K "Reserve") (Ob.Lo.ad K (.m "Reserve" "free")) fd) : FnOk PW w K mg base (L2N.CX PW w) 2 (Ob.Lo.ad K (.m "Reserve" "free")) fd ["self"] (Ob.spO K 1 F_Reserve_free) :=
  Ob.clo_ok F (sf_Reserve T) S_Reserve_free rfl rfl rfl rfl rfl rfl rfl fun cdv cc A outer s H E hr tk S =>
    (Ob.ssa_one (Ob.sA_ret (Ob.xa_callB (cd_max rfl) rfl T.n_max (by decide +kernel) (Ob.aa_consO (Ob.ea_of (Ob.x_p x_int)) (Ob.aa_consO (Ob.xa_bin od_sub (Ob.xa_sup0 (j := 1) S (Ob.supms_cons (Ob.supm_of (Dn := "Reserve") T.u_Reserve_Reserve_free T.w_Reserve_Reserve_free (k_Envelope_free T)) (Ob.supms_cons (Ob.supm_of (Dn := "Reserve") T.u_GoalReserve_Reserve_free T.w_GoalReserve_Reserve_free (k_Envelope_free T)) Ob.supms_nil)) hr tk) (Ob.ea_of (Ob.x_fld ["Envelope", "Goal", "Reserve", "GoalReserve"] T.a_Env_ground (Ob.x_var 0)))) (Ob.aa_of Ob.a_nil))))))
theorem k_Reserve_free (T : Tx K mg) : Ob.Cal PW w K mg base 2 (Ob.Lo.ad K (.m "Reserve" "free")) (Ob.spO K 1 F_Reserve_free) := by
  obtain ⟨fd, F⟩ := T.d_Reserve_free
  exact Ob.cal_of (fn_Reserve_free T F) (F.bindsN (fun _ _ _ _ _ _ us hl => match us, hl with | [_], _ => rfl))
theorem k_same_results (T : Tx K mg) : Known PW w K mg base 3 "same_results" 3 F_same_results :=
  known_mk T.d_same_results T.g_same_results sc_same_results rfl rfl (fun _ _ _ _ _ _ us hl => match us, hl with | [_, _, _], _ => rfl) fun cdv A outer s H E hr =>
    (s_cons (s_for PassesOwn.never rfl (i_list (x_fn (k_all_levels T) hr (a_cons (x_var 0) a_nil) (ln_cons ln_nil))) (g_name 3 sc_same_results.nd) (s_cons (s_par 4 5 rfl sc_same_results.nd (a_cons (x_fn (k_run T) hr (a_cons (x_var 0) (a_cons (x_var 3) (a_cons (x_var 1) a_nil))) (ln_cons (ln_cons (ln_cons ln_nil)))) (a_cons (x_fn (k_run T) hr (a_cons (x_var 0) (a_cons (x_var 3) (a_cons (x_var 2) a_nil))) (ln_cons (ln_cons (ln_cons ln_nil)))) a_nil)))
    (s_one (s_if (PW.pt (w_and (t_cmp od_isNot (x_var 4) x_non (nomark _)) (w_and (t_cmp od_isNot (x_var 5) x_non (nomark _)) (pw_and1 (t_cmp (od_ne hr.units) (x_ix (x_var 4) x_int (fun _ _ => rfl)) (x_ix (x_var 5) x_int (fun _ _ => rfl)) (nomark _)))))) (s_one (s_ret x_bl)) s_nil))))
    (s_one (s_ret x_bl)))
theorem k_least_starts (T : Tx K mg) : Known PW w K mg base 3 "least_starts" 2 F_least_starts :=
  known_mk T.d_least_starts T.g_least_starts sc_least_starts rfl rfl (fun _ _ _ _ _ _ us hl => match us, hl with | [_, _], _ => rfl) fun cdv A outer s H E hr =>
    (s_cons (s_setLc 2 rfl sc_least_starts.nd (sw_true rfl rfl rfl (by decide +kernel)) (i_list (x_fn (k_all_levels T) hr (a_cons (x_var 0) a_nil) (ln_cons ln_nil))) (blkOk_by (own := [("levels", 5)]) (N := N_least_starts) (sc := defScope s_least_starts) (by decide +kernel)) (fun _ _ _ _ _ => (g_name 5 sc_least_starts.nd)) (fun _ _ _ _ _ => (q_one (t_cmp od_isNot (x_fn (k_run T) hr (a_cons (x_var 0) (a_cons (x_var 5) (a_cons (x_var 1) a_nil))) (ln_cons (ln_cons (ln_cons ln_nil)))) x_non (nomark _)))) (fun _ _ _ _ _ => (x_var 5))) (s_frz 2 (s_cons (s_dct 3 sc_least_starts.nd (x_dc (u0 hr) rfl sc_least_starts.nd (i_list (x_var 2)) (blkOk_by (own := [("levels", 5)]) (N := N_least_starts) (sc := defScope s_least_starts) (by decide +kernel)) (fun _ _ _ _ _ => (g_name 5 sc_least_starts.nd)) (fun _ _ _ _ _ => (x_var 5)) (fun _ _ _ _ _ => x_bl)))
    (s_cons (s_own 4 sc_least_starts.nd (l_lst a_nil))
    (s_cons (s_for PassesOwn.never rfl (i_list (x_var 2)) (g_name 5 sc_least_starts.nd) (s_cons (s_setLc 6 rfl sc_least_starts.nd (sw_true rfl rfl rfl (by decide +kernel)) (i_range1 rfl T.n_range (a_cons (x_callB cd_len rfl T.n_len PySem.boot_len (a_cons (x_var 5) a_nil)) a_nil)) (blkOk_by (own := [("k", 7)]) (N := N_least_starts) (sc := defScope s_least_starts) (by decide +kernel)) (fun _ _ _ _ _ => (g_name 7 sc_least_starts.nd)) (fun _ _ _ _ _ => (q_one (t_cmp od_gt (x_ix (x_var 5) (x_var 7) (fun _ _ => rfl)) x_int (nomark _)))) (fun _ _ _ _ _ => (x_bin od_add (x_bin od_add (x_slT (x_var 5) o_none (o_some (x_var 7))) (x_tup (a_cons (x_bin od_sub (x_ix (x_var 5) (x_var 7) (fun _ _ => rfl)) x_int) a_nil))) (x_slT (x_var 5) (o_some (x_bin od_add (x_var 7) x_int)) o_none)))) (s_frz 6 (s_one (s_if (t_not (t_val (x_callB (cd_any rfl) rfl T.n_any (by decide +kernel) (a_cons (x_L (l_lc rfl sc_least_starts.nd (i_list (x_var 6)) (blkOk_by (own := [("one", 8)]) (N := N_least_starts) (sc := defScope s_least_starts) (by decide +kernel)) (fun _ _ _ _ _ => (g_name 8 sc_least_starts.nd)) (fun _ _ _ _ _ => q_nil) (fun _ _ _ _ _ => (x_dctIn 3 (u1 hr) (x_var 8) rfl)))) a_nil)))) (s_one (s_app 4 (x_var 5))) s_nil)))))
    (s_one (s_retO 4)))))))
theorem k_least_pour (T : Tx K mg) : Known PW w K mg base 3 "least_pour" 3 F_least_pour :=
  known_mk T.d_least_pour T.g_least_pour sc_least_pour rfl rfl (fun _ _ _ _ _ _ us hl => match us, hl with | [_, _, _], _ => rfl) fun cdv A outer s H E hr =>
    (s_cons (s_par 3 4 rfl sc_least_pour.nd (a_cons x_int (a_cons (x_callB (cd_sum rfl) rfl T.n_sum (by decide +kernel) (a_cons (x_var 0) a_nil)) a_nil)))
    (s_cons (s_if (t_cmp od_is (x_fn (k_run T) hr (a_cons (x_var 0) (a_cons (x_var 1) (a_cons (x_bin od_add (x_tup (a_cons (x_tup (a_cons x_str (a_cons (x_var 4) a_nil))) a_nil)) (x_var 2)) a_nil))) (ln_cons (ln_cons (ln_cons ln_nil)))) x_non (nomark _)) (s_one (s_ret x_non)) s_nil)
    (s_cons (s_while 64 PassesOwn.never (t_cmp od_lt (x_var 3) (x_var 4) (nomark _)) (s_cons (s_set 5 sc_least_pour.nd (x_bin od_div (x_bin od_add (x_var 3) (x_var 4)) x_int))
    (s_one (s_if (t_cmp od_is (x_fn (k_run T) hr (a_cons (x_var 0) (a_cons (x_var 1) (a_cons (x_bin od_add (x_tup (a_cons (x_tup (a_cons x_str (a_cons (x_var 5) a_nil))) a_nil)) (x_var 2)) a_nil))) (ln_cons (ln_cons (ln_cons ln_nil)))) x_non (nomark _)) (s_one (s_set 3 sc_least_pour.nd (x_bin od_add (x_var 5) x_int))) (s_one (s_set 4 sc_least_pour.nd (x_var 5)))))))
    (s_one (s_ret (x_var 3))))))
theorem k_largest_spending (T : Tx K mg) : Known PW w K mg base 3 "largest_spending" 4 F_largest_spending :=
  known_mk T.d_largest_spending T.g_largest_spending sc_largest_spending rfl rfl (fun _ _ _ _ _ _ us hl => match us, hl with | [_, _, _, _], _ => rfl) fun cdv A outer s H E hr =>
    (s_cons (s_par 4 5 rfl sc_largest_spending.nd (a_cons x_int (a_cons (x_ix (x_var 1) (x_var 3) (fun _ _ => rfl)) a_nil)))
    (s_cons (s_if (t_cmp od_is (x_fn (k_run T) hr (a_cons (x_var 0) (a_cons (x_var 1) (a_cons (x_var 2) a_nil))) (ln_cons (ln_cons (ln_cons ln_nil)))) x_non (nomark _)) (s_one (s_ret x_non)) s_nil)
    (s_cons (s_while 64 PassesOwn.never (t_cmp od_lt (x_var 4) (x_var 5) (nomark _)) (s_cons (s_set 6 sc_largest_spending.nd (x_bin od_div (x_bin od_add (x_bin od_add (x_var 4) (x_var 5)) x_int) x_int))
    (s_one (s_if (t_cmp od_is (x_fn (k_run T) hr (a_cons (x_var 0) (a_cons (x_var 1) (a_cons (x_bin od_add (x_tup (a_cons (x_tup (a_cons x_str (a_cons (x_var 3) (a_cons (x_var 6) a_nil)))) a_nil)) (x_var 2)) a_nil))) (ln_cons (ln_cons (ln_cons ln_nil)))) x_non (nomark _)) (s_one (s_set 5 sc_largest_spending.nd (x_bin od_sub (x_var 6) x_int))) (s_one (s_set 4 sc_largest_spending.nd (x_var 6)))))))
    (s_one (s_ret (x_var 4))))))
theorem k_judged (T : Tx K mg) : Known PW w K mg base 3 "judged" 6 F_judged :=
  known_mk T.d_judged T.g_judged sc_judged rfl rfl (fun _ _ _ _ _ _ us hl => match us, hl with | [_, _, _, _, _, _], _ => rfl) fun cdv A outer s H E hr =>
    (s_cons (s_set 6 sc_judged.nd (x_fn (k_run T) hr (a_cons (x_var 0) (a_cons (x_var 1) (a_cons (x_fn (k_with_amount T) hr (a_cons (x_var 2) (a_cons (x_var 3) (a_cons (x_var 5) a_nil))) (ln_cons (ln_cons (ln_cons ln_nil)))) a_nil))) (ln_cons (ln_cons (ln_cons ln_nil)))))
    (s_cons (s_if (t_cmp od_is (x_var 6) x_non (nomark _)) (s_one (s_ret (x_tup (a_cons x_bl (a_cons x_bl a_nil))))) s_nil)
    (s_cons (s_set 7 sc_judged.nd (x_L (l_listZip .t .t rfl rfl T.n_list rfl T.n_zip (a_cons (x_ix (x_var 6) x_int (fun _ _ => rfl)) (a_cons (x_var 4) a_nil)))))
    (s_one (s_ret (x_tup (a_cons (x_callB (cd_all rfl) rfl T.n_all (by decide +kernel) (a_cons (x_L (l_lc rfl sc_judged.nd (i_list (x_var 7)) (blkOk_by (own := [("one", 8), ("other", 9)]) (N := N_judged) (sc := defScope s_judged) (by decide +kernel)) (fun _ _ _ _ _ => (g_tup rfl (gs_cons (g_name 8 sc_judged.nd) (gs_cons (g_name 9 sc_judged.nd) (gs_nil (m := false)))))) (fun _ _ _ _ _ => q_nil) (fun _ _ _ _ _ => (x_cmp od_ge (x_var 8) (x_var 9) (nomark _))))) a_nil)) (a_cons (x_callB (cd_all rfl) rfl T.n_all (by decide +kernel) (a_cons (x_L (l_lc rfl sc_judged.nd (i_list (x_var 7)) (blkOk_by (own := [("one", 8), ("other", 9)]) (N := N_judged) (sc := defScope s_judged) (by decide +kernel)) (fun _ _ _ _ _ => (g_tup rfl (gs_cons (g_name 8 sc_judged.nd) (gs_cons (g_name 9 sc_judged.nd) (gs_nil (m := false)))))) (fun _ _ _ _ _ => q_nil) (fun _ _ _ _ _ => (x_cmp od_le (x_var 8) (x_var 9) (nomark _))))) a_nil)) a_nil))))))))
theorem fn_Reserve___init__ (T : Tx K mg) {fd : FuncData} (F : Ob.FunS K file "__init__" "Reserve.__init__" (defArgs s_Reserve___init__) (defBody s_Reserve___init__) (defScope s_Reserve___init__) [.int 0] [("floor", .int 0)] (He.ga K "Reserve") (Ob.Lo.ad K (.m "Reserve" "__init__")) fd) : FnOk PW w K mg base (L2N.CX PW w) 3 (Ob.Lo.ad K (.m "Reserve" "__init__")) fd ["self", "name", "cap", "level", "floor"] (Ob.spO K 5 F_Reserve___init__) :=
  Ob.clo_ok F (sf_Reserve T) S_Reserve___init__ rfl rfl rfl rfl rfl rfl rfl fun cdv cc A outer s H E hr tk S =>
    (Ob.ssA_cons (Ob.sA_drop (Ob.xa_sup (j := 2) S (Ob.supms_cons (Ob.supm_of (Dn := "Reserve") T.u_Reserve_Reserve___init__ T.w_Reserve_Reserve___init__ (k_Envelope___init__ T)) (Ob.supms_cons (Ob.supm_of (Dn := "Reserve") T.u_GoalReserve_Reserve___init__ T.w_GoalReserve_Reserve___init__ (k_Envelope___init__ T)) Ob.supms_nil)) hr tk (Ob.a_p (a_cons (x_var 1) (a_cons (x_var 2) (a_cons (x_var 3) a_nil))))))
    (Ob.ssA_cons (Ob.sa_of (Ob.s_if (Ob.t_p (t_not (t_val (x_fn (k_is_integer T) hr (a_cons (x_var 4) (a_cons x_int (a_cons (x_var 2) a_nil))) (ln_cons (ln_cons (ln_cons ln_nil))))))) (Ob.s_one (Ob.s_raise T.e_InvalidFloor rfl tk)) Ob.s_nil))
    (Ob.ssa_one (Ob.sa_of (Ob.s_fld ["Envelope", "Goal", "Reserve", "GoalReserve"] T.a_Env_ground (Ob.x_p (x_var 4)) (Ob.x_var 0))))))
theorem k_Reserve___init___K (T : Tx K mg) : Ob.CalK PW w K mg base 3 (Ob.Lo.ad K (.m "Reserve" "__init__")) 4 ["floor"] (Ob.spO K 5 F_Reserve___init__) := by
  obtain ⟨fd, F⟩ := T.d_Reserve___init__
  exact Ob.calK_fn (fn_Reserve___init__ T F) (F.kb (ps := ["self", "name", "cap", "level", "floor"]) 4 ["floor"] (by decide) (fun _ _ _ _ _ _ _ us its ws hl hi hw => match us, hl, its, hi, ws, hw with | [_, _, _, _], _, [_], _, [_], _ => ⟨_, rfl, rfl⟩)) fun _ _ => rfl
theorem fn_Envelope_put (T : Tx K mg) {fd : FuncData} (F : FunD K "put" "Envelope.put" (defArgs s_Envelope_put) (defBody s_Envelope_put) (defScope s_Envelope_put) [] [] (Ob.Lo.ad K (.m "Envelope" "put")) fd) : FnOk PW w K mg base (L2N.CX PW w) 3 (Ob.Lo.ad K (.m "Envelope" "put")) fd ["self", "amount"] (Ob.spO K 2 F_Envelope_put) :=
  Ob.def_ok F sc_Envelope_put rfl rfl fun cdv A outer s H E hr tk =>
    (Ob.s_cons (Ob.s_drop (Ob.x_fn (k_check_amount T) hr tk (Ob.a_p (a_cons (x_var 1) a_nil))))
    (Ob.s_cons (Ob.s_set 2 sc_Envelope_put.nd (Ob.x_callB (cd_min rfl) rfl T.n_min (by decide +kernel) (Ob.a_cons (Ob.x_p (x_var 1)) (Ob.a_cons (Ob.x_bin od_sub (Ob.x_fld ["Envelope", "Goal", "Reserve", "GoalReserve"] T.a_Env_limit (Ob.x_var 0)) (Ob.x_fld ["Envelope", "Goal", "Reserve", "GoalReserve"] T.a_Env_held (Ob.x_var 0))) Ob.a_nil))))
    (Ob.s_cons (Ob.s_fldAug ["Envelope", "Goal", "Reserve", "GoalReserve"] T.a_Env_held (Ob.x_var 0) (Ob.x_p (x_var 2)) in_add)
    (Ob.s_one (Ob.s_ret (Ob.x_p (x_bin od_sub (x_var 1) (x_var 2))))))))
theorem k_Envelope_put (T : Tx K mg) : Ob.Cal PW w K mg base 3 (Ob.Lo.ad K (.m "Envelope" "put")) (Ob.spO K 2 F_Envelope_put) := by
  obtain ⟨fd, F⟩ := T.d_Envelope_put
  exact Ob.cal_of (fn_Envelope_put T F) (FunD.bindsN (ps := ["self", "amount"]) F (fun _ _ _ _ _ _ us hl => match us, hl with | [_, _], _ => rfl))
theorem fn_Goal_free (T : Tx K mg) {fd : FuncData} (F : Ob.FunS K file "free" "Goal.free" (defArgs s_Goal_free) (defBody s_Goal_free) (defScope s_Goal_free) [] [] (He.ga K "Goal") (Ob.Lo.ad K (.m "Goal" "free")) fd) : FnOk PW w K mg base (L2N.CX PW w) 3 (Ob.Lo.ad K (.m "Goal" "free")) fd ["self"] (Ob.spO K 1 F_Goal_free) :=
  Ob.clo_ok F (sf_Goal T) S_Goal_free rfl rfl rfl rfl rfl rfl rfl fun cdv cc A outer s H E hr tk S =>
    (Ob.ssa_one (Ob.sA_ret (Ob.xa_if (Ob.t_val (Ob.x_fld ["Envelope", "Goal", "Reserve", "GoalReserve"] T.a_Env_done (Ob.x_var 0))) (Ob.xa_sup0 (j := 2) S (Ob.supms_cons (Ob.supm_of (Dn := "Goal") T.u_Goal_Goal_free T.w_Goal_Goal_free (k_Envelope_free T)) (Ob.supms_cons (Ob.supm_of (Dn := "Goal") T.u_GoalReserve_Goal_free T.w_GoalReserve_Goal_free (k_Reserve_free T)) Ob.supms_nil)) hr tk) (Ob.ea_of (Ob.x_p x_int)))))
theorem k_Goal_free (T : Tx K mg) : Ob.Cal PW w K mg base 3 (Ob.Lo.ad K (.m "Goal" "free")) (Ob.spO K 1 F_Goal_free) := by
  obtain ⟨fd, F⟩ := T.d_Goal_free
  exact Ob.cal_of (fn_Goal_free T F) (F.bindsN (fun _ _ _ _ _ _ us hl => match us, hl with | [_], _ => rfl))
theorem k_Plan___init__ (T : Tx K mg) (m : Nat) : Ob.Cal PW w K mg base 3 (Ob.Lo.ad K (.m "Plan" "__init__")) (Ob.spO K (m + 1) F_Plan___init__) := by
  obtain ⟨fd, F⟩ := T.d_Plan___init__
  exact Ob.star_cal m F sc_Plan___init__ rfl (fun _ _ _ _ _ _ _ => rfl) (fun _ _ _ _ _ _ _ _ _ => rfl) fun cdv A outer s H E hr tk =>
    (Ob.s_cons (Ob.s_if (PW.pt (Ob.w_or (Ob.t_not (Ob.t_chain od_le od_le (Ob.x_p x_int) (Ob.x_lenD rfl T.n_len (Ob.x_var 1)) (Ob.x_p (Ob.x_cval T.v_Plan_MOST)))) (pw_or1 (Ob.t_not (Ob.t_val (Ob.x_callB (cd_all rfl) rfl T.n_all (by decide +kernel) (Ob.a_cons (Ob.x_L (Ob.l_lc rfl sc_Plan___init__.nd (Wp := Ob.W0) (We := Ob.W0) (Ob.i_tup (Ob.x_var 1)) (blkOk_by (own := [("one", 3)]) (N := N_Plan___init__) (sc := defScope s_Plan___init__) (by decide +kernel)) (fun _ _ _ _ _ => (Ob.g_name 3 sc_Plan___init__.nd)) (fun _ _ _ _ _ => Ob.q_nil) (fun _ _ _ _ _ => (Ob.x_isC T.i_Envelope rfl T.n_isinstance (Ob.x_var 3))))) Ob.a_nil))))))) (Ob.s_one (Ob.s_raise T.e_InvalidEnvelopes rfl tk)) Ob.s_nil)
    (Ob.s_cons (Ob.s_setLc 2 rfl sc_Plan___init__.nd (sw_true rfl rfl rfl (by decide +kernel)) (Wp := Ob.W0) (We := Ob.W0) (Ob.i_tup (Ob.x_var 1)) (blkOk_by (own := [("one", 3)]) (N := N_Plan___init__) (sc := defScope s_Plan___init__) (by decide +kernel)) (fun _ _ _ _ _ => (Ob.g_name 3 sc_Plan___init__.nd)) (fun _ _ _ _ _ => Ob.q_nil) (fun _ _ _ _ _ => (Ob.x_prop (j := 1) (Ob.prps_cons (Ob.prp_of T.l_Envelope T.p_Envelope_name T.y_Envelope_name (k_Envelope_name T)) (Ob.prps_cons (Ob.prp_of T.l_Goal T.p_Goal_name T.y_Goal_name (k_Envelope_name T)) (Ob.prps_cons (Ob.prp_of T.l_Reserve T.p_Reserve_name T.y_Reserve_name (k_Envelope_name T)) (Ob.prps_cons (Ob.prp_of T.l_GoalReserve T.p_GoalReserve_name T.y_GoalReserve_name (k_Envelope_name T)) Ob.prps_nil)))) hr (Ob.x_var 3)))) (Ob.s_frz 2 (Ob.s_cons (Ob.s_if (Ob.t_cmp od_lt (Ob.x_lenSetS rfl T.n_len rfl T.n_set (Ob.x_p (x_var 2))) (Ob.x_p (x_callB cd_len rfl T.n_len PySem.boot_len (a_cons (x_var 2) a_nil))) (nomark _)) (Ob.s_one (Ob.s_raise T.e_InvalidEnvelopes rfl tk)) Ob.s_nil)
    (Ob.s_cons (Ob.s_fld ["Plan"] T.a_Plan_row (Ob.x_L (Ob.l_listD rfl T.n_list (Ob.x_var 1))) (Ob.x_var 0))
    (Ob.s_one (Ob.s_fld ["Plan"] T.a_Plan_gone (Ob.x_p x_int) (Ob.x_var 0))))))))
theorem fn_Plan_levels (T : Tx K mg) {fd : FuncData} (F : FunD K "levels" "Plan.levels" (defArgs s_Plan_levels) (defBody s_Plan_levels) (defScope s_Plan_levels) [] [] (Ob.Lo.ad K (.p "Plan" "levels")) fd) : FnOk PW w K mg base (L2N.CX PW w) 3 (Ob.Lo.ad K (.p "Plan" "levels")) fd ["self"] (Ob.spO K 1 F_Plan_levels) :=
  Ob.def_ok F sc_Plan_levels rfl rfl fun cdv A outer s H E hr tk =>
    (Ob.s_one (Ob.s_ret (Ob.x_callTy cd_tuple rfl T.n_tuple (by decide +kernel) (Ob.a_cons (Ob.x_L (Ob.l_lc rfl sc_Plan_levels.nd (Wp := Ob.W0) (We := Ob.W0) (Ob.i_list (Ob.x_fld ["Plan"] T.a_Plan_row (Ob.x_var 0))) (blkOk_by (own := [("one", 1)]) (N := N_Plan_levels) (sc := defScope s_Plan_levels) (by decide +kernel)) (fun _ _ _ _ _ => (Ob.g_name 1 sc_Plan_levels.nd)) (fun _ _ _ _ _ => Ob.q_nil) (fun _ _ _ _ _ => (Ob.x_prop (j := 1) (Ob.prps_cons (Ob.prp_of T.l_Envelope T.p_Envelope_level T.y_Envelope_level (k_Envelope_level T)) (Ob.prps_cons (Ob.prp_of T.l_Goal T.p_Goal_level T.y_Goal_level (k_Envelope_level T)) (Ob.prps_cons (Ob.prp_of T.l_Reserve T.p_Reserve_level T.y_Reserve_level (k_Envelope_level T)) (Ob.prps_cons (Ob.prp_of T.l_GoalReserve T.p_GoalReserve_level T.y_GoalReserve_level (k_Envelope_level T)) Ob.prps_nil)))) hr (Ob.x_var 1))))) Ob.a_nil))))
theorem kH_Plan_levels (T : Tx K mg) : Ob.CalH PW w K mg base 3 (Ob.Lo.ad K (.p "Plan" "levels")) (Ob.spO K 1 F_Plan_levels) := by
  obtain ⟨fd, F⟩ := T.d_Plan_levels
  exact Ob.calH_of (Ob.def_okH F sc_Plan_levels rfl rfl fun cdv A outer s H E p hot hr tk =>
    (Ob.s_one (Ob.s_ret (Ob.x_callTy cd_tuple rfl T.n_tuple (by decide +kernel) (Ob.a_cons (Ob.x_L (Ob.l_lcHC hot sc_Plan_levels.nd (Wp := Ob.W0) (We := Ob.W0) (Ob.i_listH (Ob.x_fld ["Plan"] T.a_Plan_row (Ob.x_var 0))) (blkOk_by (own := [("one", 1)]) (N := N_Plan_levels) (sc := defScope s_Plan_levels) (by decide +kernel)) (fun _ _ _ _ _ _ hot => (Ob.g_name 1 sc_Plan_levels.nd)) (fun _ _ _ _ _ _ hot => Ob.q_nil) (fun _ _ _ _ _ _ hot => (Ob.x_propH (j := 1) (Ob.prpsH_cons (Ob.prpH_of T.l_Envelope T.p_Envelope_level T.y_Envelope_level (kH_Envelope_level T)) (Ob.prpsH_cons (Ob.prpH_of T.l_Goal T.p_Goal_level T.y_Goal_level (kH_Envelope_level T)) (Ob.prpsH_cons (Ob.prpH_of T.l_Reserve T.p_Reserve_level T.y_Reserve_level (kH_Envelope_level T)) (Ob.prpsH_cons (Ob.prpH_of T.l_GoalReserve T.p_GoalReserve_level T.y_GoalReserve_level (kH_Envelope_level T)) Ob.prpsH_nil)))) hr hot (Ob.x_var 1))))) Ob.a_nil))))) (FunD.bindsN (ps := ["self"]) F (fun _ _ _ _ _ _ us hl => match us, hl with | [_], _ => rfl))
theorem k_Plan_levels (T : Tx K mg) : Ob.Cal PW w K mg base 3 (Ob.Lo.ad K (.p "Plan" "levels")) (Ob.spO K 1 F_Plan_levels) := by
  obtain ⟨fd, F⟩ := T.d_Plan_levels
  exact Ob.cal_of (fn_Plan_levels T F) (FunD.bindsN (ps := ["self"]) F (fun _ _ _ _ _ _ us hl => match us, hl with | [_], _ => rfl))
theorem fn_Plan_envelope (T : Tx K mg) {fd : FuncData} (F : FunD K "envelope" "Plan.envelope" (defArgs s_Plan_envelope) (defBody s_Plan_envelope) (defScope s_Plan_envelope) [] [] (Ob.Lo.ad K (.m "Plan" "envelope")) fd) : FnOk PW w K mg base (L2N.CX PW w) 3 (Ob.Lo.ad K (.m "Plan" "envelope")) fd ["self", "name"] (Ob.spO K 2 F_Plan_envelope) :=
  Ob.def_ok F sc_Plan_envelope rfl rfl fun cdv A outer s H E hr tk =>
    (Ob.s_cons (Ob.s_for Ob.fin_passes rfl (Ob.i_list (Ob.x_fld ["Plan"] T.a_Plan_row (Ob.x_var 0))) (Ob.g_name 2 sc_Plan_envelope.nd) (Ob.s_one (Ob.s_if (PW.pt (Ob.w_and (Ob.t_p (t_val (x_isI (T := "str") (by decide +kernel) rfl T.n_isinstance rfl T.n_str (x_var 1)))) (pw_and1 (Ob.t_cmp (od_eq hr.units) (Ob.x_prop (j := 1) (Ob.prps_cons (Ob.prp_of T.l_Envelope T.p_Envelope_name T.y_Envelope_name (k_Envelope_name T)) (Ob.prps_cons (Ob.prp_of T.l_Goal T.p_Goal_name T.y_Goal_name (k_Envelope_name T)) (Ob.prps_cons (Ob.prp_of T.l_Reserve T.p_Reserve_name T.y_Reserve_name (k_Envelope_name T)) (Ob.prps_cons (Ob.prp_of T.l_GoalReserve T.p_GoalReserve_name T.y_GoalReserve_name (k_Envelope_name T)) Ob.prps_nil)))) hr (Ob.x_var 2)) (Ob.x_p (x_var 1)) (nomark _))))) (Ob.s_one (Ob.s_ret (Ob.x_var 2))) Ob.s_nil)))
    (Ob.s_one (Ob.s_raise T.e_UnknownEnvelope rfl tk)))
theorem k_Plan_envelope (T : Tx K mg) : Ob.Cal PW w K mg base 3 (Ob.Lo.ad K (.m "Plan" "envelope")) (Ob.spO K 2 F_Plan_envelope) := by
  obtain ⟨fd, F⟩ := T.d_Plan_envelope
  exact Ob.cal_of (fn_Plan_envelope T F) (FunD.bindsN (ps := ["self", "name"]) F (fun _ _ _ _ _ _ us hl => match us, hl with | [_, _], _ => rfl))
theorem k_first_amount (T : Tx K mg) : Known PW w K mg base 4 "first_amount" 7 F_first_amount :=
  known_mk T.d_first_amount T.g_first_amount sc_first_amount rfl rfl (fun _ _ _ _ _ _ us hl => match us, hl with | [_, _, _, _, _, _, _], _ => rfl) fun cdv A outer s H E hr =>
    (s_cons (s_par 7 8 rfl sc_first_amount.nd (a_cons x_int (a_cons (x_bin od_add (x_fn (k_largest_amount T) hr (a_cons (x_var 0) (a_cons (x_var 2) (a_cons (x_var 3) a_nil))) (ln_cons (ln_cons (ln_cons ln_nil)))) x_int) a_nil)))
    (s_cons (s_while 64 PassesOwn.never (t_cmp od_lt (x_var 7) (x_var 8) (nomark _)) (s_cons (s_set 9 sc_first_amount.nd (x_bin od_div (x_bin od_add (x_var 7) (x_var 8)) x_int))
    (s_one (s_if (t_cmp (od_eq hr.units) (x_ix (x_fn (k_judged T) hr (a_cons (x_var 0) (a_cons (x_var 1) (a_cons (x_var 2) (a_cons (x_var 3) (a_cons (x_var 4) (a_cons (x_var 9) a_nil)))))) (ln_cons (ln_cons (ln_cons (ln_cons (ln_cons (ln_cons ln_nil))))))) (x_var 5) (fun _ _ => rfl)) (x_var 6) (nomark _)) (s_one (s_set 8 sc_first_amount.nd (x_var 9))) (s_one (s_set 7 sc_first_amount.nd (x_bin od_add (x_var 9) x_int)))))))
    (s_one (s_ret (x_var 7)))))
theorem k_Goal___init___0 (T : Tx K mg) : Ob.Cal PW w K mg base 4 (Ob.Lo.ad K (.m "Goal" "__init__")) (Ob.spO K 4 F_Goal___init___0) := by
  obtain ⟨fd, F⟩ := T.d_Goal___init__
  exact Ob.more_cal0 F (sf_Goal T) S_Goal___init__ rfl rfl ⟨rfl, rfl, rfl, rfl, _, rfl, rfl⟩ (fun cdv cc A outer s H E md mo xe ws zs hr tk S hmo hzs rz hmd =>
    (Ob.ssC_cons (Ob.sC_drop (Ob.xa_supK (j := 2) (i := 4) (x := "more") S (Ob.supks_cons (Ob.supk_of (Dn := "Goal") T.u_Goal_Goal___init__ T.w_Goal_Goal___init__ (Ob.calK_of (k_Envelope___init__ T) 4)) Ob.supks_nil) hr tk (Ob.a_p (a_cons (x_var 1) (a_cons (x_var 2) (a_cons (x_var 3) a_nil)))) (List.mem_singleton.mpr rfl) hmo hzs rz hmd rfl rfl (by decide) (by decide) (by decide) (by rfl) (by rfl) (by rfl)))
    (Ob.ssa_one (Ob.sa_of (Ob.s_fld ["Envelope", "Goal", "Reserve", "GoalReserve"] T.a_Env_done (Ob.x_p (x_cmp (od_eq hr.units) (x_var 3) (x_var 2) (nomark _))) (Ob.x_var 0))))))
theorem k_Goal___init___K (T : Tx K mg) : Ob.CalK PW w K mg base 4 (Ob.Lo.ad K (.m "Goal" "__init__")) 4 ["floor"] (Ob.spO K 5 F_Goal___init___K) := by
  obtain ⟨fd, F⟩ := T.d_Goal___init__
  exact Ob.more_cal1 F (sf_Goal T) S_Goal___init__ rfl rfl ⟨rfl, rfl, rfl, rfl, _, rfl, rfl⟩ (fun p cdv cc A outer s H E md mo xe ws zs hr tk S hmo hzs rz hmd =>
    (Ob.ssC_cons (Ob.sC_drop (Ob.xa_supK (j := 3) (i := 4) (x := "more") S (Ob.supks_cons (Ob.supk_of (Dn := "Goal") T.u_GoalReserve_Goal___init__ T.w_GoalReserve_Goal___init__ (k_Reserve___init___K T)) Ob.supks_nil) hr tk (Ob.a_p (a_cons (x_var 1) (a_cons (x_var 2) (a_cons (x_var 3) a_nil)))) (List.mem_singleton.mpr rfl) hmo hzs rz hmd rfl rfl (by decide) (by decide) (by decide) (by rfl) (by rfl) (by rfl)))
    (Ob.ssa_one (Ob.sa_of (Ob.s_fld ["Envelope", "Goal", "Reserve", "GoalReserve"] T.a_Env_done (Ob.x_p (x_cmp (od_eq hr.units) (x_var 3) (x_var 2) (nomark _))) (Ob.x_var 0))))))
theorem fn_Goal_put (T : Tx K mg) {fd : FuncData} (F : Ob.FunS K file "put" "Goal.put" (defArgs s_Goal_put) (defBody s_Goal_put) (defScope s_Goal_put) [] [] (He.ga K "Goal") (Ob.Lo.ad K (.m "Goal" "put")) fd) : FnOk PW w K mg base (L2N.CX PW w) 4 (Ob.Lo.ad K (.m "Goal" "put")) fd ["self", "amount"] (Ob.spO K 2 F_Goal_put) :=
  Ob.clo_ok F (sf_Goal T) S_Goal_put rfl rfl rfl rfl rfl rfl rfl fun cdv cc A outer s H E hr tk S =>
    (Ob.ssA_cons (Ob.sA_set 2 S_Goal_put.nd (Ob.xa_sup (j := 3) S (Ob.supms_cons (Ob.supm_of (Dn := "Goal") T.u_Goal_Goal_put T.w_Goal_Goal_put (k_Envelope_put T)) (Ob.supms_cons (Ob.supm_of (Dn := "Goal") T.u_GoalReserve_Goal_put T.w_GoalReserve_Goal_put (k_Envelope_put T)) Ob.supms_nil)) hr tk (Ob.a_p (a_cons (x_var 1) a_nil))))
    (Ob.ssA_cons (Ob.sa_of (Ob.s_if (Ob.t_cmp (od_eq hr.units) (Ob.x_fld ["Envelope", "Goal", "Reserve", "GoalReserve"] T.a_Env_held (Ob.x_var 0)) (Ob.x_fld ["Envelope", "Goal", "Reserve", "GoalReserve"] T.a_Env_limit (Ob.x_var 0)) (nomark _)) (Ob.s_one (Ob.s_fld ["Envelope", "Goal", "Reserve", "GoalReserve"] T.a_Env_done (Ob.x_p x_bl) (Ob.x_var 0))) Ob.s_nil))
    (Ob.ssa_one (Ob.sa_of (Ob.s_ret (Ob.x_p (x_var 2)))))))
theorem k_Goal_put (T : Tx K mg) : Ob.Cal PW w K mg base 4 (Ob.Lo.ad K (.m "Goal" "put")) (Ob.spO K 2 F_Goal_put) := by
  obtain ⟨fd, F⟩ := T.d_Goal_put
  exact Ob.cal_of (fn_Goal_put T F) (F.bindsN (fun _ _ _ _ _ _ us hl => match us, hl with | [_, _], _ => rfl))
theorem fn_Envelope_take (T : Tx K mg) {fd : FuncData} (F : FunD K "take" "Envelope.take" (defArgs s_Envelope_take) (defBody s_Envelope_take) (defScope s_Envelope_take) [] [] (Ob.Lo.ad K (.m "Envelope" "take")) fd) : FnOk PW w K mg base (L2N.CX PW w) 4 (Ob.Lo.ad K (.m "Envelope" "take")) fd ["self", "amount"] (Ob.spO K 2 F_Envelope_take) :=
  Ob.def_ok F sc_Envelope_take rfl rfl fun cdv A outer s H E hr tk =>
    (Ob.s_cons (Ob.s_drop (Ob.x_fn (k_check_amount T) hr tk (Ob.a_p (a_cons (x_var 1) a_nil))))
    (Ob.s_cons (Ob.s_if (Ob.t_cmp od_gt (Ob.x_p (x_var 1)) (Ob.x_meth0 (j := 3) (Ob.mets_cons (Ob.met_of T.l_Envelope T.m_Envelope_free T.y_Envelope_free (k_Envelope_free T)) (Ob.mets_cons (Ob.met_of T.l_Goal T.m_Goal_free T.y_Goal_free (k_Goal_free T)) (Ob.mets_cons (Ob.met_of T.l_Reserve T.m_Reserve_free T.y_Reserve_free (k_Reserve_free T)) (Ob.mets_cons (Ob.met_of T.l_GoalReserve T.m_GoalReserve_free T.y_GoalReserve_free (k_Goal_free T)) Ob.mets_nil)))) hr tk (Ob.x_var 0)) (nomark _)) (Ob.s_one (Ob.s_raise T.e_NotEnough rfl tk)) Ob.s_nil)
    (Ob.s_one (Ob.s_fldAug ["Envelope", "Goal", "Reserve", "GoalReserve"] T.a_Env_held (Ob.x_var 0) (Ob.x_p (x_var 1)) in_sub))))
theorem k_Envelope_take (T : Tx K mg) : Ob.Cal PW w K mg base 4 (Ob.Lo.ad K (.m "Envelope" "take")) (Ob.spO K 2 F_Envelope_take) := by
  obtain ⟨fd, F⟩ := T.d_Envelope_take
  exact Ob.cal_of (fn_Envelope_take T F) (FunD.bindsN (ps := ["self", "amount"]) F (fun _ _ _ _ _ _ us hl => match us, hl with | [_, _], _ => rfl))
theorem k_Plan_spend (T : Tx K mg) : Ob.CalK PW w K mg base 4 (Ob.Lo.ad K (.m "Plan" "spend")) 1 ["rent", "food"] (Ob.spO K 3 F_Plan_spend) := by
  obtain ⟨fd, F⟩ := T.d_Plan_spend
  exact Ob.kw_cal2 F sc_Plan_spend rfl ⟨rfl, rfl, rfl, rfl, _, rfl, rfl⟩ fun cdv A outer s H E hr tk =>
    (Ob.s_cons (Ob.s_for Ob.fin_passes rfl (Ob.i_list (Ob.x_sortD rfl rfl T.n_sorted (Ob.x_var 1))) (Ob.g_name 2 sc_Plan_spend.nd) (Ob.s_cons (Ob.s_set 3 sc_Plan_spend.nd (Ob.x_meth (j := 3) (Ob.mets_cons (Ob.met_of T.l_Plan T.m_Plan_envelope T.y_Plan_envelope (k_Plan_envelope T)) Ob.mets_nil) hr tk (Ob.x_var 0) (Ob.a_p (a_cons (x_var 2) a_nil))))
    (Ob.s_cons (Ob.s_drop (Ob.x_fn (k_check_amount T) hr tk (Ob.a_cons (Ob.x_dget (Nat.lt_of_le_of_lt (Nat.add_le_add_left (by decide : 1 ≤ 64) _) hr.units) (Ob.x_var 1) (Ob.x_p (x_var 2)) (fun _ _ => rfl)) Ob.a_nil)))
    (Ob.s_one (Ob.s_if (Ob.t_cmp od_gt (Ob.x_dget (Nat.lt_of_le_of_lt (Nat.add_le_add_left (by decide : 1 ≤ 64) _) hr.units) (Ob.x_var 1) (Ob.x_p (x_var 2)) (fun _ _ => rfl)) (Ob.x_meth0 (j := 3) (Ob.mets_cons (Ob.met_of T.l_Envelope T.m_Envelope_free T.y_Envelope_free (k_Envelope_free T)) (Ob.mets_cons (Ob.met_of T.l_Goal T.m_Goal_free T.y_Goal_free (k_Goal_free T)) (Ob.mets_cons (Ob.met_of T.l_Reserve T.m_Reserve_free T.y_Reserve_free (k_Reserve_free T)) (Ob.mets_cons (Ob.met_of T.l_GoalReserve T.m_GoalReserve_free T.y_GoalReserve_free (k_Goal_free T)) Ob.mets_nil)))) hr tk (Ob.x_var 3)) (nomark _)) (Ob.s_one (Ob.s_raise T.e_NotEnough rfl tk)) Ob.s_nil)))))
    Ob.s_cut)
theorem k_fitting_amounts (T : Tx K mg) : Known PW w K mg base 5 "fitting_amounts" 5 F_fitting_amounts :=
  known_mk T.d_fitting_amounts T.g_fitting_amounts sc_fitting_amounts rfl rfl (fun _ _ _ _ _ _ us hl => match us, hl with | [_, _, _, _, _], _ => rfl) fun cdv A outer s H E hr =>
    (s_cons (s_set 5 sc_fitting_amounts.nd (x_callTy cd_int rfl T.n_int (by decide +kernel) (a_cons (x_cmp (od_eq hr.units) (x_ix (x_ix (x_var 2) (x_var 3) (fun _ _ => rfl)) x_int (fun _ _ => rfl)) x_str (nomark _)) a_nil)))
    (s_cons (s_set 6 sc_fitting_amounts.nd (x_fn (k_first_amount T) hr (a_cons (x_var 0) (a_cons (x_var 1) (a_cons (x_var 2) (a_cons (x_var 3) (a_cons (x_var 4) (a_cons (x_bin od_sub x_int (x_var 5)) (a_cons x_bl a_nil))))))) (ln_cons (ln_cons (ln_cons (ln_cons (ln_cons (ln_cons (ln_cons ln_nil)))))))))
    (s_cons (s_set 7 sc_fitting_amounts.nd (x_bin od_sub (x_fn (k_first_amount T) hr (a_cons (x_var 0) (a_cons (x_var 1) (a_cons (x_var 2) (a_cons (x_var 3) (a_cons (x_var 4) (a_cons (x_var 5) (a_cons x_bl a_nil))))))) (ln_cons (ln_cons (ln_cons (ln_cons (ln_cons (ln_cons (ln_cons ln_nil)))))))) x_int))
    (s_one (s_ret (x_if (t_cmp od_le (x_var 6) (x_var 7) (nomark _)) (x_tup (a_cons (x_var 6) (a_cons (x_var 7) a_nil))) x_non))))))
theorem k_Plan_pour (T : Tx K mg) (m : Nat) : Ob.Cal PW w K mg base 5 (Ob.Lo.ad K (.m "Plan" "pour")) (Ob.spO K (m + 1) F_Plan_pour) := by
  obtain ⟨fd, F⟩ := T.d_Plan_pour
  exact Ob.star_cal m F sc_Plan_pour rfl (fun _ _ _ _ _ _ _ => rfl) (fun _ _ _ _ _ _ _ _ _ => rfl) fun cdv A outer s H E hr tk =>
    (Ob.s_cons (Ob.s_for Ob.fin_passes rfl (Ob.i_p (i_tup (x_var 1))) (Ob.g_name 2 sc_Plan_pour.nd) (Ob.s_one (Ob.s_drop (Ob.x_fn (k_check_amount T) hr tk (Ob.a_p (a_cons (x_var 2) a_nil))))))
    (Ob.s_cons (Ob.s_set 3 sc_Plan_pour.nd (Ob.x_fld ["Plan"] T.a_Plan_gone (Ob.x_var 0)))
    (Ob.s_cons (Ob.s_for Ob.fin_passes rfl (Ob.i_p (i_tup (x_var 1))) (Ob.g_name 2 sc_Plan_pour.nd) (Ob.s_cons (Ob.s_for Ob.fin_passes rfl (Ob.i_list (Ob.x_fld ["Plan"] T.a_Plan_row (Ob.x_var 0))) (Ob.g_name 4 sc_Plan_pour.nd) (Ob.s_one (Ob.s_set 2 sc_Plan_pour.nd (Ob.x_meth (j := 4) (Ob.mets_cons (Ob.met_of T.l_Envelope T.m_Envelope_put T.y_Envelope_put (k_Envelope_put T)) (Ob.mets_cons (Ob.met_of T.l_Goal T.m_Goal_put T.y_Goal_put (k_Goal_put T)) (Ob.mets_cons (Ob.met_of T.l_Reserve T.m_Reserve_put T.y_Reserve_put (k_Envelope_put T)) (Ob.mets_cons (Ob.met_of T.l_GoalReserve T.m_GoalReserve_put T.y_GoalReserve_put (k_Goal_put T)) Ob.mets_nil)))) hr tk (Ob.x_var 4) (Ob.a_p (a_cons (x_var 2) a_nil))))))
    (Ob.s_one (Ob.s_fldAug ["Plan"] T.a_Plan_gone (Ob.x_var 0) (Ob.x_p (x_var 2)) in_add))))
    (Ob.s_one (Ob.s_ret (Ob.x_bin od_sub (Ob.x_fld ["Plan"] T.a_Plan_gone (Ob.x_var 0)) (Ob.x_p (x_var 3))))))))
theorem k__law_rows_right (T : Tx K mg) : Known PW w K mg base 6 "_law_rows_right" 1 F__law_rows_right :=
  known_mk T.d__law_rows_right T.g__law_rows_right sc__law_rows_right rfl rfl (fun _ _ _ _ _ _ us hl => match us, hl with | [_], _ => rfl) fun cdv A outer s H E hr =>
    (s_cons (s_par 1 2 rfl sc__law_rows_right.nd (a_cons (x_tup (a_cons (x_bin od_mul x_int (x_var 0)) (a_cons (x_bin od_mul x_int (x_var 0)) a_nil))) (a_cons (x_tup (a_cons (x_var 0) (a_cons x_int a_nil))) a_nil)))
    (s_cons (s_if (t_cmp (od_ne hr.units) (x_fn (k_run T) hr (a_cons (x_var 1) (a_cons (x_tup (a_cons x_int (a_cons x_int a_nil))) (a_cons (x_tup (a_cons (x_tup (a_cons x_str (a_cons (x_bin od_mul x_int (x_var 0)) a_nil))) (a_cons (x_tup (a_cons x_str (a_cons x_int (a_cons (x_bin od_mul x_int (x_var 0)) a_nil)))) (a_cons (x_tup (a_cons x_str (a_cons (x_bin od_mul x_int (x_var 0)) a_nil))) a_nil)))) a_nil))) (ln_cons (ln_cons (ln_cons ln_nil)))) (x_tup (a_cons (x_var 1) (a_cons (x_bin od_mul x_int (x_var 0)) a_nil))) (nomark _)) (s_one (s_ret x_bl)) s_nil)
    (s_cons (s_if (t_cmp (od_ne hr.units) (x_L (l_fn (k_prefix_effects T) hr (a_cons (x_var 1) (a_cons (x_tup (a_cons (x_tup (a_cons x_str (a_cons (x_bin od_mul x_int (x_var 0)) a_nil))) (a_cons (x_tup (a_cons x_str (a_cons x_int (a_cons (x_bin od_mul x_int (x_var 0)) a_nil)))) a_nil))) a_nil)) (ln_cons (ln_cons ln_nil)))) (x_L (l_lst (a_cons (x_tup (a_cons (x_bin od_mul x_int (x_var 0)) (a_cons (x_bin od_mul x_int (x_var 0)) a_nil))) (a_cons (x_tup (a_cons (x_bin od_mul x_int (x_var 0)) (a_cons (x_bin od_mul x_int (x_var 0)) a_nil))) a_nil)))) (nomark _)) (s_one (s_ret x_bl)) s_nil)
    (s_cons (s_if (t_cmp od_isNot (x_fn (k_commute T) hr (a_cons (x_var 1) (a_cons (x_tup (a_cons x_str (a_cons (x_bin od_mul x_int (x_var 0)) a_nil))) (a_cons (x_tup (a_cons x_str (a_cons x_int (a_cons (x_bin od_mul x_int (x_var 0)) a_nil)))) a_nil))) (ln_cons (ln_cons (ln_cons ln_nil)))) x_bl (nomark _)) (s_one (s_ret x_bl)) s_nil)
    (s_cons (s_if (t_cmp (od_ne hr.units) (x_fn (k_least_pour T) hr (a_cons (x_var 1) (a_cons (x_var 2) (a_cons (x_tup (a_cons (x_tup (a_cons x_str (a_cons x_int (a_cons (x_bin od_mul x_int (x_var 0)) a_nil)))) a_nil)) a_nil))) (ln_cons (ln_cons (ln_cons ln_nil)))) (x_bin od_mul x_int (x_var 0)) (nomark _)) (s_one (s_ret x_bl)) s_nil)
    (s_cons (s_if (t_cmp (od_ne hr.units) (x_fn (k_largest_spending T) hr (a_cons (x_var 1) (a_cons (x_tup (a_cons (x_bin od_mul x_int (x_var 0)) (a_cons (x_bin od_mul x_int (x_var 0)) a_nil))) (a_cons (x_tup (a_cons (x_tup (a_cons x_str (a_cons (x_bin od_mul x_int (x_var 0)) a_nil))) (a_cons (x_tup (a_cons x_str (a_cons x_int (a_cons (x_bin od_mul x_int (x_var 0)) a_nil)))) a_nil))) (a_cons x_int a_nil)))) (ln_cons (ln_cons (ln_cons (ln_cons ln_nil))))) (x_var 0) (nomark _)) (s_one (s_ret x_bl)) s_nil)
    (s_cons (s_if (t_cmp (od_ne hr.units) (x_fn (k_fitting_amounts T) hr (a_cons (x_var 1) (a_cons (x_var 2) (a_cons (x_tup (a_cons (x_tup (a_cons x_str (a_cons x_int a_nil))) a_nil)) (a_cons x_int (a_cons (x_var 1) a_nil))))) (ln_cons (ln_cons (ln_cons (ln_cons (ln_cons ln_nil)))))) (x_tup (a_cons (x_bin od_mul x_int (x_var 0)) (a_cons (x_bin od_pow x_int x_int) a_nil))) (nomark _)) (s_one (s_ret x_bl)) s_nil)
    (s_cons (s_if (t_cmp (od_ne hr.units) (x_fn (k_fitting_amounts T) hr (a_cons (x_var 1) (a_cons (x_var 2) (a_cons (x_tup (a_cons (x_tup (a_cons x_str (a_cons x_int a_nil))) a_nil)) (a_cons x_int (a_cons (x_tup (a_cons (x_bin od_mul x_int (x_var 0)) (a_cons (x_bin od_mul x_int (x_var 0)) a_nil))) a_nil))))) (ln_cons (ln_cons (ln_cons (ln_cons (ln_cons ln_nil)))))) (x_tup (a_cons (x_bin od_mul x_int (x_var 0)) (a_cons (x_bin od_mul x_int (x_var 0)) a_nil))) (nomark _)) (s_one (s_ret x_bl)) s_nil)
    (s_cons (s_if (t_cmp (od_ne hr.units) (x_fn (k_fewest_steps T) hr (a_cons (x_var 1) (a_cons (x_var 2) (a_cons (x_tup (a_cons (x_bin od_mul x_int (x_var 0)) (a_cons (x_bin od_mul x_int (x_var 0)) a_nil))) a_nil))) (ln_cons (ln_cons (ln_cons ln_nil)))) x_int (nomark _)) (s_one (s_ret x_bl)) s_nil)
    (s_one (s_ret (x_cmp (od_eq hr.units) (x_fn (k_shortest_script T) hr (a_cons (x_var 1) (a_cons (x_var 2) (a_cons (x_tup (a_cons (x_bin od_mul x_int (x_var 0)) (a_cons (x_bin od_mul x_int (x_var 0)) a_nil))) a_nil))) (ln_cons (ln_cons (ln_cons ln_nil)))) (x_tup (a_cons (x_tup (a_cons x_str (a_cons (x_bin od_mul x_int (x_var 0)) a_nil))) a_nil)) (nomark _)))))))))))))
theorem fn_Envelope_read (T : Tx K mg) {fd : FuncData} (F : FunD K "read" "Envelope.read" (defArgs s_Envelope_read) (defBody s_Envelope_read) (defScope s_Envelope_read) [] [] (Ob.Lo.ad K (.k "Envelope" "read")) fd) : FnOk PW w K mg base (L2N.CX PW w) 6 (Ob.Lo.ad K (.k "Envelope" "read")) fd ["cls", "text"] (Ob.spO K 2 F_Envelope_read) :=
  Ob.def_ok F sc_Envelope_read rfl rfl fun cdv A outer s H E hr tk =>
    (Ob.s_cons (Ob.s_if (Ob.t_p (PW.pt (w_or (t_not (t_val (x_isI (T := "str") (by decide +kernel) rfl T.n_isinstance rfl T.n_str (x_var 1)))) (w_or (t_cmp (od_ne hr.units) (x_count (x_var 1) x_str) x_int (nomark _)) (pw_or1 (t_cmp od_gt (x_count (x_var 1) x_str) x_int (nomark _))))))) (Ob.s_one (Ob.s_raise T.e_InvalidText rfl tk)) Ob.s_nil)
    (Ob.s_cons (Ob.s_asg (Ob.x_p (x_L (l_split (x_var 1) x_str))) (Ob.g_lst rfl (Ob.gs_cons (Ob.g_name 3 sc_Envelope_read.nd) (Ob.gs_cons (Ob.g_name 4 sc_Envelope_read.nd) Ob.gs_nil))))
    (Ob.s_cons (Ob.s_set 2 sc_Envelope_read.nd (Ob.x_p (x_L (l_split (x_var 4) x_str))))
    (Ob.s_cons (Ob.s_if (Ob.t_p (PW.pt (w_or (t_not (t_val (Ob.x_stat (k_Envelope_is_name T) hr (a_cons (x_var 3) a_nil) (ln_cons ln_nil)))) (pw_or1 (t_not (t_val (x_callB (cd_all rfl) rfl T.n_all (by decide +kernel) (a_cons (x_L (l_lc rfl sc_Envelope_read.nd (i_list (x_var 2)) (blkOk_by (own := [("part", 7)]) (N := N_Envelope_read) (sc := defScope s_Envelope_read) (by decide +kernel)) (fun _ _ _ _ _ => (g_name 7 sc_Envelope_read.nd)) (fun _ _ _ _ _ => q_nil) (fun _ _ _ _ _ => (x_fn (k_is_number_text T) hr (a_cons (x_var 7) a_nil) (ln_cons ln_nil))))) a_nil)))))))) (Ob.s_one (Ob.s_raise T.e_InvalidText rfl tk)) Ob.s_nil)
    (Ob.s_cons (Ob.s_par 5 6 rfl sc_Envelope_read.nd (Ob.a_p (a_cons (x_callTy cd_intT rfl T.n_int (by decide +kernel) (a_cons (x_ix (x_var 2) (x_neg x_int) (fun _ _ => rfl)) a_nil)) (a_cons (x_if (t_cmp (od_eq hr.units) (x_callB cd_len rfl T.n_len PySem.boot_len (a_cons (x_var 2) a_nil)) x_int (nomark _)) (x_callTy cd_intT rfl T.n_int (by decide +kernel) (a_cons (x_ix (x_var 2) x_int (fun _ _ => rfl)) a_nil)) x_int) a_nil))))
    (Ob.s_cons (Ob.s_if (Ob.t_p (PW.pt (w_or (t_not (t_chain od_le od_le x_int (x_var 5) (Ob.x_cval T.v_Envelope_LARGEST))) (pw_or1 (t_cmp od_gt (x_var 6) (x_var 5) (nomark _)))))) (Ob.s_one (Ob.s_raise T.e_InvalidText rfl tk)) Ob.s_nil)
    (Ob.s_one (Ob.s_ret (Ob.x_makeV (i := 0) (j := 4) (Ob.mkT_cons (Ob.mkr_of T.g_Envelope T.k_Envelope T.y_Envelope___init__ (k_Envelope___init__ T)) (Ob.mkT_cons (Ob.mkr_of T.g_Goal T.k_Goal T.y_Goal___init__ (k_Goal___init___0 T)) Ob.mkT_nil)) hr tk (Ob.a_p (a_cons (x_var 3) (a_cons (x_var 5) (a_cons (x_var 6) a_nil)))))))))))))
theorem k_Envelope_read (T : Tx K mg) : Ob.Cal PW w K mg base 6 (Ob.Lo.ad K (.k "Envelope" "read")) (Ob.spO K 2 F_Envelope_read) := by
  obtain ⟨fd, F⟩ := T.d_Envelope_read
  exact Ob.cal_of (fn_Envelope_read T F) (FunD.bindsN (ps := ["cls", "text"]) F (fun _ _ _ _ _ _ us hl => match us, hl with | [_, _], _ => rfl))
theorem fn_Plan_read (T : Tx K mg) {fd : FuncData} (F : FunD K "read" "Plan.read" (defArgs s_Plan_read) (defBody s_Plan_read) (defScope s_Plan_read) [] [] (Ob.Lo.ad K (.k "Plan" "read")) fd) : FnOk PW w K mg base (L2N.CX PW w) 7 (Ob.Lo.ad K (.k "Plan" "read")) fd ["cls", "text"] (Ob.spO K 2 F_Plan_read) :=
  Ob.def_ok F sc_Plan_read rfl rfl fun cdv A outer s H E hr tk =>
    (Ob.s_cons (Ob.s_if (Ob.t_p (t_not (t_val (x_isI (T := "str") (by decide +kernel) rfl T.n_isinstance rfl T.n_str (x_var 1))))) (Ob.s_one (Ob.s_raise T.e_InvalidText rfl tk)) Ob.s_nil)
    (Ob.s_cons (Ob.s_setLc 2 rfl sc_Plan_read.nd (sw_true rfl rfl rfl (by decide +kernel)) (Wp := Ob.W0) (We := Ob.W0) (Ob.i_p (i_list (x_L (l_split (x_var 1) x_str)))) (blkOk_by (own := [("part", 4)]) (N := N_Plan_read) (sc := defScope s_Plan_read) (by decide +kernel)) (fun _ _ _ _ _ => (Ob.g_name 4 sc_Plan_read.nd)) (fun _ _ _ _ _ => Ob.q_nil) (fun _ _ _ _ _ => (Ob.x_cm (j := 6) (Ob.cmt_of T.cm_Envelope_read T.g_Envelope (k_Envelope_read T)) hr Ob.takesN (Ob.a_p (a_cons (x_var 4) a_nil))))) (Ob.s_frz 2 (Ob.s_cons (Ob.s_setLc 3 rfl sc_Plan_read.nd (sw_true rfl rfl rfl (by decide +kernel)) (Wp := Ob.W0) (We := Ob.W0) (Ob.i_list (Ob.x_var 2)) (blkOk_by (own := [("one", 5)]) (N := N_Plan_read) (sc := defScope s_Plan_read) (by decide +kernel)) (fun _ _ _ _ _ => (Ob.g_name 5 sc_Plan_read.nd)) (fun _ _ _ _ _ => Ob.q_nil) (fun _ _ _ _ _ => (Ob.x_prop (j := 1) (Ob.prps_cons (Ob.prp_of T.l_Envelope T.p_Envelope_name T.y_Envelope_name (k_Envelope_name T)) (Ob.prps_cons (Ob.prp_of T.l_Goal T.p_Goal_name T.y_Goal_name (k_Envelope_name T)) (Ob.prps_cons (Ob.prp_of T.l_Reserve T.p_Reserve_name T.y_Reserve_name (k_Envelope_name T)) (Ob.prps_cons (Ob.prp_of T.l_GoalReserve T.p_GoalReserve_name T.y_GoalReserve_name (k_Envelope_name T)) Ob.prps_nil)))) hr (Ob.x_var 5)))) (Ob.s_frz 3 (Ob.s_cons (Ob.s_if (PW.pt (Ob.w_or (Ob.t_cmp od_gt (Ob.x_lenD rfl T.n_len (Ob.x_var 2)) (Ob.x_p (Ob.x_cval T.v_Plan_MOST)) (nomark _)) (pw_or1 (Ob.t_cmp od_lt (Ob.x_lenSetS rfl T.n_len rfl T.n_set (Ob.x_p (x_var 3))) (Ob.x_p (x_callB cd_len rfl T.n_len PySem.boot_len (a_cons (x_var 3) a_nil))) (nomark _))))) (Ob.s_one (Ob.s_raise T.e_InvalidText rfl tk)) Ob.s_nil)
    (Ob.s_one (Ob.s_ret (Ob.x_makeVS (i := 0) (j := 3) (fun n => Ob.mkr_of T.g_Plan T.k_Plan T.y_Plan___init__ (k_Plan___init__ T n)) hr tk (Ob.x_var 2))))))))))
theorem k_Plan_read (T : Tx K mg) : Ob.Cal PW w K mg base 7 (Ob.Lo.ad K (.k "Plan" "read")) (Ob.spO K 2 F_Plan_read) := by
  obtain ⟨fd, F⟩ := T.d_Plan_read
  exact Ob.cal_of (fn_Plan_read T F) (FunD.bindsN (ps := ["cls", "text"]) F (fun _ _ _ _ _ _ us hl => match us, hl with | [_, _], _ => rfl))
theorem fn__law_envelopes_right (T : Tx K mg) {fd : FuncData} (F : FunD K "_law_envelopes_right" "_law_envelopes_right" (defArgs s__law_envelopes_right) (defBody s__law_envelopes_right) (defScope s__law_envelopes_right) [] [] (Ob.Lo.ad K (.g "_law_envelopes_right")) fd) : FnOk PW w K mg base (L2N.CX PW w) 8 (Ob.Lo.ad K (.g "_law_envelopes_right")) fd [] (Ob.spO K 0 F__law_envelopes_right) :=
  Ob.def_ok F sc__law_envelopes_right rfl rfl fun cdv A outer s H E hr tk =>
    (Ob.s_cons (Ob.s_if (PW.pt (Ob.w_or (Ob.t_cmp (od_ne hr.units) (Ob.x_meth (j := 4) (Ob.mets_cons (Ob.met_of T.l_Envelope T.m_Envelope_put T.y_Envelope_put (k_Envelope_put T)) (Ob.mets_cons (Ob.met_of T.l_Goal T.m_Goal_put T.y_Goal_put (k_Goal_put T)) (Ob.mets_cons (Ob.met_of T.l_Reserve T.m_Reserve_put T.y_Reserve_put (k_Envelope_put T)) (Ob.mets_cons (Ob.met_of T.l_GoalReserve T.m_GoalReserve_put T.y_GoalReserve_put (k_Goal_put T)) Ob.mets_nil)))) hr tk (Ob.x_make (j := 2) (Ob.mkr_of T.g_Envelope T.k_Envelope T.y_Envelope___init__ (k_Envelope___init__ T)) hr tk (Ob.a_p (a_cons x_str (a_cons x_int (a_cons x_int a_nil))))) (Ob.a_p (a_cons x_int a_nil))) (Ob.x_p x_int) (nomark _)) (pw_or1 (Ob.t_cmp (od_ne hr.units) (Ob.x_meth0 (j := 1) (Ob.mets_cons (Ob.met_of T.l_Envelope T.m_Envelope_text T.y_Envelope_text (k_Envelope_text T)) (Ob.mets_cons (Ob.met_of T.l_Goal T.m_Goal_text T.y_Goal_text (k_Envelope_text T)) (Ob.mets_cons (Ob.met_of T.l_Reserve T.m_Reserve_text T.y_Reserve_text (k_Envelope_text T)) (Ob.mets_cons (Ob.met_of T.l_GoalReserve T.m_GoalReserve_text T.y_GoalReserve_text (k_Envelope_text T)) Ob.mets_nil)))) hr tk (Ob.x_cm (j := 6) (Ob.cmt_of T.cm_Envelope_read T.g_Envelope (k_Envelope_read T)) hr tk (Ob.a_p (a_cons x_str a_nil)))) (Ob.x_p x_str) (nomark _))))) (Ob.s_one (Ob.s_ret (Ob.x_p x_bl))) Ob.s_nil)
    (Ob.s_cons (Ob.s_if (Ob.t_cmp od_isNot (Ob.x_prop (j := 1) (Ob.prps_cons (Ob.prp_of T.l_Goal T.p_Goal_reached T.y_Goal_reached (k_Goal_reached T)) (Ob.prps_cons (Ob.prp_of T.l_GoalReserve T.p_GoalReserve_reached T.y_GoalReserve_reached (k_Goal_reached T)) Ob.prps_nil)) hr (Ob.x_cm (j := 6) (Ob.cmt_of2 T.cm_Goal_read T.g_Goal T.yk_Goal_read (k_Envelope_read T)) hr tk (Ob.a_p (a_cons x_str a_nil)))) (Ob.x_p x_bl) (nomark _)) (Ob.s_one (Ob.s_ret (Ob.x_p x_bl))) Ob.s_nil)
    (Ob.s_cons (Ob.s_try (cs := ["NotEnough"]) ⟨T.g_NotEnough, (Ob.all_cons (of_decide_eq_true T.z_NotEnough_NotEnough) Ob.all_nil)⟩ tk (fun _ _ _ tk po => (Ob.s_cons (Ob.s_drop (Ob.x_meth (j := 4) (Ob.mets_cons (Ob.met_of T.l_Envelope T.m_Envelope_take T.y_Envelope_take (k_Envelope_take T)) (Ob.mets_cons (Ob.met_of T.l_Goal T.m_Goal_take T.y_Goal_take (k_Envelope_take T)) (Ob.mets_cons (Ob.met_of T.l_Reserve T.m_Reserve_take T.y_Reserve_take (k_Envelope_take T)) (Ob.mets_cons (Ob.met_of T.l_GoalReserve T.m_GoalReserve_take T.y_GoalReserve_take (k_Envelope_take T)) Ob.mets_nil)))) hr tk (Ob.x_make (j := 4) (Ob.mkr_of T.g_Goal T.k_Goal T.y_Goal___init__ (k_Goal___init___0 T)) hr tk (Ob.a_p (a_cons x_str (a_cons x_int (a_cons x_int a_nil))))) (Ob.a_p (a_cons x_int a_nil))))
    (Ob.s_one (Ob.s_ret (Ob.x_p x_bl))))) (fun _ _ _ hot => (Ob.s_one Ob.s_pass)))
    (Ob.s_cons (Ob.s_if (PW.pt (Ob.w_or (Ob.t_cmp (od_ne hr.units) (Ob.x_meth0 (j := 3) (Ob.mets_cons (Ob.met_of T.l_Envelope T.m_Envelope_free T.y_Envelope_free (k_Envelope_free T)) (Ob.mets_cons (Ob.met_of T.l_Goal T.m_Goal_free T.y_Goal_free (k_Goal_free T)) (Ob.mets_cons (Ob.met_of T.l_Reserve T.m_Reserve_free T.y_Reserve_free (k_Reserve_free T)) (Ob.mets_cons (Ob.met_of T.l_GoalReserve T.m_GoalReserve_free T.y_GoalReserve_free (k_Goal_free T)) Ob.mets_nil)))) hr tk (Ob.x_makeK (j := 3) (Ob.mkrK_of T.g_Reserve T.k_Reserve T.y_Reserve___init__ (k_Reserve___init___K T)) hr tk (Ob.a_p (a_cons x_str (a_cons x_int (a_cons x_int a_nil)))) (Ob.k_cons (Ob.x_p x_int) Ob.k_nil))) (Ob.x_p x_int) (nomark _)) (pw_or1 (Ob.t_cmp (od_ne hr.units) (Ob.x_meth0 (j := 3) (Ob.mets_cons (Ob.met_of T.l_Envelope T.m_Envelope_free T.y_Envelope_free (k_Envelope_free T)) (Ob.mets_cons (Ob.met_of T.l_Goal T.m_Goal_free T.y_Goal_free (k_Goal_free T)) (Ob.mets_cons (Ob.met_of T.l_Reserve T.m_Reserve_free T.y_Reserve_free (k_Reserve_free T)) (Ob.mets_cons (Ob.met_of T.l_GoalReserve T.m_GoalReserve_free T.y_GoalReserve_free (k_Goal_free T)) Ob.mets_nil)))) hr tk (Ob.x_makeK (j := 4) (Ob.mkrK_of T.g_GoalReserve T.k_GoalReserve T.y_GoalReserve___init__ (k_Goal___init___K T)) hr tk (Ob.a_p (a_cons x_str (a_cons x_int (a_cons x_int a_nil)))) (Ob.k_cons (Ob.x_p x_int) Ob.k_nil))) (Ob.x_p x_int) (nomark _))))) (Ob.s_one (Ob.s_ret (Ob.x_p x_bl))) Ob.s_nil)
    (Ob.s_cons (Ob.s_set 0 sc__law_envelopes_right.nd (Ob.x_cm (j := 7) (Ob.cmt_of T.cm_Plan_read T.g_Plan (k_Plan_read T)) hr tk (Ob.a_p (a_cons x_str a_nil))))
    (Ob.s_cons (Ob.s_if (PW.pt (Ob.w_or (Ob.t_cmp (od_ne hr.units) (Ob.x_meth (j := 5) (Ob.mets_cons (Ob.met_of T.l_Plan T.m_Plan_pour T.y_Plan_pour (k_Plan_pour T 3)) Ob.mets_nil) hr tk (Ob.x_var 0) (Ob.a_p (a_cons x_int (a_cons x_int (a_cons x_int a_nil))))) (Ob.x_p x_int) (nomark _)) (Ob.w_or (Ob.t_cmp (od_ne hr.units) (Ob.x_prop (j := 3) (Ob.prps_cons (Ob.prp_of T.l_Plan T.p_Plan_levels T.y_Plan_levels (k_Plan_levels T)) Ob.prps_nil) hr (Ob.x_var 0)) (Ob.x_p (x_tup (a_cons x_int (a_cons x_int a_nil)))) (nomark _)) (pw_or1 (Ob.t_cmp (od_ne hr.units) (Ob.x_prop (j := 1) (Ob.prps_cons (Ob.prp_of T.l_Plan T.p_Plan_lost T.y_Plan_lost (k_Plan_lost T)) Ob.prps_nil) hr (Ob.x_var 0)) (Ob.x_p x_int) (nomark _)))))) (Ob.s_one (Ob.s_ret (Ob.x_p x_bl))) Ob.s_nil)
    (Ob.s_cons (Ob.s_set 0 sc__law_envelopes_right.nd (Ob.x_cm (j := 7) (Ob.cmt_of T.cm_Plan_read T.g_Plan (k_Plan_read T)) hr tk (Ob.a_p (a_cons x_str a_nil))))
    (Ob.s_one (Ob.s_try (cs := ["NotEnough"]) ⟨T.g_NotEnough, (Ob.all_cons (of_decide_eq_true T.z_NotEnough_NotEnough) Ob.all_nil)⟩ tk (fun _ _ _ tk po => (Ob.s_cons (Ob.s_drop (Ob.x_methK (j := 4) (ks := ["rent", "food"]) (Ob.metsK_cons (Ob.metK_of (ks := ["rent", "food"]) T.l_Plan T.m_Plan_spend T.y_Plan_spend (k_Plan_spend T)) Ob.metsK_nil) hr tk (Ob.x_var 0) (Ob.k_cons (Ob.x_p x_int) (Ob.k_cons (Ob.x_p x_int) Ob.k_nil))))
    (Ob.s_one (Ob.s_ret (Ob.x_p x_bl))))) (fun _ _ _ hot => (Ob.s_one (Ob.s_ret (Ob.x_cmp (od_eq hr.units) (Ob.x_propH (j := 3) (Ob.prpsH_cons (Ob.prpH_of T.l_Plan T.p_Plan_levels T.y_Plan_levels (kH_Plan_levels T)) Ob.prpsH_nil) (Ob.roomS hr) hot (Ob.x_var 0)) (Ob.x_p (x_tup (a_cons x_int (a_cons x_int a_nil)))) (nomark _))))))))))))))
theorem k__law_envelopes_right_c (T : Tx K mg) : Ob.Cal PW w K mg base 8 (Ob.Lo.ad K (.g "_law_envelopes_right")) (Ob.spO K 0 F__law_envelopes_right) := by
  obtain ⟨fd, F⟩ := T.d__law_envelopes_right
  exact Ob.cal_of (fn__law_envelopes_right T F) (FunD.bindsN (ps := []) F (fun _ _ _ _ _ _ us hl => match us, hl with | [], _ => rfl))
theorem k__law_envelopes_right (T : Tx K mg) : Ob.Kn PW w K mg base 8 "_law_envelopes_right" 0 F__law_envelopes_right := by
  obtain ⟨fd, F⟩ := T.d__law_envelopes_right
  exact ⟨_, k__law_envelopes_right_c T, T.g__law_envelopes_right, F.kp⟩
end
/-! ### the head -/
theorem tx {K : PySem.W.Frag} {h : Heap} {mg : Str → Option Value} (X : K.In h) (G : h.Ns mainGlobals mg) (c : Ob.SaysO file ck df K) : Tx K mg where
  n_all := He.free_ok X G ((c.fact 0 rfl))
  n_any := He.free_ok X G ((c.fact 1 rfl))
  n_bool := He.free_ok X G ((c.fact 2 rfl))
  n_enumerate := He.free_ok X G ((c.fact 3 rfl))
  n_int := He.free_ok X G ((c.fact 4 rfl))
  n_isinstance := He.free_ok X G ((c.fact 5 rfl))
  n_len := He.free_ok X G ((c.fact 6 rfl))
  n_list := He.free_ok X G ((c.fact 7 rfl))
  n_max := He.free_ok X G ((c.fact 8 rfl))
  n_min := He.free_ok X G ((c.fact 9 rfl))
  n_range := He.free_ok X G ((c.fact 10 rfl))
  n_set := He.free_ok X G ((c.fact 11 rfl))
  n_sorted := He.free_ok X G ((c.fact 12 rfl))
  n_str := He.free_ok X G ((c.fact 13 rfl))
  n_sum := He.free_ok X G ((c.fact 14 rfl))
  n_tuple := He.free_ok X G ((c.fact 15 rfl))
  n_zip := He.free_ok X G ((c.fact 16 rfl))
  g__law_cell := He.glo_ok X G (c.fact 17 rfl)
  g_all_levels := He.glo_ok X G (c.fact 18 rfl)
  g_poured := He.glo_ok X G (c.fact 19 rfl)
  g_first_sums := He.glo_ok X G (c.fact 20 rfl)
  g_commute := He.glo_ok X G (c.fact 21 rfl)
  g_largest_amount := He.glo_ok X G (c.fact 22 rfl)
  g_with_amount := He.glo_ok X G (c.fact 23 rfl)
  g_shortest_script := He.glo_ok X G (c.fact 24 rfl)
  g_is_number_text := He.glo_ok X G (c.fact 25 rfl)
  g_is_integer := He.glo_ok X G (c.fact 26 rfl)
  g__law_digits := He.glo_ok X G (c.fact 27 rfl)
  g_run := He.glo_ok X G (c.fact 28 rfl)
  g_prefix_effects := He.glo_ok X G (c.fact 29 rfl)
  g_fewest_steps := He.glo_ok X G (c.fact 30 rfl)
  g_check_amount := He.glo_ok X G (c.fact 31 rfl)
  g_same_results := He.glo_ok X G (c.fact 32 rfl)
  g_least_starts := He.glo_ok X G (c.fact 33 rfl)
  g_least_pour := He.glo_ok X G (c.fact 34 rfl)
  g_largest_spending := He.glo_ok X G (c.fact 35 rfl)
  g_judged := He.glo_ok X G (c.fact 36 rfl)
  g_first_amount := He.glo_ok X G (c.fact 37 rfl)
  g_fitting_amounts := He.glo_ok X G (c.fact 38 rfl)
  g__law_rows_right := He.glo_ok X G (c.fact 39 rfl)
  g__law_envelopes_right := He.glo_ok X G (c.fact 40 rfl)
  g_law := He.glo_ok X G (c.fact 41 rfl)
  g_Envelope := He.glo_ok X G (c.fact 42 rfl)
  g_Goal := He.glo_ok X G (c.fact 43 rfl)
  g_GoalReserve := He.glo_ok X G (c.fact 44 rfl)
  g_InvalidAmount := He.glo_ok X G (c.fact 45 rfl)
  g_InvalidCap := He.glo_ok X G (c.fact 46 rfl)
  g_InvalidEnvelopes := He.glo_ok X G (c.fact 47 rfl)
  g_InvalidFloor := He.glo_ok X G (c.fact 48 rfl)
  g_InvalidLevel := He.glo_ok X G (c.fact 49 rfl)
  g_InvalidName := He.glo_ok X G (c.fact 50 rfl)
  g_InvalidText := He.glo_ok X G (c.fact 51 rfl)
  g_NotEnough := He.glo_ok X G (c.fact 52 rfl)
  g_Plan := He.glo_ok X G (c.fact 53 rfl)
  g_Reserve := He.glo_ok X G (c.fact 54 rfl)
  g_UnknownEnvelope := He.glo_ok X G (c.fact 55 rfl)
  c_FIGURES := He.str_ok X G (c.fact 56 rfl)
  c_LETTERS := He.str_ok X G (c.fact 57 rfl)
  l_Envelope := (c.fact 58 rfl)
  l_Goal := (c.fact 59 rfl)
  l_GoalReserve := (c.fact 60 rfl)
  l_Plan := (c.fact 61 rfl)
  l_Reserve := (c.fact 62 rfl)
  m_Envelope_free := (c.fact 63 rfl)
  m_Envelope_put := (c.fact 64 rfl)
  m_Envelope_take := (c.fact 65 rfl)
  m_Envelope_text := (c.fact 66 rfl)
  m_Goal_free := (c.fact 67 rfl)
  m_Goal_put := (c.fact 68 rfl)
  m_Goal_take := (c.fact 69 rfl)
  m_Goal_text := (c.fact 70 rfl)
  m_GoalReserve_free := (c.fact 71 rfl)
  m_GoalReserve_put := (c.fact 72 rfl)
  m_GoalReserve_take := (c.fact 73 rfl)
  m_GoalReserve_text := (c.fact 74 rfl)
  m_Plan_envelope := (c.fact 75 rfl)
  m_Plan_pour := (c.fact 76 rfl)
  m_Plan_spend := (c.fact 77 rfl)
  m_Reserve_free := (c.fact 78 rfl)
  m_Reserve_put := (c.fact 79 rfl)
  m_Reserve_take := (c.fact 80 rfl)
  m_Reserve_text := (c.fact 81 rfl)
  p_Envelope_level := (c.fact 82 rfl)
  p_Envelope_name := (c.fact 83 rfl)
  p_Goal_level := (c.fact 84 rfl)
  p_Goal_name := (c.fact 85 rfl)
  p_Goal_reached := (c.fact 86 rfl)
  p_GoalReserve_level := (c.fact 87 rfl)
  p_GoalReserve_name := (c.fact 88 rfl)
  p_GoalReserve_reached := (c.fact 89 rfl)
  p_Plan_levels := (c.fact 90 rfl)
  p_Plan_lost := (c.fact 91 rfl)
  p_Reserve_level := (c.fact 92 rfl)
  p_Reserve_name := (c.fact 93 rfl)
  y_Envelope___init__ := (c.fact 94 rfl)
  y_Envelope_free := (c.fact 95 rfl)
  y_Envelope_level := (c.fact 96 rfl)
  y_Envelope_name := (c.fact 97 rfl)
  y_Envelope_put := (c.fact 98 rfl)
  y_Envelope_take := (c.fact 99 rfl)
  y_Envelope_text := (c.fact 100 rfl)
  y_Goal___init__ := (c.fact 101 rfl)
  y_Goal_free := (c.fact 102 rfl)
  y_Goal_level := (c.fact 103 rfl)
  y_Goal_name := (c.fact 104 rfl)
  y_Goal_put := (c.fact 105 rfl)
  y_Goal_reached := (c.fact 106 rfl)
  y_Goal_take := (c.fact 107 rfl)
  y_Goal_text := (c.fact 108 rfl)
  y_GoalReserve___init__ := (c.fact 109 rfl)
  y_GoalReserve_free := (c.fact 110 rfl)
  y_GoalReserve_level := (c.fact 111 rfl)
  y_GoalReserve_name := (c.fact 112 rfl)
  y_GoalReserve_put := (c.fact 113 rfl)
  y_GoalReserve_reached := (c.fact 114 rfl)
  y_GoalReserve_take := (c.fact 115 rfl)
  y_GoalReserve_text := (c.fact 116 rfl)
  y_Plan___init__ := (c.fact 117 rfl)
  y_Plan_envelope := (c.fact 118 rfl)
  y_Plan_levels := (c.fact 119 rfl)
  y_Plan_lost := (c.fact 120 rfl)
  y_Plan_pour := (c.fact 121 rfl)
  y_Plan_spend := (c.fact 122 rfl)
  y_Reserve___init__ := (c.fact 123 rfl)
  y_Reserve_free := (c.fact 124 rfl)
  y_Reserve_level := (c.fact 125 rfl)
  y_Reserve_name := (c.fact 126 rfl)
  y_Reserve_put := (c.fact 127 rfl)
  y_Reserve_take := (c.fact 128 rfl)
  y_Reserve_text := (c.fact 129 rfl)
  z_NotEnough_NotEnough := (c.fact 130 rfl)
  k_Envelope := (c.fact 131 rfl)
  k_Goal := (c.fact 132 rfl)
  k_GoalReserve := (c.fact 133 rfl)
  k_Plan := (c.fact 134 rfl)
  k_Reserve := (c.fact 135 rfl)
  u_Goal_Goal___init__ := (c.fact 136 rfl)
  w_Goal_Goal___init__ := (c.fact 137 rfl)
  u_Goal_Goal_free := (c.fact 138 rfl)
  w_Goal_Goal_free := (c.fact 139 rfl)
  u_Goal_Goal_put := (c.fact 140 rfl)
  w_Goal_Goal_put := (c.fact 141 rfl)
  u_GoalReserve_Goal___init__ := (c.fact 142 rfl)
  w_GoalReserve_Goal___init__ := (c.fact 143 rfl)
  u_GoalReserve_Goal_free := (c.fact 144 rfl)
  w_GoalReserve_Goal_free := (c.fact 145 rfl)
  u_GoalReserve_Goal_put := (c.fact 146 rfl)
  w_GoalReserve_Goal_put := (c.fact 147 rfl)
  u_GoalReserve_Reserve___init__ := (c.fact 148 rfl)
  w_GoalReserve_Reserve___init__ := (c.fact 149 rfl)
  u_GoalReserve_Reserve_free := (c.fact 150 rfl)
  w_GoalReserve_Reserve_free := (c.fact 151 rfl)
  u_Reserve_Reserve___init__ := (c.fact 152 rfl)
  w_Reserve_Reserve___init__ := (c.fact 153 rfl)
  u_Reserve_Reserve_free := (c.fact 154 rfl)
  w_Reserve_Reserve_free := (c.fact 155 rfl)
  e_InvalidAmount := Ob.err_of (X := h) (He.glo_ok X G (c.fact 45 rfl)) (c.fact 156 rfl)
  e_InvalidCap := Ob.err_of (X := h) (He.glo_ok X G (c.fact 46 rfl)) (c.fact 157 rfl)
  e_InvalidEnvelopes := Ob.err_of (X := h) (He.glo_ok X G (c.fact 47 rfl)) (c.fact 158 rfl)
  e_InvalidFloor := Ob.err_of (X := h) (He.glo_ok X G (c.fact 48 rfl)) (c.fact 159 rfl)
  e_InvalidLevel := Ob.err_of (X := h) (He.glo_ok X G (c.fact 49 rfl)) (c.fact 160 rfl)
  e_InvalidName := Ob.err_of (X := h) (He.glo_ok X G (c.fact 50 rfl)) (c.fact 161 rfl)
  e_InvalidText := Ob.err_of (X := h) (He.glo_ok X G (c.fact 51 rfl)) (c.fact 162 rfl)
  e_NotEnough := Ob.err_of (X := h) (He.glo_ok X G (c.fact 52 rfl)) (c.fact 163 rfl)
  e_UnknownEnvelope := Ob.err_of (X := h) (He.glo_ok X G (c.fact 55 rfl)) (c.fact 164 rfl)
  v_Envelope_LARGEST := Ob.cval_of (c.fact 165 rfl) (He.glo_ok X G (c.fact 42 rfl))
  v_Plan_MOST := Ob.cval_of (c.fact 166 rfl) (He.glo_ok X G (c.fact 53 rfl))
  t_Envelope_is_name := (c.fact 167 rfl)
  cm_Envelope_read := (c.fact 168 rfl)
  yk_Goal_read := (c.fact 169 rfl)
  cm_Goal_read := (c.fact 170 rfl)
  cm_Plan_read := (c.fact 171 rfl)
  a_Env_done := Ob.noa_of (Ob.all_cons ⟨c.fact 58 rfl, c.fact 172 rfl⟩ (Ob.all_cons ⟨c.fact 59 rfl, c.fact 173 rfl⟩ (Ob.all_cons ⟨c.fact 62 rfl, c.fact 174 rfl⟩ (Ob.all_cons ⟨c.fact 60 rfl, c.fact 175 rfl⟩ Ob.all_nil))))
  a_Env_ground := Ob.noa_of (Ob.all_cons ⟨c.fact 58 rfl, c.fact 176 rfl⟩ (Ob.all_cons ⟨c.fact 59 rfl, c.fact 177 rfl⟩ (Ob.all_cons ⟨c.fact 62 rfl, c.fact 178 rfl⟩ (Ob.all_cons ⟨c.fact 60 rfl, c.fact 179 rfl⟩ Ob.all_nil))))
  a_Env_held := Ob.noa_of (Ob.all_cons ⟨c.fact 58 rfl, c.fact 180 rfl⟩ (Ob.all_cons ⟨c.fact 59 rfl, c.fact 181 rfl⟩ (Ob.all_cons ⟨c.fact 62 rfl, c.fact 182 rfl⟩ (Ob.all_cons ⟨c.fact 60 rfl, c.fact 183 rfl⟩ Ob.all_nil))))
  a_Env_label := Ob.noa_of (Ob.all_cons ⟨c.fact 58 rfl, c.fact 184 rfl⟩ (Ob.all_cons ⟨c.fact 59 rfl, c.fact 185 rfl⟩ (Ob.all_cons ⟨c.fact 62 rfl, c.fact 186 rfl⟩ (Ob.all_cons ⟨c.fact 60 rfl, c.fact 187 rfl⟩ Ob.all_nil))))
  a_Env_limit := Ob.noa_of (Ob.all_cons ⟨c.fact 58 rfl, c.fact 188 rfl⟩ (Ob.all_cons ⟨c.fact 59 rfl, c.fact 189 rfl⟩ (Ob.all_cons ⟨c.fact 62 rfl, c.fact 190 rfl⟩ (Ob.all_cons ⟨c.fact 60 rfl, c.fact 191 rfl⟩ Ob.all_nil))))
  a_Plan_gone := Ob.noa_of (Ob.all_cons ⟨c.fact 61 rfl, c.fact 192 rfl⟩ Ob.all_nil)
  a_Plan_row := Ob.noa_of (Ob.all_cons ⟨c.fact 61 rfl, c.fact 193 rfl⟩ Ob.all_nil)
  i_Envelope := Ob.isC_of (He.glo_ok X G (c.fact 42 rfl)) (c.fact 195 rfl) (c.fact 194 rfl) (Ob.all_cons ⟨c.fact 58 rfl, c.fact 196 rfl⟩ (Ob.all_cons ⟨c.fact 59 rfl, c.fact 197 rfl⟩ (Ob.all_cons ⟨c.fact 62 rfl, c.fact 198 rfl⟩ (Ob.all_cons ⟨c.fact 60 rfl, c.fact 199 rfl⟩ (Ob.all_cons ⟨c.fact 61 rfl, c.fact 200 rfl⟩ Ob.all_nil)))))
  sup := He.free_ok X G (c.fact 201 rfl)
  cst := of_decide_eq_true (c.fact 202 rfl)
  d__law_cell := c.def_ 0 (d := dd__law_cell) rfl rfl
  d_all_levels := c.def_ 1 (d := dd_all_levels) rfl rfl
  d_poured := c.def_ 2 (d := dd_poured) rfl rfl
  d_first_sums := c.def_ 3 (d := dd_first_sums) rfl rfl
  d_commute := c.def_ 4 (d := dd_commute) rfl rfl
  d_largest_amount := c.def_ 5 (d := dd_largest_amount) rfl rfl
  d_with_amount := c.def_ 6 (d := dd_with_amount) rfl rfl
  d_shortest_script := c.def_ 7 (d := dd_shortest_script) rfl rfl
  d_is_number_text := c.def_ 8 (d := dd_is_number_text) rfl rfl
  d_Envelope_is_name := c.def_ 9 (d := dd_Envelope_is_name) rfl rfl
  d_is_integer := c.def_ 10 (d := dd_is_integer) rfl rfl
  d_Envelope_text := c.def_ 11 (d := dd_Envelope_text) rfl rfl
  d_Goal_reached := c.def_ 12 (d := dd_Goal_reached) rfl rfl
  d_Envelope_free := c.def_ 13 (d := dd_Envelope_free) rfl rfl
  d_Envelope_name := c.def_ 14 (d := dd_Envelope_name) rfl rfl
  d_Plan_lost := c.def_ 15 (d := dd_Plan_lost) rfl rfl
  d_Envelope_level := c.def_ 16 (d := dd_Envelope_level) rfl rfl
  d__law_digits := c.def_ 17 (d := dd__law_digits) rfl rfl
  d_run := c.def_ 18 (d := dd_run) rfl rfl
  d_prefix_effects := c.def_ 19 (d := dd_prefix_effects) rfl rfl
  d_fewest_steps := c.def_ 20 (d := dd_fewest_steps) rfl rfl
  d_Envelope___init__ := c.def_ 21 (d := dd_Envelope___init__) rfl rfl
  d_check_amount := c.def_ 22 (d := dd_check_amount) rfl rfl
  d_Reserve_free := c.defS 23 (d := dd_Reserve_free) rfl rfl
  d_same_results := c.def_ 24 (d := dd_same_results) rfl rfl
  d_least_starts := c.def_ 25 (d := dd_least_starts) rfl rfl
  d_least_pour := c.def_ 26 (d := dd_least_pour) rfl rfl
  d_largest_spending := c.def_ 27 (d := dd_largest_spending) rfl rfl
  d_judged := c.def_ 28 (d := dd_judged) rfl rfl
  d_Reserve___init__ := c.defS 29 (d := dd_Reserve___init__) rfl rfl
  d_Envelope_put := c.def_ 30 (d := dd_Envelope_put) rfl rfl
  d_Goal_free := c.defS 31 (d := dd_Goal_free) rfl rfl
  d_Plan___init__ := c.def_ 32 (d := dd_Plan___init__) rfl rfl
  d_Plan_levels := c.def_ 33 (d := dd_Plan_levels) rfl rfl
  d_Plan_envelope := c.def_ 34 (d := dd_Plan_envelope) rfl rfl
  d_first_amount := c.def_ 35 (d := dd_first_amount) rfl rfl
  d_Goal___init__ := c.defS 36 (d := dd_Goal___init__) rfl rfl
  d_Goal_put := c.defS 37 (d := dd_Goal_put) rfl rfl
  d_Envelope_take := c.def_ 38 (d := dd_Envelope_take) rfl rfl
  d_Plan_spend := c.def_ 39 (d := dd_Plan_spend) rfl rfl
  d_fitting_amounts := c.def_ 40 (d := dd_fitting_amounts) rfl rfl
  d_Plan_pour := c.def_ 41 (d := dd_Plan_pour) rfl rfl
  d__law_rows_right := c.def_ 42 (d := dd__law_rows_right) rfl rfl
  d_Envelope_read := c.def_ 43 (d := dd_Envelope_read) rfl rfl
  d_Plan_read := c.def_ 44 (d := dd_Plan_read) rfl rfl
  d__law_envelopes_right := c.def_ 45 (d := dd__law_envelopes_right) rfl rfl
  d_law := c.def_ 46 (d := dd_law) rfl rfl
theorem facts {w : World} {K : PySem.W.Frag} {h : Heap} {mg : Str → Option Value} {f : Addr} (X : K.In h) (G : h.Ns mainGlobals mg) (hfa : mg ("law" : Str) = some (.ref f)) (c : Ob.SaysO file ck df K) :
    ∃ fd : FuncData, (∀ (s : Shared) (v : Value), BindsTo s fd ⟨[v], []⟩ [("script", v)]) ∧ ∀ base : Heap, K.In base → base.Ns mainGlobals mg → FnOk PW w K mg base (L2N.CX PW w) 9 f fd ["script"] (Ob.spO K 1 F_law) := by
  have T := tx X G c
  obtain ⟨fd, F⟩ := T.d_law
  have e := hfa.symm.trans T.g_law
  cases e
  have b := FunD.bindsA (ps := ["script"]) F fun _ _ _ _ _ _ us hl => match us, hl with | [_], _ => rfl
  refine ⟨fd, fun s v => b s [v] rfl, fun base _ _ => ?_⟩
  exact Ob.def_ok F sc_law rfl rfl fun cdv A outer s H E hr tk =>
    (Ob.s_cons (Ob.s_set 1 sc_law.nd (Ob.x_p (x_L (l_fn (k__law_digits T) hr (a_cons (x_var 0) (a_cons x_int (a_cons x_int (a_cons x_int a_nil)))) (ln_cons (ln_cons (ln_cons (ln_cons ln_nil))))))))
    (Ob.s_cons (Ob.s_if (Ob.t_p (t_cmp od_isNot (x_fn (k_same_results T) hr (a_cons (x_tup (a_cons x_int (a_cons x_int a_nil))) (a_cons (x_tup (a_cons (x_tup (a_cons x_str (a_cons x_int a_nil))) (a_cons (x_tup (a_cons x_str (a_cons x_int a_nil))) a_nil))) (a_cons (x_tup (a_cons (x_tup (a_cons x_str (a_cons x_int a_nil))) a_nil)) a_nil))) (ln_cons (ln_cons (ln_cons ln_nil)))) x_bl (nomark _))) (Ob.s_one (Ob.s_ret (Ob.x_p x_bl))) Ob.s_nil)
    (Ob.s_cons (Ob.s_if (Ob.t_p (t_cmp (od_ne hr.units) (x_L (l_fn (k_least_starts T) hr (a_cons (x_tup (a_cons x_int (a_cons x_int a_nil))) (a_cons (x_tup (a_cons (x_tup (a_cons x_str (a_cons x_int a_nil))) (a_cons (x_tup (a_cons x_str (a_cons x_int (a_cons x_int a_nil)))) a_nil))) a_nil)) (ln_cons (ln_cons ln_nil)))) (x_L (l_lst (a_cons (x_tup (a_cons x_int (a_cons x_int a_nil))) (a_cons (x_tup (a_cons x_int (a_cons x_int a_nil))) a_nil)))) (nomark _))) (Ob.s_one (Ob.s_ret (Ob.x_p x_bl))) Ob.s_nil)
    (Ob.s_one (Ob.s_ret (Ob.x_and (Ob.x_fn0 (k__law_envelopes_right T) hr tk) (Ob.x_and (Ob.x_p (x_fn (k__law_rows_right T) hr (a_cons x_int a_nil) (ln_cons ln_nil))) (Ob.x_one (Ob.x_p (x_fn (k__law_rows_right T) hr (a_cons (x_bin od_add x_int (x_ix (x_var 1) x_int (fun _ _ => rfl))) a_nil) (ln_cons ln_nil)))))))))))
end Lw
open PySem PySem.W PySem.Calls PyProof.Rows
set_option maxRecDepth 100000 in
set_option maxHeartbeats 0 in
theorem PySem.Challenge.cw_fillorder_k24_worked_examples_holds : PySem.Challenge.rw_fillorder_k24_worked_examples.Holds := by
  w_on; o_law
  refine HandSHeadRun.head_any (r := OpenLaw.row PySem.Challenge.rw_fillorder_k24_worked_examples) (q := view (OpenLaw.row PySem.Challenge.rw_fillorder_k24_worked_examples).prog [48]) (H := Lw.hk) (ob := Lw.ob) (M := 20000) (loose := Lw.loose) (d := HandSHeadRun.topDef (OpenLaw.row PySem.Challenge.rw_fillorder_k24_worked_examples).prog 48) (kwd := []) Lw.ob_eq
    (by kernel_rfl) (fun s => by kernel_rfl) Lw.run (by kernel_rfl) (by kernel_rfl) (by kernel_rfl) (by rfl) (by first | assumption | decide +kernel) (by decide +kernel) ⟨rfl, rfl, rfl, rfl, rfl, by decide +kernel⟩ ?hw ?hc
  case hw => w_witness2
  case hc =>
    refine L2.walk_ofE (l := PySem.Challenge.rw_fillorder_k24_worked_examples) (n := 63) (k := 9) (x := "script") (CX := L2.CX0) rfl (by decide) (by kernel_rfl) ⟨rfl, by decide, by decide⟩ ?F (fun _ _ _ _ z => z)
    intro w mg fa h Y G hmg0
    obtain ⟨K, KX, c⟩ := Y
    have hmg : mg ("law" : PySem.Str) = some (.ref fa) := by
      have e : (HandSHeadRun.topDef (OpenLaw.row PySem.Challenge.rw_fillorder_k24_worked_examples).prog 48).name = ("law" : PySem.Str) := by kernel_rfl
      rw [← e]
      exact hmg0
    obtain ⟨fd, hb, hF⟩ := Lw.facts (w := w) KX G hmg c
    exact ⟨K, fd, Ob.spNo (Ob.spO K 1 Lw.F_law), KX, hb, fun H a ns hl _ hS => let ⟨st, e⟩ := Lw.law_true ns hl; Ob.law_spO hS e, fun base hK hG => Ob.no_exc (hF base hK hG)⟩
