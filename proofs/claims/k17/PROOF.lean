import PyProof.Rows.All
import Wide.All
import OpenK.AllK
import Wide.FinOn
import HandS.ForMost
import HandS.TupAny
import HandS.TupMul
import HandS.IsInst
import HandS.Conv
import HandS.SortInts
import KE.DataEq
import HandS.Walk
import HandS.Zip
import KE.GoesEnum
import KE.GoesMore
import HandS.Style
import HandS.SortRule
import HandS.Star
import KE.KDictKeyed
import KE.DataFind
import KE.DatumOrd
import HandS.DictComp
import HandS.Text
import KE.KDictZip
import KE.GoesZip
import PySem.Challenge.RW_botheither_k17_whole_rules_of_both_and_e
set_option Elab.async false
set_option linter.all false
set_option maxRecDepth 100000
/-! DA: data without addresses (D), how the abstract heap bears it (Rep), states, what a step keeps -/
namespace DL
open PySem L2

/-- a value with all that it holds; adr: an address that is told by itself (a class, a def, a changing object) -/
inductive D where
  | non
  | bl (b : Bool)
  | int (i : Int)
  | str (s : Str)
  | adr (a : Addr)
  | ty (n : String)
  | tup (xs : List D)
  | wt (xs : List D)
  | lst (xs : List D)
  | dk (ks : List Key) (xs : List D)
  | dt (ks : List (List Key)) (xs : List D)
  | ins (C : Addr) (ns : List Str) (xs : List D)

/-- a tuple of the written part -/
def WT (K : PySem.W.Frag) (a : Addr) (xs : List V) : Prop :=
  ∃ (o : Obj) (its : Array Value) (n : Nat), K.lookup a = some o ∧ o.cls = .type "tuple" ∧ o.data = .seq its n ∧ its.size ≤ sizeLine ∧ Vals xs its.toList

mutual
def Rep (K : PySem.W.Frag) (H : Hp) (B : Addr → Prop) : D → V → Prop
  | .non, v => v = .non
  | .bl b, v => v = .bl b
  | .int i, v => v = .int i
  | .str s, v => v = .str s
  | .adr a, v => v = .ref a
  | .ty n, v => v = .ty n
  | .tup xs, v => ∃ a vs, v = .ref a ∧ xs.length ≤ sizeLine ∧ (¬ B a ∧ H a = some (.tup vs)) ∧ RepL K H B xs vs
  | .wt xs, v => ∃ a vs, v = .ref a ∧ xs.length ≤ sizeLine ∧ WT K a vs ∧ RepL K H B xs vs
  | .lst xs, v => ∃ a vs, v = .ref a ∧ xs.length ≤ sizeLine ∧ (¬ B a ∧ H a = some (.lst vs)) ∧ RepL K H B xs vs
  | .dk ks xs, v => ∃ a kvs, v = .ref a ∧ xs.length ≤ sizeLine ∧ (¬ B a ∧ H a = some (.dK kvs)) ∧ kvs.map (·.1) = ks ∧ RepL K H B xs (kvs.map (·.2))
  | .dt ks xs, v => ∃ a kvs, v = .ref a ∧ xs.length ≤ sizeLine ∧ (¬ B a ∧ H a = some (.dT kvs)) ∧ kvs.map (·.1) = ks ∧ RepL K H B xs (kvs.map (·.2))
  | .ins C ns xs, v => ∃ a dx fs, v = .ref a ∧ (¬ B a ∧ H a = some (.ins C dx fs)) ∧ fs.map (·.1) = ns ∧ RepL K H B xs (fs.map (·.2))
def RepL (K : PySem.W.Frag) (H : Hp) (B : Addr → Prop) : List D → List V → Prop
  | [], vs => vs = []
  | x :: xs, vs => ∃ v r, vs = v :: r ∧ Rep K H B x v ∧ RepL K H B xs r
end

section
variable {K : PySem.W.Frag} {H H' : Hp} {B B' : Addr → Prop}

mutual
/-- what is borne stays borne where its objects stand and nothing of them comes under the ban -/
theorem Rep.keep (k : ∀ a o, ¬ B a → H a = some o → H' a = some o ∧ ¬ B' a) : ∀ {d : D} {v : V}, Rep K H B d v → Rep K H' B' d v
  | .non, _, h => h
  | .bl _, _, h => h
  | .int _, _, h => h
  | .str _, _, h => h
  | .adr _, _, h => h
  | .ty _, _, h => h
  | .tup xs, v, h => by
    obtain ⟨a, vs, e, z, ⟨n, e1⟩, h2⟩ := h
    exact ⟨a, vs, e, z, ⟨(k a _ n e1).2, (k a _ n e1).1⟩, RepL.keep k h2⟩
  | .wt xs, v, h => by
    obtain ⟨a, vs, e, z, w, h2⟩ := h
    exact ⟨a, vs, e, z, w, RepL.keep k h2⟩
  | .lst xs, v, h => by
    obtain ⟨a, vs, e, z, ⟨n, e1⟩, h2⟩ := h
    exact ⟨a, vs, e, z, ⟨(k a _ n e1).2, (k a _ n e1).1⟩, RepL.keep k h2⟩
  | .dk ks xs, v, h => by
    obtain ⟨a, vs, e, z, ⟨n, e1⟩, h2, h3⟩ := h
    exact ⟨a, vs, e, z, ⟨(k a _ n e1).2, (k a _ n e1).1⟩, h2, RepL.keep k h3⟩
  | .dt ks xs, v, h => by
    obtain ⟨a, vs, e, z, ⟨n, e1⟩, h2, h3⟩ := h
    exact ⟨a, vs, e, z, ⟨(k a _ n e1).2, (k a _ n e1).1⟩, h2, RepL.keep k h3⟩
  | .ins C ns xs, v, h => by
    obtain ⟨a, dx, vs, e, ⟨n, e1⟩, h2, h3⟩ := h
    exact ⟨a, dx, vs, e, ⟨(k a _ n e1).2, (k a _ n e1).1⟩, h2, RepL.keep k h3⟩
theorem RepL.keep (k : ∀ a o, ¬ B a → H a = some o → H' a = some o ∧ ¬ B' a) : ∀ {ds : List D} {vs : List V}, RepL K H B ds vs → RepL K H' B' ds vs
  | [], _, h => h
  | d :: ds, vs, h => by
    obtain ⟨v, r, e, h1, h2⟩ := h
    exact ⟨v, r, e, Rep.keep k h1, RepL.keep k h2⟩
end

theorem RepL.len : ∀ {ds : List D} {vs : List V}, RepL K H B ds vs → vs.length = ds.length
  | [], vs, h => by
    have e : vs = [] := h
    rw [e]; rfl
  | d :: ds, vs, h => by
    obtain ⟨v, r, e, _, h2⟩ := h
    rw [e, List.length_cons, List.length_cons, RepL.len h2]
theorem RepL.nil : RepL K H B [] [] := rfl
theorem RepL.cons {d : D} {ds : List D} {v : V} {vs : List V} (h : Rep K H B d v) (t : RepL K H B ds vs) : RepL K H B (d :: ds) (v :: vs) := ⟨v, vs, rfl, h, t⟩
theorem RepL.app : ∀ {ds es : List D} {vs ws : List V}, RepL K H B ds vs → RepL K H B es ws → RepL K H B (ds ++ es) (vs ++ ws)
  | [], es, vs, ws, h, h' => by
    have e : vs = [] := h
    subst e; exact h'
  | d :: ds, es, vs, ws, h, h' => by
    obtain ⟨v, r, e, h1, h2⟩ := h
    subst e
    exact ⟨v, r ++ ws, rfl, h1, RepL.app h2 h'⟩
theorem RepL.get : ∀ {ds : List D} {vs : List V} {i : Nat} {d : D}, RepL K H B ds vs → ds[i]? = some d → ∃ v, vs[i]? = some v ∧ Rep K H B d v
  | [], vs, i, d, h, e => by simp at e
  | x :: ds, vs, 0, d, h, e => by
    obtain ⟨v, r, rfl, h1, h2⟩ := h
    simp at e; subst e
    exact ⟨v, rfl, h1⟩
  | x :: ds, vs, i + 1, d, h, e => by
    obtain ⟨v, r, rfl, h1, h2⟩ := h
    obtain ⟨w, e1, h3⟩ := RepL.get (i := i) (d := d) h2 (by simpa using e)
    exact ⟨w, by simpa using e1, h3⟩
theorem RepL.getV {ds : List D} {vs : List V} {i : Nat} {v : V} (h : RepL K H B ds vs) (e : vs[i]? = some v) : ∃ d, ds[i]? = some d ∧ Rep K H B d v := by
  have hl := h.len
  have hi : i < ds.length := by
    have := (List.getElem?_eq_some_iff.mp e).1
    omega
  obtain ⟨w, e1, h1⟩ := h.get (List.getElem?_eq_getElem hi)
  rw [e] at e1
  cases e1
  exact ⟨_, List.getElem?_eq_getElem hi, h1⟩
theorem RepL.take : ∀ {ds : List D} {vs : List V} (n : Nat), RepL K H B ds vs → RepL K H B (ds.take n) (vs.take n)
  | ds, vs, 0, h => by simpa using RepL.nil
  | [], vs, n + 1, h => by
    have e : vs = [] := h
    subst e; simpa using RepL.nil
  | d :: ds, vs, n + 1, h => by
    obtain ⟨v, r, rfl, h1, h2⟩ := h
    exact ⟨v, r.take n, rfl, h1, RepL.take n h2⟩
theorem RepL.drop : ∀ {ds : List D} {vs : List V} (n : Nat), RepL K H B ds vs → RepL K H B (ds.drop n) (vs.drop n)
  | ds, vs, 0, h => h
  | [], vs, n + 1, h => by
    have e : vs = [] := h
    subst e; simpa using RepL.nil
  | d :: ds, vs, n + 1, h => by
    obtain ⟨v, r, rfl, h1, h2⟩ := h
    exact RepL.drop n h2
theorem RepL.set : ∀ {ds : List D} {vs : List V} {d : D} {v : V} (i : Nat), RepL K H B ds vs → Rep K H B d v → RepL K H B (ds.set i d) (vs.set i v)
  | [], vs, d, v, i, h, r => by
    have e : vs = [] := h
    subst e; simpa using RepL.nil
  | x :: ds, vs, d, v, 0, h, r => by
    obtain ⟨y, q, rfl, h1, h2⟩ := h
    exact ⟨v, q, rfl, r, h2⟩
  | x :: ds, vs, d, v, i + 1, h, r => by
    obtain ⟨y, q, rfl, h1, h2⟩ := h
    exact ⟨y, q.set i v, rfl, h1, RepL.set i h2 r⟩
theorem RepL.rep {ds : List D} {vs : List V} (h : RepL K H B ds vs) : ∀ k : Nat, RepL K H B (List.replicate k ds).flatten (List.replicate k vs).flatten
  | 0 => RepL.nil
  | k + 1 => by
    rw [List.replicate_succ, List.replicate_succ, List.flatten_cons, List.flatten_cons]
    exact h.app (RepL.rep h k)
theorem RepL.ints : ∀ {ns : List Int} {vs : List V}, RepL K H B (ns.map D.int) vs → vs = ns.map V.int
  | [], vs, h => h
  | n :: ns, vs, h => by
    obtain ⟨v, r, rfl, h1, h2⟩ := h
    have e : v = .int n := h1
    rw [e, RepL.ints h2]; rfl
theorem RepL.ofInts : ∀ (ns : List Int), RepL K H B (ns.map D.int) (ns.map V.int)
  | [] => rfl
  | n :: ns => ⟨.int n, _, rfl, rfl, RepL.ofInts ns⟩
theorem RepL.bls : ∀ {ns : List Bool} {vs : List V}, RepL K H B (ns.map D.bl) vs → vs = ns.map V.bl
  | [], vs, h => h
  | n :: ns, vs, h => by
    obtain ⟨v, r, rfl, h1, h2⟩ := h
    have e : v = .bl n := h1
    rw [e, RepL.bls h2]; rfl
theorem RepL.strs : ∀ {ns : List Str} {vs : List V}, RepL K H B (ns.map D.str) vs → vs = ns.map V.str
  | [], vs, h => h
  | n :: ns, vs, h => by
    obtain ⟨v, r, rfl, h1, h2⟩ := h
    have e : v = .str n := h1
    rw [e, RepL.strs h2]; rfl
/-- a permutation of what is borne is borne -/
theorem RepL.perm {vs ws : List V} (p : vs.Perm ws) : ∀ {ds : List D}, RepL K H B ds vs → ∃ es, RepL K H B es ws ∧ ds.Perm es := by
  induction p with
  | nil => intro ds h; exact ⟨ds, h, .refl _⟩
  | cons x _ ih =>
    intro ds h
    cases ds with
    | nil => exact absurd (show _ = [] from h) (by simp)
    | cons d ds =>
      obtain ⟨v, r, e, h1, h2⟩ := h
      injection e with e1 e2
      subst e1 e2
      obtain ⟨es, h3, p3⟩ := ih h2
      exact ⟨d :: es, ⟨_, _, rfl, h1, h3⟩, p3.cons d⟩
  | swap x y l =>
    intro ds h
    cases ds with
    | nil => exact absurd (show _ = [] from h) (by simp)
    | cons d ds =>
      obtain ⟨v, r, e, h1, h2⟩ := h
      injection e with e1 e2
      subst e1 e2
      cases ds with
      | nil => exact absurd (show _ = [] from h2) (by simp)
      | cons d' ds =>
        obtain ⟨v, r, e, h3, h4⟩ := h2
        injection e with e1 e2
        subst e1 e2
        exact ⟨d' :: d :: ds, ⟨_, _, rfl, h3, _, _, rfl, h1, h4⟩, .swap _ _ _⟩
  | trans _ _ ih1 ih2 =>
    intro ds h
    obtain ⟨es, h1, p1⟩ := ih1 h
    obtain ⟨fs, h2, p2⟩ := ih2 h1
    exact ⟨fs, h2, p1.trans p2⟩
theorem RepL.append_inv : ∀ {ds es : List D} {us : List V}, RepL K H B (ds ++ es) us → ∃ vs ws, us = vs ++ ws ∧ RepL K H B ds vs ∧ RepL K H B es ws
  | [], es, us, h => ⟨[], us, rfl, rfl, h⟩
  | d :: ds, es, us, h => by
    obtain ⟨v, r, rfl, h1, h2⟩ := h
    obtain ⟨vs, ws, rfl, h3, h4⟩ := RepL.append_inv h2
    exact ⟨v :: vs, ws, rfl, ⟨_, _, rfl, h1, h3⟩, h4⟩
/-- a value that holds no object -/
def D.flat : D → Bool
  | .non | .bl _ | .int _ | .str _ | .adr _ | .ty _ => true
  | _ => false
theorem Rep.flat {d : D} {v : V} (f : d.flat = true) (h : Rep K H B d v) : Rep K H' B' d v := by
  cases d <;> first | exact h | cases f
end
end DL
set_option Elab.async false
set_option linter.all false
set_option maxRecDepth 100000
/-! DB: states, what a step keeps, the judgements -/
namespace DL
open PySem L2

/-- a changing object that several defs share -/
inductive MO where
  | dk (ks : List Key) (xs : List D)
  | ins (C : Addr) (ns : List Str) (xs : List D)
  | lst (xs : List D)
abbrev Ar := List (Addr × MO)
def MOk (K : PySem.W.Frag) (H : Hp) (B : Addr → Prop) (a : Addr) : MO → Prop
  | .dk ks xs => xs.length ≤ sizeLine ∧ ∃ kvs, H a = some (.dK kvs) ∧ kvs.map (·.1) = ks ∧ RepL K H B xs (kvs.map (·.2))
  | .ins C ns xs => ∃ dx fs, H a = some (.ins C dx fs) ∧ fs.map (·.1) = ns ∧ RepL K H B xs (fs.map (·.2))
  | .lst xs => xs.length ≤ sizeLine ∧ ∃ vs, H a = some (.lst vs) ∧ RepL K H B xs vs

/-- a slot: nothing, a datum, a list (a dict) that no other one holds -/
inductive Sl where
  | no
  | va (d : D)
  | ol (xs : List D)
  | od (ks : List Key) (xs : List D)
structure S where
  sl : List Sl
  ar : Ar
abbrev S.wa (s : S) (a : Ar) : S := { s with ar := a }
abbrev Ow := List (Option Addr)
structure Frm where
  ban : Addr → Prop
  ars : List Addr
  H0 : Hp
  tr : Addr → Prop
abbrev Frm.C (fr : Frm) (a : Addr) : Prop := fr.ban a ∨ a ∈ fr.ars
abbrev Frm.F (fr : Frm) (ow : Ow) (a : Addr) : Prop := fr.C a ∨ some a ∈ ow

def SlOk (K : PySem.W.Frag) (H : Hp) (B : Addr → Prop) (x : Sl) (v : Option V) (o : Option Addr) : Prop :=
  match x with
  | .no => o = none
  | .va d => o = none ∧ ∃ w, v = some w ∧ Rep K H B d w
  | .ol xs => ∃ p vs, o = some p ∧ v = some (.ref p) ∧ xs.length ≤ sizeLine ∧ H p = some (.lst vs) ∧ RepL K H B xs vs
  | .od ks xs => ∃ p kvs, o = some p ∧ v = some (.ref p) ∧ xs.length ≤ sizeLine ∧ H p = some (.dK kvs) ∧ kvs.map (·.1) = ks ∧ RepL K H B xs (kvs.map (·.2))

structure Rl (K : PySem.W.Frag) (fr : Frm) (ow : Ow) (s : S) (σ : L2.St) (H : Hp) : Prop where
  ls : σ.length = s.sl.length
  lo : ow.length = s.sl.length
  slot : ∀ (i : Nat) (x : Sl), s.sl[i]? = some x → SlOk K H (fr.F ow) x (σ[i]?).join (ow[i]?).join
  inj : ∀ (i j : Nat) (p : Addr), ow[i]? = some (some p) → ow[j]? = some (some p) → i = j
  owf : ∀ p, some p ∈ ow → fr.H0 p = none ∧ ¬ fr.C p
  ban : ∀ a, fr.C a → H a ≠ none
  same : ∀ a o, fr.H0 a = some o → a ∉ fr.ars → H a = some o
  ara : s.ar.map (·.1) = fr.ars
  ar : ∀ p ∈ s.ar, MOk K H (fr.F ow) p.1 p.2
  nd : fr.ars.Nodup
  trk : ∀ a, fr.tr a → H a ≠ none

def Keep (ars : List Addr) (H H' : Hp) : Prop := ∀ a o, H a = some o → a ∉ ars → H' a = some o
abbrev Ext (H H' : Hp) : Prop := ∀ a o, H a = some o → H' a = some o
theorem Keep.refl {ars : List Addr} {H : Hp} : Keep ars H H := fun _ _ h _ => h
theorem Keep.trans {ars : List Addr} {H H1 H2 : Hp} (a : Keep ars H H1) (b : Keep ars H1 H2) : Keep ars H H2 := fun c o h n => b c o (a c o h n) n
theorem Keep.ext {ars : List Addr} {H H1 : Hp} (a : Ext H H1) : Keep ars H H1 := fun c o h _ => a c o h
theorem Ext.upd {H : Hp} {p : Addr} {o : HO} (h : H p = none) : Ext H (upd H p o) := fun a u e => by
  rw [upd_ne]
  · exact e
  · intro z; subst z; rw [h] at e; cases e

section
variable {K : PySem.W.Frag} {fr : Frm} {ow : Ow} {s : S} {σ : L2.St} {H H' : Hp}
theorem MOk.keep {B B' : Addr → Prop} {a : Addr} {m : MO} (k : ∀ a o, ¬ B a → H a = some o → H' a = some o ∧ ¬ B' a) (ha : ∀ o, H a = some o → H' a = some o) (h : MOk K H B a m) : MOk K H' B' a m := by
  cases m with
  | dk ks xs => obtain ⟨z, kvs, h1, h2, h3⟩ := h; exact ⟨z, kvs, ha _ h1, h2, h3.keep k⟩
  | ins C ns xs => obtain ⟨dx, fs, h1, h2, h3⟩ := h; exact ⟨dx, fs, ha _ h1, h2, h3.keep k⟩
  | lst xs => obtain ⟨z, vs, h1, h2⟩ := h; exact ⟨z, vs, ha _ h1, h2.keep k⟩
theorem MOk.some {B : Addr → Prop} {a : Addr} {m : MO} (h : MOk K H B a m) : H a ≠ none := by
  cases m with
  | dk ks xs => obtain ⟨z, kvs, h1, _⟩ := h; rw [h1]; simp
  | ins C ns xs => obtain ⟨dx, fs, h1, _⟩ := h; rw [h1]; simp
  | lst xs => obtain ⟨z, vs, h1, _⟩ := h; rw [h1]; simp
theorem SlOk.keep {B B' : Addr → Prop} {x : Sl} {v : Option V} {o : Option Addr} (k : ∀ a o, ¬ B a → H a = some o → H' a = some o ∧ ¬ B' a) (ha : ∀ p u, o = Option.some p → H p = Option.some u → H' p = Option.some u) (h : SlOk K H B x v o) : SlOk K H' B' x v o := by
  cases x with
  | no => exact h
  | va d => obtain ⟨h0, w, h1, h2⟩ := h; exact ⟨h0, w, h1, h2.keep k⟩
  | ol xs => obtain ⟨p, vs, h0, h1, h2, h3, h4⟩ := h; exact ⟨p, vs, h0, h1, h2, ha _ _ h0 h3, h4.keep k⟩
  | od ks xs => obtain ⟨p, vs, h0, h1, h2, h3, h4, h5⟩ := h; exact ⟨p, vs, h0, h1, h2, ha _ _ h0 h3, h4, h5.keep k⟩
theorem Rl.owSome (R : Rl K fr ow s σ H) {p : Addr} (h : Option.some p ∈ ow) : H p ≠ none := by
  obtain ⟨i, hi⟩ := List.getElem?_of_mem h
  have hl : i < s.sl.length := by
    have := (List.getElem?_eq_some_iff.mp hi).1
    rw [← R.lo]; exact this
  have := R.slot i _ (List.getElem?_eq_getElem hl)
  rw [hi] at this
  revert this
  cases s.sl[i] with
  | no => intro h; cases h
  | va d => intro h; cases h.1
  | ol xs => rintro ⟨q, vs, h0, _, _, h3, _⟩; cases h0; rw [h3]; simp
  | od ks xs => rintro ⟨q, vs, h0, _, _, h3, _⟩; cases h0; rw [h3]; simp
theorem Rl.fresh (R : Rl K fr ow s σ H) {p : Addr} (h : H p = none) : ¬ fr.F ow p := by
  rintro (h1 | h1)
  · exact R.ban p h1 h
  · exact R.owSome h1 h
/-- where all stands -/
theorem Rl.ext (R : Rl K fr ow s σ H) (e : Ext H H') : Rl K fr ow s σ H' :=
  ⟨R.ls, R.lo, fun i x h => (R.slot i x h).keep (fun a o n q => ⟨e a o q, n⟩) fun p u _ q => e p u q, R.inj, R.owf, (fun a h q => by
      cases z : H a with
      | none => exact R.ban a h z
      | some o => rw [e a o z] at q; cases q),
    fun a o h n => e a o (R.same a o h n), R.ara, fun p hp => (R.ar p hp).keep (fun a o n q => ⟨e a o q, n⟩) fun o q => e _ _ q, R.nd, fun a h q => by
      cases z : H a with
      | none => exact R.trk a h z
      | some o => rw [e a o z] at q; cases q⟩
theorem keepF (k : Keep fr.ars H H') : ∀ a o, ¬ fr.F ow a → H a = some o → H' a = some o ∧ ¬ fr.F ow a := fun a o n q => ⟨k a o q fun z => n (.inl (.inr z)), n⟩
theorem Rep.kp {d : D} {v : V} (h : Rep K H (fr.F ow) d v) (k : Keep fr.ars H H') : Rep K H' (fr.F ow) d v := h.keep (keepF k)
theorem RepL.kp {d : List D} {v : List V} (h : RepL K H (fr.F ow) d v) (k : Keep fr.ars H H') : RepL K H' (fr.F ow) d v := h.keep (keepF k)
end

/-- a value, or (q = false) a list that a slot holds alone -/
def RepQ (K : PySem.W.Frag) (fr : Frm) (ow : Ow) (q : Bool) (H : Hp) (d : D) (v : V) : Prop :=
  Rep K H (fr.F ow) d v ∨ (q = false ∧ match d with
    | .lst xs => ∃ p vs, v = .ref p ∧ ¬ fr.C p ∧ xs.length ≤ sizeLine ∧ H p = some (.lst vs) ∧ RepL K H (fr.F ow) xs vs
    | .dk ks xs => ∃ p kvs, v = .ref p ∧ ¬ fr.C p ∧ xs.length ≤ sizeLine ∧ H p = some (.dK kvs) ∧ kvs.map (·.1) = ks ∧ RepL K H (fr.F ow) xs (kvs.map (·.2))
    | _ => False)
def RepQL (K : PySem.W.Frag) (fr : Frm) (ow : Ow) (q : Bool) (H : Hp) : List D → List V → Prop
  | [], vs => vs = []
  | d :: ds, vs => ∃ v r, vs = v :: r ∧ RepQ K fr ow q H d v ∧ RepQL K fr ow q H ds r
section
variable {K : PySem.W.Frag} {fr : Frm} {ow : Ow} {q : Bool} {H H' : Hp}
theorem RepQ.of {d : D} {v : V} (h : Rep K H (fr.F ow) d v) : RepQ K fr ow q H d v := .inl h
theorem RepQ.cl {d : D} {v : V} (h : RepQ K fr ow true H d v) : Rep K H (fr.F ow) d v := by
  rcases h with h | ⟨h, _⟩
  · exact h
  · cases h
theorem RepQ.kp {d : D} {v : V} (h : RepQ K fr ow q H d v) (k : Keep fr.ars H H') : RepQ K fr ow q H' d v := by
  rcases h with h | ⟨e, h⟩
  · exact .inl (h.kp k)
  · refine .inr ⟨e, ?_⟩
    cases d with
    | lst xs => obtain ⟨p, vs, h0, h1, h2, h3, h4⟩ := h; exact ⟨p, vs, h0, h1, h2, k p _ h3 fun z => h1 (.inr z), h4.kp k⟩
    | dk ks xs => obtain ⟨p, vs, h0, h1, h2, h3, h4, h5⟩ := h; exact ⟨p, vs, h0, h1, h2, k p _ h3 fun z => h1 (.inr z), h4, h5.kp k⟩
    | _ => exact h.elim
theorem RepQL.kp : ∀ {ds : List D} {vs : List V}, RepQL K fr ow q H ds vs → Keep fr.ars H H' → RepQL K fr ow q H' ds vs
  | [], _, h, _ => h
  | d :: ds, _, h, k => by
    obtain ⟨v, r, e, h1, h2⟩ := h
    exact ⟨v, r, e, h1.kp k, h2.kp k⟩
theorem RepQL.cl : ∀ {ds : List D} {vs : List V}, RepQL K fr ow true H ds vs → RepL K H (fr.F ow) ds vs
  | [], _, h => h
  | d :: ds, _, h => by
    obtain ⟨v, r, e, h1, h2⟩ := h
    exact ⟨v, r, e, h1.cl, h2.cl⟩
theorem RepQL.len : ∀ {ds : List D} {vs : List V}, RepQL K fr ow q H ds vs → vs.length = ds.length
  | [], vs, h => by
    have e : vs = [] := h
    rw [e]; rfl
  | d :: ds, vs, h => by
    obtain ⟨v, r, e, _, h2⟩ := h
    rw [e, List.length_cons, List.length_cons, RepQL.len h2]
theorem RepQ.flat {d : D} {v : V} {B : Addr → Prop} (f : d.flat = true) (h : RepQ K fr ow q H d v) : Rep K H' B d v := by
  rcases h with h | ⟨_, h⟩
  · exact h.flat f
  · cases d <;> first | exact h.elim | cases f
theorem RepQ.int {i : Int} {v : V} (h : RepQ K fr ow q H (.int i) v) : v = .int i := by
  rcases h with h | ⟨_, h⟩
  · exact h
  · exact h.elim
theorem RepQ.bl {i : Bool} {v : V} (h : RepQ K fr ow q H (.bl i) v) : v = .bl i := by
  rcases h with h | ⟨_, h⟩
  · exact h
  · exact h.elim
theorem RepQ.str {i : Str} {v : V} (h : RepQ K fr ow q H (.str i) v) : v = .str i := by
  rcases h with h | ⟨_, h⟩
  · exact h
  · exact h.elim
theorem RepQ.non {v : V} (h : RepQ K fr ow q H .non v) : v = .non := by
  rcases h with h | ⟨_, h⟩
  · exact h
  · exact h.elim
theorem RepQ.lst {xs : List D} {v : V} (h : RepQ K fr ow q H (.lst xs) v) : ∃ p vs, v = .ref p ∧ ¬ fr.C p ∧ xs.length ≤ sizeLine ∧ H p = some (.lst vs) ∧ RepL K H (fr.F ow) xs vs := by
  rcases h with h | ⟨_, h⟩
  · obtain ⟨p, vs, h0, h1, ⟨h2, h3⟩, h4⟩ := h
    exact ⟨p, vs, h0, fun z => h2 (.inl z), h1, h3, h4⟩
  · exact h
theorem RepQ.dk {ks : List Key} {xs : List D} {v : V} (h : RepQ K fr ow q H (.dk ks xs) v) : ∃ p kvs, v = .ref p ∧ ¬ fr.C p ∧ xs.length ≤ sizeLine ∧ H p = some (.dK kvs) ∧ kvs.map (·.1) = ks ∧ RepL K H (fr.F ow) xs (kvs.map (·.2)) := by
  rcases h with h | ⟨_, h⟩
  · obtain ⟨p, vs, h0, h1, ⟨h2, h3⟩, h4, h5⟩ := h
    exact ⟨p, vs, h0, fun z => h2 (.inl z), h1, h3, h4, h5⟩
  · exact h
theorem RepQ.tup {xs : List D} {v : V} (h : RepQ K fr ow q H (.tup xs) v) : ∃ p vs, v = .ref p ∧ xs.length ≤ sizeLine ∧ H p = some (.tup vs) ∧ RepL K H (fr.F ow) xs vs ∧ Rep K H (fr.F ow) (.tup xs) v := by
  rcases h with h | ⟨_, h⟩
  · obtain ⟨p, vs, h0, h1, ⟨_, h2⟩, h3⟩ := id h
    exact ⟨p, vs, h0, h1, h2, h3, h⟩
  · exact h.elim
theorem RepQ.wt {xs : List D} {v : V} (h : RepQ K fr ow q H (.wt xs) v) : ∃ p vs, v = .ref p ∧ xs.length ≤ sizeLine ∧ WT K p vs ∧ RepL K H (fr.F ow) xs vs ∧ Rep K H (fr.F ow) (.wt xs) v := by
  rcases h with h | ⟨_, h⟩
  · obtain ⟨p, vs, h0, h1, h2, h3⟩ := id h
    exact ⟨p, vs, h0, h1, h2, h3, h⟩
  · exact h.elim
theorem RepQ.dt {ks : List (List Key)} {xs : List D} {v : V} (h : RepQ K fr ow q H (.dt ks xs) v) : ∃ p kvs, v = .ref p ∧ xs.length ≤ sizeLine ∧ H p = some (.dT kvs) ∧ kvs.map (·.1) = ks ∧ RepL K H (fr.F ow) xs (kvs.map (·.2)) ∧ Rep K H (fr.F ow) (.dt ks xs) v := by
  rcases h with h | ⟨_, h⟩
  · obtain ⟨p, vs, h0, h1, ⟨_, h2⟩, h3, h4⟩ := id h
    exact ⟨p, vs, h0, h1, h2, h3, h4, h⟩
  · exact h.elim
theorem RepQ.ins {C : Addr} {ns : List Str} {xs : List D} {v : V} (h : RepQ K fr ow q H (.ins C ns xs) v) : ∃ p dx fs, v = .ref p ∧ H p = some (.ins C dx fs) ∧ fs.map (·.1) = ns ∧ RepL K H (fr.F ow) xs (fs.map (·.2)) ∧ Rep K H (fr.F ow) (.ins C ns xs) v := by
  rcases h with h | ⟨_, h⟩
  · obtain ⟨p, dx, vs, h0, ⟨_, h2⟩, h3, h4⟩ := id h
    exact ⟨p, dx, vs, h0, h2, h3, h4, h⟩
  · exact h.elim
theorem RepQ.adr {a : Addr} {v : V} (h : RepQ K fr ow q H (.adr a) v) : v = .ref a := by
  rcases h with h | ⟨_, h⟩
  · exact h
  · exact h.elim
theorem RepQ.ty {a : String} {v : V} (h : RepQ K fr ow q H (.ty a) v) : v = .ty a := by
  rcases h with h | ⟨_, h⟩
  · exact h
  · exact h.elim
end

/-- the way out of an expression, a block -/
inductive R (α : Type) where
  | ok (a : α) (ar : Ar)
  | er (C : Addr) (ns : List Str) (xs : List D) (ar : Ar)
abbrev M (α : Type) := S → Option (R α)
def bindM {α β : Type} (f : M α) (k : α → M β) : M β := fun s => match f s with
  | none => none
  | some (.er C ns xs ar) => some (.er C ns xs ar)
  | some (.ok a ar) => k a (s.wa ar)
def retM {α : Type} (a : α) : M α := fun s => some (.ok a s.ar)
def liftM {α : Type} (o : Option α) : M α := fun s => o.map fun a => .ok a s.ar
theorem bindM_ok {α β : Type} {f : M α} {k : α → M β} {s : S} {a : α} {ar : Ar} (h : f s = some (.ok a ar)) : bindM f k s = k a (s.wa ar) := by
  unfold bindM; rw [h]

abbrev Rel (α β : Type) := Frm → Ow → S → L2.St → Hp → α → β → Prop
def Pst {α β : Type} (K : PySem.W.Frag) (fr : Frm) (ow : Ow) (s : S) (σ : L2.St) (H : Hp) (rel : Rel α β) (Q : β → Hp → Prop) (E : XK) : R α → Prop
  | .ok a ar => ∀ v H', Rl K fr ow (s.wa ar) σ H' → Keep fr.ars H H' → rel fr ow (s.wa ar) σ H' a v → Q v H'
  | .er C ns xs ar => ∀ dx fs H', Rl K fr ow (s.wa ar) σ H' → Keep fr.ars H H' → H' dx = some (.xd fs) → fs.map (·.1) = ns → RepL K H' (fr.F ow) xs (fs.map (·.2)) → E (.ref C) (some dx) H'
/-- a reading is met by a plain function -/
def TDg {α β : Type} (K : PySem.W.Frag) (rel : Rel α β) (E : XK) (t : L2.St → Hp → (β → Hp → Prop) → Prop) (f : M α) : Prop :=
  ∀ fr ow s σ H Q r, Rl K fr ow s σ H → f s = some r → Pst K fr ow s σ H rel Q E r → t σ H Q
def rD (K : PySem.W.Frag) (q : Bool) : Rel D V := fun fr ow _ _ H d v => RepQ K fr ow q H d v
def rL (K : PySem.W.Frag) (q : Bool) : Rel (List D) (List V) := fun fr ow _ _ H d v => RepQL K fr ow q H d v
def rB : Rel Bool Bool := fun _ _ _ _ _ a b => a = b

theorem Pst.bind {α β α' β' : Type} {K : PySem.W.Frag} {fr : Frm} {ow : Ow} {s : S} {σ : L2.St} {H : Hp} {rel : Rel α β} {rel' : Rel α' β'} {E : XK} {t : L2.St → Hp → (β → Hp → Prop) → Prop} {f : M α} {k : α → M α'} {r : R α'} {Q : β → Hp → Prop} {Q' : β' → Hp → Prop}
    (ha : TDg K rel E t f) (Rr : Rl K fr ow s σ H) (e : bindM f k s = some r) (P : Pst K fr ow s σ H rel' Q' E r)
    (h : ∀ a ar v H1, Rl K fr ow (s.wa ar) σ H1 → Keep fr.ars H H1 → rel fr ow (s.wa ar) σ H1 a v → k a (s.wa ar) = some r → Pst K fr ow (s.wa ar) σ H1 rel' Q' E r → Q v H1) : t σ H Q := by
  unfold bindM at e
  cases q : f s with
  | none => rw [q] at e; cases e
  | some r1 =>
    rw [q] at e
    cases r1 with
    | er C ns xs ar =>
      obtain rfl : R.er C ns xs ar = r := Option.some.inj e
      exact ha fr ow s σ H Q _ Rr q P
    | ok a ar =>
      refine ha fr ow s σ H Q _ Rr q fun v H1 R1 k1 r1 => ?_
      have e' : k a (s.wa ar) = some r := e
      refine h a ar v H1 R1 k1 r1 e' ?_
      cases r with
      | ok a' ar' => exact fun v' H' R' k' r' => P v' H' R' (k1.trans k') r'
      | er C ns xs ar' => exact fun dx fs H' R' k' r' => P dx fs H' R' (k1.trans k') r'

/-- one address more is banned: nothing that is held holds it -/
def Frm.plus (fr : Frm) (p : Addr) : Frm := { fr with ban := fun a => fr.ban a ∨ a = p }
theorem Frm.plusF {fr : Frm} {ow : Ow} {p a : Addr} : (fr.plus p).F ow a ↔ (fr.F ow a ∨ a = p) := by
  show ((fr.ban a ∨ a = p) ∨ a ∈ fr.ars) ∨ some a ∈ ow ↔ _
  constructor
  · rintro (((z | z) | z) | z)
    · exact .inl (.inl (.inl z))
    · exact .inr z
    · exact .inl (.inl (.inr z))
    · exact .inl (.inr z)
  · rintro (((z | z) | z) | z)
    · exact .inl (.inl (.inl z))
    · exact .inl (.inr z)
    · exact .inr z
    · exact .inl (.inl (.inr z))
theorem Rl.plus {K : PySem.W.Frag} {fr : Frm} {ow : Ow} {s : S} {σ : L2.St} {H : Hp} {p : Addr} {o : HO} (R : Rl K fr ow s σ H) (n : H p = none) : Rl K (fr.plus p) ow s σ (upd H p o) := by
  have ex : Ext H (upd H p o) := Ext.upd n
  have kk : ∀ a u, ¬ fr.F ow a → H a = some u → upd H p o a = some u ∧ ¬ (fr.plus p).F ow a := fun a u na e => ⟨ex a u e, fun z => by
    rcases Frm.plusF.mp z with z | z
    · exact na z
    · rw [z, n] at e; cases e⟩
  refine ⟨R.ls, R.lo, fun i x h => (R.slot i x h).keep kk fun q u _ hq => ex q u hq, R.inj, fun q hq => ⟨(R.owf q hq).1, fun z => ?_⟩, fun a z w => ?_, fun a u h na => ex a u (R.same a u h na), R.ara, fun q hq => (R.ar q hq).keep kk fun u hu => ex _ u hu, R.nd, fun a z w => ?_⟩
  · rcases z with (z | z) | z
    · exact (R.owf q hq).2 (.inl z)
    · rw [z] at hq; exact R.owSome hq n
    · exact (R.owf q hq).2 (.inr z)
  · rcases z with (z | z) | z
    · cases u : H a with
      | none => exact R.ban a (.inl z) u
      | some y => rw [ex a y u] at w; cases w
    · rw [z, upd_same] at w; cases w
    · cases u : H a with
      | none => exact R.ban a (.inr z) u
      | some y => rw [ex a y u] at w; cases w
  · cases u : H a with
    | none => exact R.trk a z u
    | some y => rw [ex a y u] at w; cases w
theorem Rl.less {K : PySem.W.Frag} {fr : Frm} {ow : Ow} {s : S} {σ : L2.St} {H : Hp} {p : Addr} (R : Rl K (fr.plus p) ow s σ H) : Rl K fr ow s σ H := by
  have kk : ∀ a u, ¬ (fr.plus p).F ow a → H a = some u → H a = some u ∧ ¬ fr.F ow a := fun a u na e => ⟨e, fun z => na (Frm.plusF.mpr (.inl z))⟩
  refine ⟨R.ls, R.lo, fun i x h => (R.slot i x h).keep kk fun q u _ hq => hq, R.inj, fun q hq => ⟨(R.owf q hq).1, fun z => (R.owf q hq).2 ?_⟩, fun a z => R.ban a ?_, R.same, R.ara, fun q hq => (R.ar q hq).keep kk fun u hu => hu, R.nd, R.trk⟩
  · exact z.elim (fun z => .inl (.inl z)) .inr
  · exact z.elim (fun z => .inl (.inl z)) .inr

/-- an expression, an argument list, a test -/
structure DE (X : Cx) (E : XK) (q : Bool) (e : Expr) (t : TE) (f : M D) : Prop where
  pe : PE X e t
  td : TDg X.K (rD X.K q) E t f
structure DA (X : Cx) (E : XK) (q : Bool) (es : List Expr) (t : TA) (f : M (List D)) : Prop where
  pe : PA X es t
  td : TDg X.K (rL X.K q) E t f
structure DT (X : Cx) (E : XK) (e : Expr) (t : TT) (f : M Bool) : Prop where
  pe : PT X e t
  td : TDg X.K rB E t f

/-- a block's way out -/
inductive Out where
  | nx (s : S) | rt (d : D) (ar : Ar) | bk (s : S) | ct (s : S) | er (C : Addr) (ns : List Str) (xs : List D) (ar : Ar)
abbrev G := S → Option Out
/-- what a statement keeps -/
structure Stp (fr : Frm) (H : Hp) (ow : Ow) (H' : Hp) (ow' : Ow) : Prop where
  kp : ∀ a o, H a = some o → ¬ fr.F ow a → H' a = some o
  bn : ∀ a, H a ≠ none → fr.F ow' a → fr.F ow a
theorem Stp.trans {fr : Frm} {H H1 H2 : Hp} {ow ow1 ow2 : Ow} (a : Stp fr H ow H1 ow1) (b : Stp fr H1 ow1 H2 ow2) (hs : ∀ x, H x ≠ none → H1 x ≠ none) : Stp fr H ow H2 ow2 :=
  ⟨fun x o h n => b.kp x o (a.kp x o h n) fun z => n (a.bn x (by rw [h]; simp) z), fun x h z => a.bn x h (b.bn x (hs x h) z)⟩
theorem Rep.st {K : PySem.W.Frag} {fr : Frm} {H H' : Hp} {ow ow' : Ow} {d : D} {v : V} (h : Rep K H (fr.F ow) d v) (t : Stp fr H ow H' ow') : Rep K H' (fr.F ow') d v :=
  h.keep fun a o n q => ⟨t.kp a o q n, fun z => n (t.bn a (by rw [q]; simp) z)⟩
theorem RepL.st {K : PySem.W.Frag} {fr : Frm} {H H' : Hp} {ow ow' : Ow} {d : List D} {v : List V} (h : RepL K H (fr.F ow) d v) (t : Stp fr H ow H' ow') : RepL K H' (fr.F ow') d v :=
  h.keep fun a o n q => ⟨t.kp a o q n, fun z => n (t.bn a (by rw [q]; simp) z)⟩
/-- nothing vanishes -/
def Grow (H H' : Hp) : Prop := ∀ a, H a ≠ none → H' a ≠ none
structure Af (K : PySem.W.Frag) (fr : Frm) (ow : Ow) (H : Hp) (s' : S) (ow' : Ow) (σ' : L2.St) (H' : Hp) : Prop where
  rl : Rl K fr ow' s' σ' H'
  st : Stp fr H ow H' ow'
  gr : Grow H H'
structure Ret (K : PySem.W.Frag) (fr : Frm) (ar : Ar) (H' : Hp) : Prop where
  same : ∀ a o, fr.H0 a = some o → a ∉ fr.ars → H' a = some o
  ban : ∀ a, fr.C a → H' a ≠ none
  ara : ar.map (·.1) = fr.ars
  ar : ∀ p ∈ ar, MOk K H' fr.C p.1 p.2
def POut (K : PySem.W.Frag) (fr : Frm) (ow : Ow) (H : Hp) (D : Ends) (E : XK) : Out → Prop
  | .nx s' => ∀ ow' σ' H', Af K fr ow H s' ow' σ' H' → D.nx σ' H'
  | .bk s' => ∀ ow' σ' H', Af K fr ow H s' ow' σ' H' → D.bk σ' H'
  | .ct s' => ∀ ow' σ' H', Af K fr ow H s' ow' σ' H' → D.ct σ' H'
  | .rt d ar => ∀ v H', Ret K fr ar H' → Grow H H' → Rep K H' fr.C d v → D.rt v H'
  | .er C ns xs ar => ∀ dx fs H', Ret K fr ar H' → Grow H H' → H' dx = some (.xd fs) → fs.map (·.1) = ns → RepL K H' fr.C xs (fs.map (·.2)) → E (.ref C) (some dx) H'
def TS1 (K : PySem.W.Frag) (E : XK) (t : TS) (g : G) : Prop := ∀ fr ow s σ H D o, Rl K fr ow s σ H → g s = some o → POut K fr ow H D E o → t D σ H
structure DS (X : Cx) (E : XK) (st : Stmt) (t : TS) (g : G) : Prop where
  pe : PS X st t
  td : TS1 X.K E t g
structure DSs (X : Cx) (E : XK) (sts : List Stmt) (t : TS) (g : G) : Prop where
  pe : PSs X sts t
  td : TS1 X.K E t g
end DL
set_option Elab.async false
set_option linter.all false
set_option maxRecDepth 100000
/-! DC: the rules of expressions: names, constants, displays, operators, comparisons, tests -/
namespace DL
open PySem L2
section
variable {X : Cx} {E : XK} {q : Bool} {e a b : Expr} {es rest : List Expr} {pos : Pos}

/-! ### names, constants -/
def fVar (q : Bool) (i : Nat) : M D := fun s => match s.sl[i]? with
  | some (.va d) => some (.ok d s.ar)
  | some (.ol xs) => if q then none else some (.ok (.lst xs) s.ar)
  | some (.od ks xs) => if q then none else some (.ok (.dk ks xs) s.ar)
  | _ => none
def fC (d : D) : M D := retM d
theorem td_var {K : PySem.W.Frag} {i : Nat} : TDg K (rD K q) E (tVar i) (fVar q i) := by
  intro fr ow s σ H Q r R e P
  unfold fVar at e
  cases z : s.sl[i]? with
  | none => rw [z] at e; cases e
  | some x =>
    rw [z] at e
    have so := R.slot i x z
    have jn : ∀ {w : V}, (σ[i]?).join = some w → σ[i]? = some (some w) := fun {w} h => by
      cases y : σ[i]? with
      | none => rw [y] at h; cases h
      | some u => rw [y] at h; exact congrArg some h
    cases x with
    | no => cases e
    | va d =>
      cases e
      obtain ⟨_, w, h1, h2⟩ := so
      exact ⟨w, jn h1, P w H R Keep.refl (.inl h2)⟩
    | ol xs =>
      cases q with
      | true => cases e
      | false =>
        cases e
        obtain ⟨p, vs, h0, h1, h2, h3, h4⟩ := so
        have hm : some p ∈ ow := by
          cases y : ow[i]? with
          | none => rw [y] at h0; cases h0
          | some u => rw [y] at h0; exact List.mem_of_getElem? (y.trans (congrArg some h0))
        exact ⟨.ref p, jn h1, P _ H R Keep.refl (.inr ⟨rfl, p, vs, rfl, (R.owf p hm).2, h2, h3, h4⟩)⟩
    | od ks xs =>
      cases q with
      | true => cases e
      | false =>
        cases e
        obtain ⟨p, vs, h0, h1, h2, h3, h4, h5⟩ := so
        have hm : some p ∈ ow := by
          cases y : ow[i]? with
          | none => rw [y] at h0; cases h0
          | some u => rw [y] at h0; exact List.mem_of_getElem? (y.trans (congrArg some h0))
        exact ⟨.ref p, jn h1, P _ H R Keep.refl (.inr ⟨rfl, p, vs, rfl, (R.owf p hm).2, h2, h3, h4, h5⟩)⟩
theorem dv (i : Nat) {x : Str} (hN : X.N[i]? = some x := by rfl) (hv : Vis X.env.scope x := by first | exact Or.inl rfl | exact Or.inr (Or.inl rfl) | exact Or.inr (Or.inr rfl)) (hd : (x == ("__debug__" : Str)) = false := by decide)
    (hcd : (x == ("__classdict__" : Str)) = false := by decide) : DE X E q (.Name x pos) (tVar i) (fVar q i) := ⟨pe_var hN hv hd hcd, td_var⟩
theorem td_c {K : PySem.W.Frag} {d : D} {v : V} (h : ∀ H B, Rep K H B d v) : TDg K (rD K q) E (tC v) (fC d) := by
  intro fr ow s σ H Q r R e P
  cases e
  exact P v H R Keep.refl (.inl (h _ _))
theorem dc_int {i j} : DE X E q (.Constant (.int i) j pos) (tC (.int i)) (fC (.int i)) := ⟨pe_int, td_c fun _ _ => rfl⟩
theorem dc_bl {i j} : DE X E q (.Constant (.bool i) j pos) (tC (.bl i)) (fC (.bl i)) := ⟨pe_bl, td_c fun _ _ => rfl⟩
theorem dc_non {j} : DE X E q (.Constant .none j pos) (tC .non) (fC .non) := ⟨pe_non, td_c fun _ _ => rfl⟩
theorem dc_str {i j} : DE X E q (.Constant (.str i) j pos) (tC (.str i)) (fC (.str i)) := ⟨pe_str, td_c fun _ _ => rfl⟩
/-- a module's constant -/
theorem dc_glob {x : Str} {v : V} {u : Value} {d : D} (hg : Gl X x) (hm : X.mg x = some u) (r : RelV v u) (h : ∀ H B, Rep X.K H B d v) (hd : (x == ("__debug__" : Str)) = false := by decide) : DE X E q (.Name x pos) (tC v) (fC d) :=
  ⟨pe_glob hg hm r hd, td_c h⟩
theorem dc_bltn {x : Str} {v : V} {u : Value} {d : D} (hg : Gl X x) (hm : X.mg x = none) (hv : bootBuiltins x = some u) (r : RelV v u) (h : ∀ H B, Rep X.K H B d v) (hn : x ≠ "__name__" := by decide) (hd : (x == ("__debug__" : Str)) = false := by decide) : DE X E q (.Name x pos) (tC v) (fC d) :=
  ⟨pe_bltn hg hm hv r hn hd, td_c h⟩

/-! ### argument lists -/
def fNil : M (List D) := retM []
def fCons (f : M D) (g : M (List D)) : M (List D) := bindM f fun d => bindM g fun ds => retM (d :: ds)
theorem da_nil : DA X E q [] tNil fNil := ⟨pa_nil, fun fr ow s σ H Q r R e P => by
  cases e
  exact P [] H R Keep.refl rfl⟩
theorem da_cons {f : M D} {g : M (List D)} (ha : DE X E q e t f) (hr : DA X E q es u g) (hs : starEach (e :: es) X.env = (false, eval e X.env) :: starEach es X.env := by rfl) : DA X E q (e :: es) (tCons t u) (fCons f g) := by
  obtain ⟨h1, h2⟩ := ha
  obtain ⟨h3, h4⟩ := hr
  refine ⟨pa_cons h1 h3 hs, fun fr ow s σ H Q r R e P => ?_⟩
  refine Pst.bind (t := t) h2 R e P fun d ar v H1 R1 k1 r1 e1 P1 => ?_
  refine Pst.bind h4 R1 e1 P1 fun ds ar2 vs H2 R2 k2 r2 e2 P2 => ?_
  cases e2
  exact P2 (v :: vs) H2 R2 Keep.refl ⟨v, vs, rfl, r1.kp k2, r2⟩

/-! ### displays -/
/-- a list that is new: nothing else holds it -/
def rF (K : PySem.W.Frag) : Rel (List D) V := fun fr ow s σ H xs v => ∃ p vs, v = .ref p ∧ ¬ fr.F ow p ∧ fr.H0 p = none ∧ H p = some (.lst vs) ∧ xs.length ≤ sizeLine ∧ RepL K H (fun a => fr.F ow a ∨ a = p) xs vs ∧ Rl K (fr.plus p) ow s σ H ∧ ¬ fr.tr p
structure DF (X : Cx) (E : XK) (e : Expr) (t : TE) (f : M (List D)) : Prop where
  pe : PE X e t
  td : TDg X.K (rF X.K) E t f
theorem Rl.fresh0 {K : PySem.W.Frag} {fr : Frm} {ow : Ow} {s : S} {σ : L2.St} {H : Hp} (R : Rl K fr ow s σ H) {p : Addr} (h : H p = none) : fr.H0 p = none := by
  cases z : fr.H0 p with
  | none => rfl
  | some o =>
    have := R.same p o z fun m => R.fresh h (.inl (.inr m))
    rw [h] at this; cases this
theorem RepL.new {K : PySem.W.Frag} {H : Hp} {B : Addr → Prop} {xs : List D} {vs : List V} {p : Addr} {o : HO} (h : RepL K H B xs vs) (n : H p = none) : RepL K (upd H p o) (fun a => B a ∨ a = p) xs vs :=
  h.keep fun a u nb e => by
    have ne : a ≠ p := fun z => by subst z; rw [n] at e; cases e
    exact ⟨by rw [upd_ne ne]; exact e, fun z => z.elim nb ne⟩
theorem RepL.weak {K : PySem.W.Frag} {H : Hp} {B B' : Addr → Prop} {xs : List D} {vs : List V} (h : RepL K H B xs vs) (w : ∀ a, B' a → B a) : RepL K H B' xs vs := h.keep fun a u nb e => ⟨e, fun z => nb (w a z)⟩
theorem Rep.weak {K : PySem.W.Frag} {H : Hp} {B B' : Addr → Prop} {xs : D} {vs : V} (h : Rep K H B xs vs) (w : ∀ a, B' a → B a) : Rep K H B' xs vs := h.keep fun a u nb e => ⟨e, fun z => nb (w a z)⟩
/-- a new list, laid -/
theorem rF_new {K : PySem.W.Frag} {fr : Frm} {ow : Ow} {s : S} {σ : L2.St} {H : Hp} {p : Addr} {xs : List D} {vs : List V} (R : Rl K fr ow s σ H) (n : H p = none) (h : RepL K H (fr.F ow) xs vs) (hl : xs.length ≤ sizeLine) : rF K fr ow s σ (upd H p (.lst vs)) xs (.ref p) :=
  ⟨p, vs, rfl, R.fresh n, R.fresh0 n, upd_same, hl, h.new n, R.plus n, fun z => R.trk p z n⟩
def mLst (f : M (List D)) : M D := bindM f fun xs => retM (.lst xs)
theorem DF.de {f : M (List D)} (h : DF X E e t f) : DE X E q e t (mLst f) := by
  obtain ⟨h1, h2⟩ := h
  refine ⟨h1, fun fr ow s σ H Q r R e P => ?_⟩
  refine Pst.bind h2 R e P fun xs ar v H1 R1 k1 r1 e1 P1 => ?_
  cases e1
  obtain ⟨p, vs, rfl, n, _, hp, hl, hr, _⟩ := r1
  exact P1 _ H1 R1 Keep.refl (.inl ⟨p, vs, rfl, hl, ⟨n, hp⟩, hr.weak fun a z => .inl z⟩)
/-- how long a display may be -/
def LIM : Nat := 1000000
theorem lim_line {n : Nat} (h : n ≤ LIM) : n ≤ sizeLine := Nat.le_trans h (by rw [sizeLine_eq]; decide)
def fBound (f : M (List D)) : M (List D) := bindM f fun xs => fun s => if xs.length ≤ LIM then some (.ok xs s.ar) else none
theorem df_lst {f : M (List D)} (h : DA X E true es t f) : DF X E (.List es pos) (tLst t) (fBound f) := by
  obtain ⟨h1, h2⟩ := h
  refine ⟨pe_lst h1, fun fr ow s σ H Q r R e P => ?_⟩
  refine Pst.bind (t := t) h2 R e P fun xs ar vs H1 R1 k1 r1 e1 P1 => ?_
  by_cases hl : xs.length ≤ LIM
  · rw [if_pos hl] at e1
    cases e1
    have rl : RepL X.K H1 (fr.F ow) xs vs := r1.cl
    refine ⟨by rw [rl.len]; exact lim_line hl, fun p n => ?_⟩
    exact P1 _ _ (R1.ext (Ext.upd n)) (Keep.ext (Ext.upd n)) (rF_new R1 n rl (lim_line hl))
  · rw [if_neg hl] at e1; cases e1
def mTup (f : M (List D)) : M D := bindM f fun xs => fun s => if xs.length ≤ LIM then some (.ok (.tup xs) s.ar) else none
theorem Rep.tupNew {K : PySem.W.Frag} {fr : Frm} {ow : Ow} {s : S} {σ : L2.St} {H : Hp} {p : Addr} {xs : List D} {vs : List V} (R : Rl K fr ow s σ H) (n : H p = none) (h : RepL K H (fr.F ow) xs vs) (hl : xs.length ≤ sizeLine) : Rep K (upd H p (.tup vs)) (fr.F ow) (.tup xs) (.ref p) :=
  ⟨p, vs, rfl, hl, ⟨R.fresh n, upd_same⟩, (h.new n).weak fun a z => .inl z⟩
theorem de_tup {x1} {f : M (List D)} (h : DA X E true es t f) : DE X E q (.Tuple es x1 pos) (tTup t) (mTup f) := by
  obtain ⟨h1, h2⟩ := h
  refine ⟨pe_tup h1, fun fr ow s σ H Q r R e P => ?_⟩
  refine Pst.bind (t := t) h2 R e P fun xs ar vs H1 R1 k1 r1 e1 P1 => ?_
  by_cases hl : xs.length ≤ LIM
  · rw [if_pos hl] at e1
    cases e1
    have rl : RepL X.K H1 (fr.F ow) xs vs := r1.cl
    refine ⟨by rw [rl.len]; exact lim_line hl, fun p n => ?_⟩
    exact P1 _ _ (R1.ext (Ext.upd n)) (Keep.ext (Ext.upd n)) (.inl (Rep.tupNew R1 n rl (lim_line hl)))
  · rw [if_neg hl] at e1; cases e1

/-! ### operators by values -/
/-- a value's rule is met by a plain function; nothing that stands is changed -/
def V2 (K : PySem.W.Frag) (r : R2) (q1 q2 q : Bool) (g : D → D → Option D) : Prop :=
  ∀ fr ow s σ H d1 d2 v1 v2 Q d, Rl K fr ow s σ H → RepQ K fr ow q1 H d1 v1 → RepQ K fr ow q2 H d2 v2 → g d1 d2 = some d → (∀ v H', Ext H H' → RepQ K fr ow q H' d v → Q v H') → r v1 v2 H Q
def mOp (g : D → D → Option D) (f1 f2 : M D) : M D := bindM f1 fun d1 => bindM f2 fun d2 => liftM (g d1 d2)
theorem td_op {K : PySem.W.Frag} {r : R2} {q1 q2 : Bool} {g : D → D → Option D} {ta tb : TE} {f1 f2 : M D} (hr : V2 K r q1 q2 q g) (h1 : TDg K (rD K q1) E ta f1) (h2 : TDg K (rD K q2) E tb f2) : TDg K (rD K q) E (tOp r ta tb) (mOp g f1 f2) := by
  intro fr ow s σ H Q r0 R e P
  refine Pst.bind (t := ta) h1 R e P fun d1 ar v1 H1 R1 k1 r1 e1 P1 => ?_
  refine Pst.bind h2 R1 e1 P1 fun d2 ar2 v2 H2 R2 k2 r2 e2 P2 => ?_
  unfold liftM at e2
  cases z : g d1 d2 with
  | none => rw [z] at e2; cases e2
  | some d =>
    rw [z] at e2
    cases e2
    exact hr fr ow _ σ H2 d1 d2 v1 v2 Q d R2 (r1.kp k2) r2 z fun v H3 ex rv => P2 v H3 (R2.ext ex) (Keep.ext ex) rv
theorem de_op {op : Operator} {r : R2} {q1 q2 : Bool} {g : D → D → Option D} {f1 f2 : M D} (ho : OpR X (binaryOp op) r) (hr : V2 X.K r q1 q2 q g) (ha : DE X E q1 a t f1) (hb : DE X E q2 b u f2) : DE X E q (.BinOp a op b pos) (tOp r t u) (mOp g f1 f2) := by
  obtain ⟨h1, h2⟩ := ha
  obtain ⟨h3, h4⟩ := hb
  exact ⟨pe_op ho h1 h3, td_op hr h2 h4⟩
theorem de_cmpR {op : CmpOp} {r : R2} {q1 q2 : Bool} {g : D → D → Option D} {f1 f2 : M D} (ho : OpR X (compareOp op) r) (hr : V2 X.K r q1 q2 q g) (ha : DE X E q1 a t f1) (hb : DE X E q2 b u f2) (hm : behindInMarks op b = false) : DE X E q (.Compare a [op] [b] pos) (tOp r t u) (mOp g f1 f2) := by
  obtain ⟨h1, h2⟩ := ha
  obtain ⟨h3, h4⟩ := hb
  exact ⟨pe_cmpR ho h1 h3 hm, td_op hr h2 h4⟩
def V1 (K : PySem.W.Frag) (r : V → Hp → VK → Prop) (q1 q : Bool) (g : D → Option D) : Prop :=
  ∀ fr ow s σ H d1 v1 Q d, Rl K fr ow s σ H → RepQ K fr ow q1 H d1 v1 → g d1 = some d → (∀ v H', Ext H H' → RepQ K fr ow q H' d v → Q v H') → r v1 H Q
def mUn (g : D → Option D) (f1 : M D) : M D := bindM f1 fun d1 => liftM (g d1)
theorem td_un {K : PySem.W.Frag} {r : V → Hp → VK → Prop} {q1 : Bool} {g : D → Option D} {ta : TE} {f1 : M D} (hr : V1 K r q1 q g) (h1 : TDg K (rD K q1) E ta f1) : TDg K (rD K q) E (tUn r ta) (mUn g f1) := by
  intro fr ow s σ H Q r0 R e P
  refine Pst.bind (t := ta) h1 R e P fun d1 ar v1 H1 R1 k1 r1 e1 P1 => ?_
  unfold liftM at e1
  cases z : g d1 with
  | none => rw [z] at e1; cases e1
  | some d =>
    rw [z] at e1
    cases e1
    exact hr fr ow _ σ H1 d1 v1 Q d R1 r1 z fun v H3 ex rv => P1 v H3 (R1.ext ex) (Keep.ext ex) rv
theorem de_un {op : UnaryOp} {r : V → Hp → VK → Prop} {q1 : Bool} {g : D → Option D} {f1 : M D} (ho : UnR X (unaryOp op) r) (hr : V1 X.K r q1 q g) (ha : DE X E q1 a t f1) : DE X E q (.UnaryOp op a pos) (tUn r t) (mUn g f1) := by
  obtain ⟨h1, h2⟩ := ha
  exact ⟨pe_un ho h1, td_un hr h2⟩

/-! ### tests -/
def asB : D → Option Bool
  | .bl b => some b
  | _ => none
def mB (f : M D) : M Bool := bindM f fun d => liftM (asB d)
theorem td_test {K : PySem.W.Frag} {t : TE} {f : M D} (h : TDg K (rD K false) E t f) : TDg K rB E (tTest t) (mB f) := by
  intro fr ow s σ H Q r0 R e P
  refine Pst.bind (t := t) h R e P fun d1 ar v1 H1 R1 k1 r1 e1 P1 => ?_
  unfold liftM at e1
  cases d1 with
  | bl b =>
    cases e1
    have ev : v1 = .bl b := r1.bl
    exact ⟨b, ev, P1 b H1 R1 Keep.refl rfl⟩
  | _ => cases e1
theorem dt_cmpR {op : CmpOp} {r : R2} {q1 q2 : Bool} {g : D → D → Option D} {f1 f2 : M D} (ho : OpR X (compareOp op) r) (hr : V2 X.K r q1 q2 false g) (ha : DE X E q1 a t f1) (hb : DE X E q2 b u f2) (hm : behindInMarks op b = false) : DT X E (.Compare a [op] [b] pos) (tTest (tOp r t u)) (mB (mOp g f1 f2)) := by
  obtain ⟨h1, h2⟩ := ha
  obtain ⟨h3, h4⟩ := hb
  exact ⟨pt_cmpR ho h1 h3 hm, td_test (td_op hr h2 h4)⟩
/-- any expression, by its truth -/
def truD : D → Option Bool
  | .non => some false
  | .bl b => some b
  | .int i => some (i != 0)
  | .str y => if y.length ≤ LIM then some ((y.length : Int) != 0) else none
  | .tup xs => some (!xs.isEmpty)
  | .wt xs => some (!xs.isEmpty)
  | .lst xs => some (!xs.isEmpty)
  | .dk _ xs => some (!xs.isEmpty)
  | _ => none
def mTru (f : M D) : M Bool := bindM f fun d => liftM (truD d)
theorem isE {K : PySem.W.Frag} {H : Hp} {B : Addr → Prop} {xs : List D} {vs : List V} (h : RepL K H B xs vs) : (!xs.isEmpty) = !vs.isEmpty := by
  have := h.len
  cases xs <;> cases vs <;> first | rfl | cases this
theorem tru_rep {K : PySem.W.Frag} {fr : Frm} {ow : Ow} {H : Hp} {d : D} {v : V} {b : Bool} (h : RepQ K fr ow q H d v) (e : truD d = some b) : TruV K v H b := by
  cases d with
  | non => cases e; rw [h.non]; exact rfl
  | bl b => cases e; rw [h.bl]; exact rfl
  | int i => cases e; rw [h.int]; exact rfl
  | str y =>
    have e : (if y.length ≤ LIM then some ((y.length : Int) != 0) else none) = some b := e
    by_cases hl : y.length ≤ LIM
    · rw [if_pos hl] at e
      cases e
      rw [h.str]
      exact ⟨lim_line hl, rfl⟩
    · rw [if_neg hl] at e; cases e
  | tup xs =>
    cases e
    obtain ⟨p, vs, rfl, _, h1, h2, _⟩ := h.tup
    exact .inr (.inl ⟨vs, SqT.of h1, isE h2⟩)
  | wt xs =>
    cases e
    obtain ⟨p, vs, rfl, _, h1, h2, _⟩ := h.wt
    exact .inr (.inl ⟨vs, .inr h1, isE h2⟩)
  | lst xs =>
    cases e
    obtain ⟨p, vs, rfl, _, _, h1, h2⟩ := h.lst
    exact .inl ⟨vs, SqL.of h1, isE h2⟩
  | dk ks xs =>
    cases e
    obtain ⟨p, kvs, rfl, _, _, h1, h2, h3⟩ := h.dk
    refine .inr (.inr ⟨kvs, h1, (isE h3).trans ?_⟩)
    cases kvs <;> rfl
  | _ => cases e
theorem dt_tru {f : M D} (h : DE X E false a t f) (he : ∀ whole, isTrue a X.env whole = (do let v ← whole; standAt a.pos; holding [v] (truthy v)) := by intro _; rfl) : DT X E a (fun σ H Q => t σ H fun x H' => ∃ k, TruV X.K x H' k ∧ Q k H') (mTru f) := by
  obtain ⟨h1, h2⟩ := h
  refine ⟨pt_truth h1 he, fun fr ow s σ H Q r0 R e P => ?_⟩
  refine Pst.bind h2 R e P fun d1 ar v1 H1 R1 k1 r1 e1 P1 => ?_
  unfold liftM at e1
  cases z : truD d1 with
  | none => rw [z] at e1; cases e1
  | some b =>
    rw [z] at e1
    cases e1
    exact ⟨b, tru_rep r1 z, P1 b H1 R1 Keep.refl rfl⟩
structure DW (X : Cx) (E : XK) (e : Expr) (t : TT) (f : M Bool) : Prop where
  pe : PW X e t
  td : TDg X.K rB E t f
theorem DW.dt {f : M Bool} (h : DW X E e t f) : DT X E e t f := by
  obtain ⟨h1, h2⟩ := h
  exact ⟨h1.pt, h2⟩
def mAnd (f g : M Bool) : M Bool := bindM f fun b => if b then g else retM false
def mOr (f g : M Bool) : M Bool := bindM f fun b => if b then retM true else g
def mNot (f : M Bool) : M Bool := bindM f fun b => retM (!b)
theorem dw_and1 {f : M Bool} (h : DT X E a t f) : DW X E (.BoolOp .And [a] pos) t f := by
  obtain ⟨h1, h2⟩ := h
  exact ⟨pw_and1 h1, h2⟩
theorem dw_or1 {f : M Bool} (h : DT X E a t f) : DW X E (.BoolOp .Or [a] pos) t f := by
  obtain ⟨h1, h2⟩ := h
  exact ⟨pw_or1 h1, h2⟩
theorem dw_and {f g : M Bool} (ha : DT X E a t f) (hb : DW X E (.BoolOp .And (b :: rest) pos) u g) : DW X E (.BoolOp .And (a :: b :: rest) pos) (tAnd t u) (mAnd f g) := by
  obtain ⟨h1, h2⟩ := ha
  obtain ⟨h3, h4⟩ := hb
  refine ⟨pw_and h1 h3, fun fr ow s σ H Q r0 R e P => ?_⟩
  refine Pst.bind (t := t) h2 R e P fun c ar c' H1 R1 k1 r1 e1 P1 => ?_
  obtain rfl : c = c' := r1
  cases c with
  | true => exact h4 fr ow _ σ H1 Q r0 R1 e1 P1
  | false =>
    cases e1
    exact P1 false H1 R1 Keep.refl rfl
theorem dw_or {f g : M Bool} (ha : DT X E a t f) (hb : DW X E (.BoolOp .Or (b :: rest) pos) u g) : DW X E (.BoolOp .Or (a :: b :: rest) pos) (tOr t u) (mOr f g) := by
  obtain ⟨h1, h2⟩ := ha
  obtain ⟨h3, h4⟩ := hb
  refine ⟨pw_or h1 h3, fun fr ow s σ H Q r0 R e P => ?_⟩
  refine Pst.bind (t := t) h2 R e P fun c ar c' H1 R1 k1 r1 e1 P1 => ?_
  obtain rfl : c = c' := r1
  cases c with
  | false => exact h4 fr ow _ σ H1 Q r0 R1 e1 P1
  | true =>
    cases e1
    exact P1 true H1 R1 Keep.refl rfl
theorem dt_not {f : M Bool} (h : DT X E a t f) : DT X E (.UnaryOp .Not a pos) (tNot t) (mNot f) := by
  obtain ⟨h1, h2⟩ := h
  refine ⟨pt_not h1, fun fr ow s σ H Q r0 R e P => ?_⟩
  refine Pst.bind (t := t) h2 R e P fun c ar c' H1 R1 k1 r1 e1 P1 => ?_
  obtain rfl : c = c' := r1
  cases e1
  exact P1 (!c) H1 R1 Keep.refl rfl
/-- and, or, not as values (of bools) -/
def mAndV (f g : M D) : M D := bindM f fun d => match d with
  | .bl true => g
  | .bl false => retM (.bl false)
  | _ => fun _ => none
def mOrV (f g : M D) : M D := bindM f fun d => match d with
  | .bl false => g
  | .bl true => retM (.bl true)
  | _ => fun _ => none
theorem de_one {op} {f : M D} (h : DE X E q a t f) : DE X E q (.BoolOp op [a] pos) t f := by
  obtain ⟨h1, h2⟩ := h
  exact ⟨pe_one h1, h2⟩
theorem de_and {f g : M D} (ha : DE X E false a t f) (hb : DE X E q (.BoolOp .And (b :: rest) pos) u g) : DE X E q (.BoolOp .And (a :: b :: rest) pos) (tAndV t u) (mAndV f g) := by
  obtain ⟨h1, h2⟩ := ha
  obtain ⟨h3, h4⟩ := hb
  refine ⟨pe_and h1 h3, fun fr ow s σ H Q r0 R e P => ?_⟩
  refine Pst.bind (t := t) h2 R e P fun d ar v H1 R1 k1 r1 e1 P1 => ?_
  cases d with
  | bl c =>
    refine ⟨c, r1.bl, ?_⟩
    cases c with
    | true => exact h4 fr ow _ σ H1 Q r0 R1 e1 P1
    | false =>
      cases e1
      exact P1 _ H1 R1 Keep.refl (.inl rfl)
  | _ => cases e1
theorem de_or {f g : M D} (ha : DE X E false a t f) (hb : DE X E q (.BoolOp .Or (b :: rest) pos) u g) : DE X E q (.BoolOp .Or (a :: b :: rest) pos) (tOrV t u) (mOrV f g) := by
  obtain ⟨h1, h2⟩ := ha
  obtain ⟨h3, h4⟩ := hb
  refine ⟨pe_or h1 h3, fun fr ow s σ H Q r0 R e P => ?_⟩
  refine Pst.bind (t := t) h2 R e P fun d ar v H1 R1 k1 r1 e1 P1 => ?_
  cases d with
  | bl c =>
    refine ⟨c, r1.bl, ?_⟩
    cases c with
    | false => exact h4 fr ow _ σ H1 Q r0 R1 e1 P1
    | true =>
      cases e1
      exact P1 _ H1 R1 Keep.refl (.inl rfl)
  | _ => cases e1
def mNotV (f : M D) : M D := bindM f fun d => match d with
  | .bl c => retM (.bl (!c))
  | _ => fun _ => none
theorem de_not {f : M D} (ha : DE X E false a t f) : DE X E q (.UnaryOp .Not a pos) (tNotV t) (mNotV f) := by
  obtain ⟨h1, h2⟩ := ha
  refine ⟨pe_not h1, fun fr ow s σ H Q r0 R e P => ?_⟩
  refine Pst.bind (t := t) h2 R e P fun d ar v H1 R1 k1 r1 e1 P1 => ?_
  cases d with
  | bl c =>
    cases e1
    exact ⟨c, r1.bl, P1 _ H1 R1 Keep.refl (.inl rfl)⟩
  | _ => cases e1
def mIf {α : Type} (c : M Bool) (f g : M α) : M α := bindM c fun b => if b then f else g
theorem de_ife {c : Expr} {fc : M Bool} {f g : M D} (hc : DT X E c tc fc) (ha : DE X E q a t f) (hb : DE X E q b u g) : DE X E q (.IfExp c a b pos) (tIf tc t u) (mIf fc f g) := by
  obtain ⟨h0, h0'⟩ := hc
  obtain ⟨h1, h2⟩ := ha
  obtain ⟨h3, h4⟩ := hb
  refine ⟨pe_ifExp h0 h1 h3, fun fr ow s σ H Q r0 R e P => ?_⟩
  refine Pst.bind (t := tc) h0' R e P fun c ar c' H1 R1 k1 r1 e1 P1 => ?_
  obtain rfl : c = c' := r1
  cases c with
  | true => exact h2 fr ow _ σ H1 Q r0 R1 e1 P1
  | false => exact h4 fr ow _ σ H1 Q r0 R1 e1 P1
/-- a < b < c -/
def mChain (g g' : D → D → Option D) (f1 f2 f3 : M D) : M D := bindM f1 fun d1 => bindM f2 fun d2 => bindM (liftM (g d1 d2)) fun z => match z with
  | .bl true => bindM f3 fun d3 => liftM (g' d2 d3)
  | .bl false => retM (.bl false)
  | _ => fun _ => none
end
end DL
set_option Elab.async false
set_option linter.all false
set_option maxRecDepth 100000
/-! DD: operators, comparisons, subscripts, calls of built-ins, by values -/
namespace DL
open PySem L2

/-! ### data as the library's data -/
mutual
def D.py : D → PyData
  | .non => .none
  | .bl b => .bool b
  | .int i => .int i
  | .str s => .str s
  | .tup xs => .tuple (D.pyL xs)
  | .wt xs => .tuple (D.pyL xs)
  | .lst xs => .list (D.pyL xs)
  | .adr _ => .dict []
  | .ty _ => .dict []
  | .dk _ _ => .dict []
  | .dt _ _ => .dict []
  | .ins _ _ _ => .dict []
def D.pyL : List D → List PyData
  | [] => []
  | x :: xs => x.py :: D.pyL xs
end
section
variable {K : PySem.W.Frag} {H : Hp} {B : Addr → Prop}
mutual
theorem Rep.dp : ∀ {d : D} {v : V}, d.py.plain = true → Rep K H B d v → Dp K H v d.py
  | .non, v, _, h => by
    have e : v = .non := h
    subst e; exact .non
  | .bl b, v, _, h => by
    have e : v = .bl b := h
    subst e; exact .bl b
  | .int b, v, _, h => by
    have e : v = .int b := h
    subst e; exact .int b
  | .str b, v, _, h => by
    have e : v = .str b := h
    subst e; exact .str b
  | .tup xs, v, p, h => by
    obtain ⟨a, vs, rfl, _, ⟨_, h1⟩, h2⟩ := h
    rw [D.py]
    exact .tup (.inl (.inl h1)) (RepL.dp (by simpa [D.py, PyData.plain] using p) h2)
  | .wt xs, v, p, h => by
    obtain ⟨a, vs, rfl, _, h1, h2⟩ := h
    rw [D.py]
    exact .tup (.inr h1) (RepL.dp (by simpa [D.py, PyData.plain] using p) h2)
  | .lst xs, v, p, h => by
    obtain ⟨a, vs, rfl, _, ⟨_, h1⟩, h2⟩ := h
    rw [D.py]
    exact .lst (.inl (.inl h1)) (RepL.dp (by simpa [D.py, PyData.plain] using p) h2)
  | .adr _, _, p, _ => by simp [D.py, PyData.plain] at p
  | .ty _, _, p, _ => by simp [D.py, PyData.plain] at p
  | .dk _ _, _, p, _ => by simp [D.py, PyData.plain] at p
  | .dt _ _, _, p, _ => by simp [D.py, PyData.plain] at p
  | .ins _ _ _, _, p, _ => by simp [D.py, PyData.plain] at p
theorem RepL.dp : ∀ {ds : List D} {vs : List V}, PyData.plainAll (D.pyL ds) = true → RepL K H B ds vs → DpAll K H vs (D.pyL ds)
  | [], vs, _, h => by
    have e : vs = [] := h
    subst e
    rw [D.pyL]; exact .nil
  | d :: ds, vs, p, h => by
    obtain ⟨v, r, rfl, h1, h2⟩ := h
    rw [D.pyL] at p ⊢
    simp only [PyData.plainAll, Bool.and_eq_true] at p
    exact .cons (Rep.dp p.1 h1) (RepL.dp p.2 h2)
end
theorem RepQ.dp {fr : Frm} {ow : Ow} {q : Bool} {d : D} {v : V} (p : d.py.plain = true) (h : RepQ K fr ow q H d v) : Dp K H v d.py := by
  rcases h with h | ⟨_, h⟩
  · exact h.dp p
  · cases d with
    | lst xs =>
      obtain ⟨a, vs, rfl, _, _, h1, h2⟩ := h
      rw [D.py]
      exact .lst (.inl (.inl h1)) (h2.dp (by simpa [D.py, PyData.plain] using p))
    | dk ks xs => simp [D.py, PyData.plain] at p
    | _ => exact h.elim
end
/-- what == may compare -/
def D.okc (d : D) : Bool := d.py.plain && decide (d.py.depth ≤ 30)
def gEq (a b : D) : Option D := if (a.okc && b.okc) = true then some (.bl (PyData.eqv a.py b.py)) else none
def gNe (a b : D) : Option D := if (a.okc && b.okc) = true then some (.bl (!PyData.eqv a.py b.py)) else none
section
variable {X : Cx} {q1 q2 q : Bool}
def rEqP (K : PySem.W.Frag) : R2 := fun x y H Q => ∃ d e, Dp K H x d ∧ Dp K H y e ∧ d.plain = true ∧ e.plain = true ∧ d.depth ≤ 30 ∧ Q (.bl (PyData.eqv d e)) H
def rNeP (K : PySem.W.Frag) : R2 := fun x y H Q => ∃ d e, Dp K H x d ∧ Dp K H y e ∧ d.plain = true ∧ e.plain = true ∧ d.depth ≤ 30 ∧ Q (.bl (!PyData.eqv d e)) H
theorem op_eqP (hu : X.A.units + 64 < cLine) : OpR X (compareOp .Eq) (rEqP X.K) := by
  intro pins s σ H x y v u Q I rx ry h
  obtain ⟨d, e, hd, he, sd, se, dp, q⟩ := h
  obtain ⟨as, r1⟩ := Dp.reads I d x v hd rx
  obtain ⟨bs, r2⟩ := Dp.reads I e y u he ry
  exact SeqAt.eq_plain r1 r2 sd se (by have := Nat.min_le_left d.depth e.depth; omega) ⟨.bl _, H, I, rfl, q⟩
theorem op_neP (hu : X.A.units + 64 < cLine) : OpR X (compareOp .NotEq) (rNeP X.K) := by
  intro pins s σ H x y v u Q I rx ry h
  obtain ⟨d, e, hd, he, sd, se, dp, q⟩ := h
  obtain ⟨as, r1⟩ := Dp.reads I d x v hd rx
  obtain ⟨bs, r2⟩ := Dp.reads I e y u he ry
  exact SeqAt.ne_plain r1 r2 sd se (by have := Nat.min_le_left d.depth e.depth; omega) ⟨.bl _, H, I, rfl, q⟩
theorem okc_and {a b : D} (h : (a.okc && b.okc) = true) : a.py.plain = true ∧ b.py.plain = true ∧ a.py.depth ≤ 30 ∧ b.py.depth ≤ 30 := by
  unfold D.okc at h
  simp only [Bool.and_eq_true, decide_eq_true_eq] at h
  exact ⟨h.1.1, h.2.1, h.1.2, h.2.2⟩
theorem v_eq {K : PySem.W.Frag} : V2 K (rEqP K) q1 q2 q gEq := by
  intro fr ow s σ H d1 d2 v1 v2 Q d R r1 r2 e k
  unfold gEq at e
  by_cases h : (d1.okc && d2.okc) = true
  · rw [if_pos h] at e
    cases e
    obtain ⟨h1, h2, h3, _⟩ := okc_and h
    exact ⟨d1.py, d2.py, r1.dp h1, r2.dp h2, h1, h2, h3, k _ H (fun _ _ z => z) (.inl rfl)⟩
  · rw [if_neg h] at e; cases e
theorem v_ne {K : PySem.W.Frag} : V2 K (rNeP K) q1 q2 q gNe := by
  intro fr ow s σ H d1 d2 v1 v2 Q d R r1 r2 e k
  unfold gNe at e
  by_cases h : (d1.okc && d2.okc) = true
  · rw [if_pos h] at e
    cases e
    obtain ⟨h1, h2, h3, _⟩ := okc_and h
    exact ⟨d1.py, d2.py, r1.dp h1, r2.dp h2, h1, h2, h3, k _ H (fun _ _ z => z) (.inl rfl)⟩
  · rw [if_neg h] at e; cases e

/-! ### ints -/
def g2I (c : Int → Int → Bool) (f : Int → Int → D) (a b : D) : Option D := match a, b with
  | .int i, .int j => if c i j = true then some (f i j) else none
  | _, _ => none
theorem g2I_some {c : Int → Int → Bool} {f : Int → Int → D} {a b d : D} (h : g2I c f a b = some d) : ∃ i j, a = .int i ∧ b = .int j ∧ c i j = true ∧ d = f i j := by
  unfold g2I at h
  split at h
  · split at h
    · rename_i hc
      cases h
      exact ⟨_, _, rfl, rfl, hc, rfl⟩
    · cases h
  · cases h
theorem v_int2 {K : PySem.W.Frag} {c : Int → Int → Bool} {f : Int → Int → D} {r : R2} (hr : ∀ i j H (Q : VK), c i j = true → (∀ v, Rep K H (fun _ => False) (f i j) v → Q v H) → r (.int i) (.int j) H Q) (hf : ∀ i j, (f i j).flat = true) : V2 K r q1 q2 q (g2I c f) := by
  intro fr ow s σ H d1 d2 v1 v2 Q d R r1 r2 e k
  obtain ⟨i, j, rfl, rfl, hc, rfl⟩ := g2I_some e
  rw [r1.int, r2.int]
  exact hr i j H Q hc fun v rv => k v H (fun _ _ z => z) (.inl (rv.flat (hf i j)))
abbrev okT : Int → Int → Bool := fun _ _ => true
def gSub := g2I okT fun i j => .int (i - j)
def gMul := g2I (fun i j => (decide (-(2 ^ 64) < i) && decide (i < 2 ^ 64)) || (decide (-(2 ^ 64) < j) && decide (j < 2 ^ 64))) fun i j => .int (i * j)
def gMod := g2I (fun _ j => decide (0 < j)) fun i j => .int (i % j)
def gFdiv := g2I (fun _ j => decide (0 < j) && decide (j < 1073741824)) fun i j => .int (i / j)
def gPow := g2I (fun i j => decide (0 ≤ j) && decide (j ≤ 1000000) && decide (i.natAbs < 2 ^ 64)) fun i j => .int (i ^ j.toNat)
def gLt := g2I okT fun i j => .bl (decide (i < j))
def gLe := g2I okT fun i j => .bl (decide (i ≤ j))
def gGt := g2I okT fun i j => .bl (decide (j < i))
def gGe := g2I okT fun i j => .bl (decide (j ≤ i))
theorem v_sub {K : PySem.W.Frag} : V2 K (rI0 fun i j => .int (i - j)) q1 q2 q gSub := v_int2 (fun i j H Q _ k => ⟨i, j, rfl, rfl, k _ rfl⟩) fun _ _ => rfl
theorem v_mul {K : PySem.W.Frag} : V2 K (rI CMul fun i j => .int (i * j)) q1 q2 q gMul := v_int2 (fun i j H Q c k => by
  refine ⟨i, j, rfl, rfl, ?_, k _ rfl⟩
  simp only [Bool.or_eq_true, Bool.and_eq_true, decide_eq_true_eq] at c
  exact c) fun _ _ => rfl
theorem v_mod {K : PySem.W.Frag} : V2 K (rI (fun _ j => 0 < j) fun i j => .int (i % j)) q1 q2 q gMod := v_int2 (fun i j H Q c k => ⟨i, j, rfl, rfl, of_decide_eq_true c, k _ rfl⟩) fun _ _ => rfl
theorem v_fdiv {K : PySem.W.Frag} : V2 K (rI CDiv fun i j => .int (i / j)) q1 q2 q gFdiv := v_int2 (fun i j H Q c k => by
  refine ⟨i, j, rfl, rfl, ?_, k _ rfl⟩
  simp only [Bool.and_eq_true, decide_eq_true_eq] at c
  exact c) fun _ _ => rfl
theorem v_pow {K : PySem.W.Frag} : V2 K (rI CPow fun i j => .int (i ^ j.toNat)) q1 q2 q gPow := v_int2 (fun i j H Q c k => by
  refine ⟨i, j, rfl, rfl, ?_, k _ rfl⟩
  simp only [Bool.and_eq_true, decide_eq_true_eq] at c
  exact ⟨c.1.1, c.1.2, c.2⟩) fun _ _ => rfl
theorem v_lt {K : PySem.W.Frag} : V2 K (rI0 fun i j => .bl (decide (i < j))) q1 q2 q gLt := v_int2 (fun i j H Q _ k => ⟨i, j, rfl, rfl, k _ rfl⟩) fun _ _ => rfl
theorem v_le {K : PySem.W.Frag} : V2 K (rI0 fun i j => .bl (decide (i ≤ j))) q1 q2 q gLe := v_int2 (fun i j H Q _ k => ⟨i, j, rfl, rfl, k _ rfl⟩) fun _ _ => rfl
theorem v_gt {K : PySem.W.Frag} : V2 K (rI0 fun i j => .bl (decide (j < i))) q1 q2 q gGt := v_int2 (fun i j H Q _ k => ⟨i, j, rfl, rfl, k _ rfl⟩) fun _ _ => rfl
theorem v_ge {K : PySem.W.Frag} : V2 K (rI0 fun i j => .bl (decide (j ≤ i))) q1 q2 q gGe := v_int2 (fun i j H Q _ k => ⟨i, j, rfl, rfl, k _ rfl⟩) fun _ _ => rfl
def gNeg : D → Option D
  | .int i => some (.int (-i))
  | _ => none
theorem v_neg {K : PySem.W.Frag} : V1 K (rU fun i => .int (-i)) q1 q gNeg := by
  intro fr ow s σ H d1 v1 Q d R r1 e k
  cases d1 with
  | int i =>
    cases e
    rw [r1.int]
    exact ⟨i, rfl, k _ H (fun _ _ z => z) (.inl rfl)⟩
  | _ => cases e

/-! ### is None, True, False -/
def isD (c : D) (d : D) : Option D := match c, d with
  | .non, .non => some (.bl true)
  | .bl a, .bl b => some (.bl (a == b))
  | .non, _ => some (.bl false)
  | .bl _, _ => some (.bl false)
  | _, _ => none
def gIs (a b : D) : Option D := isD b a
def gIsNot (a b : D) : Option D := (isD b a).bind fun d => match d with
  | .bl c => some (.bl (!c))
  | _ => none
def cV : V → Option V → Bool := fun _ _ => true
/-- v is w, w one of None, True, False -/
def rIs (n : Bool) : R2 := fun x y H Q => (y = .non ∨ ∃ b, y = .bl b) ∧ Q (.bl (if n then !decide (x = y) else decide (x = y))) H
theorem is_bool_gen {M : Model} {A : Around} {E : Value → Shared → Prop} {s : Shared} {Q : Value → Shared → Prop} {x : V} {v : Value} {b : Bool} (r : RelV x v) (h : Q (.bool (v == .bool b)) s) : wpAny M A (compareOp .Is v (.bool b)) Q E s := by
  cases x <;> first
    | (cases r; exact wpAny_pure h)
    | (obtain ⟨t, rfl⟩ := r; exact wpAny_pure h)
theorem isnot_bool_gen {M : Model} {A : Around} {E : Value → Shared → Prop} {s : Shared} {Q : Value → Shared → Prop} {x : V} {v : Value} {b : Bool} (r : RelV x v) (h : Q (.bool (!(v == .bool b))) s) : wpAny M A (compareOp .IsNot v (.bool b)) Q E s := by
  cases x <;> first
    | (cases r; exact wpAny_pure h)
    | (obtain ⟨t, rfl⟩ := r; exact wpAny_pure h)
theorem RelV.bool_iff {x : V} {v : Value} {b : Bool} (r : RelV x v) : (v == Value.bool b) = decide (x = .bl b) := by
  cases x with
  | non => cases r; rfl
  | bl c => cases r; cases b <;> cases c <;> rfl
  | int _ => obtain ⟨t, rfl⟩ := r; rfl
  | str _ => obtain ⟨t, rfl⟩ := r; rfl
  | byt _ => obtain ⟨t, rfl⟩ := r; rfl
  | flt _ => obtain ⟨t, rfl⟩ := r; rfl
  | ref _ => cases r; rfl
  | ty _ => cases r; rfl
theorem op_is : OpR X (compareOp .Is) (rIs false) := by
  intro pins s σ H x y v u Q I rx ry h
  obtain ⟨c, q⟩ := h
  rcases c with rfl | ⟨b, rfl⟩
  · cases ry
    exact PyProof.Rows.is_none_gen (fin_bl I q (by rw [L2.RelV.none_iff rx]; rfl))
  · cases ry
    exact is_bool_gen rx (fin_bl I q (by rw [RelV.bool_iff rx]; rfl))
theorem op_isnot : OpR X (compareOp .IsNot) (rIs true) := by
  intro pins s σ H x y v u Q I rx ry h
  obtain ⟨c, q⟩ := h
  rcases c with rfl | ⟨b, rfl⟩
  · cases ry
    exact PyProof.Rows.isnot_none_gen (fin_bl I q (by rw [L2.RelV.none_iff rx]; rfl))
  · cases ry
    exact isnot_bool_gen rx (fin_bl I q (by rw [RelV.bool_iff rx]; rfl))
theorem RepQ.ne_flat {K : PySem.W.Frag} {fr : Frm} {ow : Ow} {H : Hp} {d : D} {v : V} (h : RepQ K fr ow q H d v) : (v = .non → d = .non) ∧ ∀ b, v = .bl b → d = .bl b := by
  cases d with
  | non => rw [h.non]; exact ⟨(fun _ => rfl), (fun b e => nomatch e)⟩
  | bl c => rw [h.bl]; exact ⟨(fun e => nomatch e), (fun b e => by cases e; rfl)⟩
  | int i => rw [h.int]; exact ⟨(fun e => nomatch e), (fun b e => nomatch e)⟩
  | str i => rw [h.str]; exact ⟨(fun e => nomatch e), (fun b e => nomatch e)⟩
  | adr i => rw [h.adr]; exact ⟨(fun e => nomatch e), (fun b e => nomatch e)⟩
  | ty i => rw [h.ty]; exact ⟨(fun e => nomatch e), (fun b e => nomatch e)⟩
  | tup i => obtain ⟨p, _, rfl, _⟩ := h.tup; exact ⟨(fun e => nomatch e), (fun b e => nomatch e)⟩
  | wt i => obtain ⟨p, _, rfl, _⟩ := h.wt; exact ⟨(fun e => nomatch e), (fun b e => nomatch e)⟩
  | lst i => obtain ⟨p, _, rfl, _⟩ := h.lst; exact ⟨(fun e => nomatch e), (fun b e => nomatch e)⟩
  | dk i => obtain ⟨p, _, rfl, _⟩ := h.dk; exact ⟨(fun e => nomatch e), (fun b e => nomatch e)⟩
  | dt i => obtain ⟨p, _, rfl, _⟩ := h.dt; exact ⟨(fun e => nomatch e), (fun b e => nomatch e)⟩
  | ins i => obtain ⟨p, _, _, rfl, _⟩ := h.ins; exact ⟨(fun e => nomatch e), (fun b e => nomatch e)⟩
theorem is_ans {K : PySem.W.Frag} {fr : Frm} {ow : Ow} {H : Hp} {c d r : D} {v w : V} (h : RepQ K fr ow q H d v) (hc : RepQ K fr ow q2 H c w) (e : isD c d = some r) : (w = .non ∨ ∃ b, w = .bl b) ∧ r = .bl (decide (v = w)) := by
  have nf := h.ne_flat
  cases c with
  | non =>
    rw [hc.non]
    refine ⟨.inl rfl, ?_⟩
    cases d <;> first
      | (cases e; rw [h.non]; rfl)
      | (cases e; rw [decide_eq_false fun z => nomatch nf.1 z])
  | bl b =>
    rw [hc.bl]
    refine ⟨.inr ⟨b, rfl⟩, ?_⟩
    cases d with
    | bl c => cases e; rw [h.bl]; cases b <;> cases c <;> rfl
    | _ => cases e; rw [decide_eq_false fun z => nomatch nf.2 _ z]
  | _ => cases d <;> cases e
theorem v_is {K : PySem.W.Frag} : V2 K (rIs false) q1 q2 q gIs := by
  intro fr ow s σ H d1 d2 v1 v2 Q d R r1 r2 e k
  obtain ⟨h1, rfl⟩ := is_ans r1 r2 e
  exact ⟨h1, k _ H (fun _ _ z => z) (.inl rfl)⟩
theorem v_isnot {K : PySem.W.Frag} : V2 K (rIs true) q1 q2 q gIsNot := by
  intro fr ow s σ H d1 d2 v1 v2 Q d R r1 r2 e k
  unfold gIsNot at e
  cases z : isD d2 d1 with
  | none => rw [z] at e; cases e
  | some x =>
    obtain ⟨h1, rfl⟩ := is_ans r1 r2 z
    rw [z] at e
    cases e
    exact ⟨h1, k _ H (fun _ _ z => z) (.inl rfl)⟩

/-! ### + and * -/
def gAdd (a b : D) : Option D := match a, b with
  | .int i, .int j => some (.int (i + j))
  | .str i, .str j => if i.length + j.length ≤ LIM then some (.str (i ++ j)) else none
  | .lst xs, .lst ys => if xs.length + ys.length ≤ LIM then some (.lst (xs ++ ys)) else none
  | .tup xs, .tup ys => if xs.length + ys.length ≤ LIM then some (.tup (xs ++ ys)) else none
  | _, _ => none
abbrev rAdd4 (K : PySem.W.Frag) : R2 := fun x y H Q => (rI0 (fun i j => .int (i + j)) x y H Q) ∨ ((∃ i j, x = .str i ∧ y = .str j ∧ i.length + j.length ≤ sizeLine ∧ Q (.str (i ++ j)) H) ∨ (rCat x y H Q ∨ rCatA K x y H Q))
theorem op_add4 : OpR X (binaryOp .Add) (rAdd4 X.K) := op_add.or (op_add_str.or (op_cat.or op_catA))
theorem v_add {K : PySem.W.Frag} : V2 K (rAdd4 K) q1 q2 q gAdd := by
  intro fr ow s σ H d1 d2 v1 v2 Q d R r1 r2 e k
  unfold gAdd at e
  split at e
  · cases e
    rw [r1.int, r2.int]
    exact .inl ⟨_, _, rfl, rfl, k _ H (fun _ _ z => z) (.inl rfl)⟩
  · split at e
    · rename_i hl
      cases e
      rw [r1.str, r2.str]
      exact .inr (.inl ⟨_, _, rfl, rfl, lim_line hl, k _ H (fun _ _ z => z) (.inl rfl)⟩)
    · cases e
  · split at e
    · rename_i hl
      cases e
      obtain ⟨p, vs, rfl, _, _, h1, l1⟩ := r1.lst
      obtain ⟨p2, ws, rfl, _, _, h2, l2⟩ := r2.lst
      refine .inr (.inr (.inl ⟨p, p2, vs, ws, rfl, rfl, h1, h2, by rw [l1.len, l2.len]; exact lim_line hl, fun a n => ?_⟩))
      exact k _ _ (Ext.upd n) (.inl ⟨a, _, rfl, by rw [List.length_append]; exact lim_line hl, ⟨R.fresh n, upd_same⟩, ((l1.app l2).new n).weak fun b z => .inl z⟩)
    · cases e
  · split at e
    · rename_i hl
      cases e
      obtain ⟨p, vs, rfl, _, h1, l1, c1⟩ := r1.tup
      obtain ⟨p2, ws, rfl, _, h2, l2, c2⟩ := r2.tup
      refine .inr (.inr (.inr ⟨p, p2, vs, ws, rfl, rfl, SqT.of h1, SqT.of h2, by rw [l1.len, l2.len]; exact lim_line hl, fun e0 => ?_, fun _ e0 => ?_, fun _ _ a n => ?_⟩))
      · have e1 := l1.len
        rw [e0] at e1
        have e2 := List.eq_nil_of_length_eq_zero e1.symm
        refine k _ H (fun _ _ z => z) (.inl ?_)
        rw [e2, List.nil_append]
        exact c2
      · have e1 := l2.len
        rw [e0] at e1
        have e2 := List.eq_nil_of_length_eq_zero e1.symm
        refine k _ H (fun _ _ z => z) (.inl ?_)
        rw [e2, List.append_nil]
        exact c1
      · exact k _ _ (Ext.upd n) (.inl (Rep.tupNew R n (l1.app l2) (by rw [List.length_append]; exact lim_line hl)))
    · cases e
  · cases e
/-- list + list, list * int as new lists -/
def VF2 (K : PySem.W.Frag) (r : R2) (q1 q2 : Bool) (g : D → D → Option (List D)) : Prop :=
  ∀ fr ow s σ H d1 d2 v1 v2 Q d, Rl K fr ow s σ H → RepQ K fr ow q1 H d1 v1 → RepQ K fr ow q2 H d2 v2 → g d1 d2 = some d → (∀ v H', Ext H H' → rF K fr ow s σ H' d v → Q v H') → r v1 v2 H Q
def mOpF (g : D → D → Option (List D)) (f1 f2 : M D) : M (List D) := bindM f1 fun d1 => bindM f2 fun d2 => liftM (g d1 d2)
theorem df_op {E : XK} {a b : Expr} {pos : Pos} {op : Operator} {r : R2} {g : D → D → Option (List D)} {f1 f2 : M D} (ho : OpR X (binaryOp op) r) (hr : VF2 X.K r q1 q2 g) (ha : DE X E q1 a ta f1) (hb : DE X E q2 b tb f2) : DF X E (.BinOp a op b pos) (tOp r ta tb) (mOpF g f1 f2) := by
  obtain ⟨h1, h1'⟩ := ha
  obtain ⟨h2, h2'⟩ := hb
  refine ⟨pe_op ho h1 h2, ?_⟩
  intro fr ow s σ H Q r0 R e P
  refine Pst.bind (t := ta) h1' R e P fun d1 ar v1 H1 R1 k1 r1 e1 P1 => ?_
  refine Pst.bind (t := tb) h2' R1 e1 P1 fun d2 ar2 v2 H2 R2 k2 r2 e2 P2 => ?_
  unfold liftM at e2
  cases z : g d1 d2 with
  | none => rw [z] at e2; cases e2
  | some d =>
    rw [z] at e2
    cases e2
    exact hr fr ow _ σ H2 d1 d2 v1 v2 Q d R2 (r1.kp k2) r2 z fun v H3 ex rv => P2 v H3 (R2.ext ex) (Keep.ext ex) rv
def gCat (a b : D) : Option (List D) := match a, b with
  | .lst xs, .lst ys => if xs.length + ys.length ≤ LIM then some (xs ++ ys) else none
  | _, _ => none
theorem vf_cat {K : PySem.W.Frag} : VF2 K rCat q1 q2 gCat := by
  intro fr ow s σ H d1 d2 v1 v2 Q d R r1 r2 e k
  unfold gCat at e
  split at e
  · split at e
    · rename_i hl
      cases e
      obtain ⟨p, vs, rfl, _, _, h1, l1⟩ := r1.lst
      obtain ⟨p2, ws, rfl, _, _, h2, l2⟩ := r2.lst
      refine ⟨p, p2, vs, ws, rfl, rfl, h1, h2, by rw [l1.len, l2.len]; exact lim_line hl, fun a n => ?_⟩
      exact k _ _ (Ext.upd n) (rF_new R n (l1.app l2) (by rw [List.length_append]; exact lim_line hl))
    · cases e
  · cases e
def gRep (a b : D) : Option (List D) := match a, b with
  | .lst xs, .int j => if (decide (-(2 ^ 62) ≤ j) && decide (j < 2 ^ 62) && decide (xs.length * j.toNat ≤ LIM)) = true then some (List.replicate j.toNat xs).flatten else none
  | _, _ => none
theorem rep_len {α : Type} (xs : List α) : ∀ k : Nat, (List.replicate k xs).flatten.length = xs.length * k
  | 0 => by simp
  | k + 1 => by rw [List.replicate_succ, List.flatten_cons, List.length_append, rep_len xs k, Nat.mul_succ]; omega
theorem vf_rep {K : PySem.W.Frag} : VF2 K rRep q1 q2 gRep := by
  intro fr ow s σ H d1 d2 v1 v2 Q d R r1 r2 e k
  unfold gRep at e
  split at e
  · split at e
    · rename_i hl
      cases e
      simp only [Bool.and_eq_true, decide_eq_true_eq] at hl
      obtain ⟨p, vs, rfl, _, _, h1, l1⟩ := r1.lst
      rw [r2.int]
      refine ⟨p, _, vs, rfl, rfl, h1, by omega, by omega, by rw [l1.len]; exact lim_line hl.2, fun a n => ?_⟩
      exact k _ _ (Ext.upd n) (rF_new R n (l1.rep _) (by rw [rep_len]; exact lim_line hl.2))
    · cases e
  · cases e
end
end DL
set_option Elab.async false
set_option linter.all false
set_option maxRecDepth 100000
/-! DI: in, subscripts, attributes, calls of built-ins -/
namespace DL
open PySem L2
section
variable {X : Cx} {E : XK} {q1 q2 q : Bool} {e a b : Expr} {es : List Expr} {pos p : Pos}

/-! ### keys -/
def D.key : D → Option Key
  | .int i => some (.inl i)
  | .str s => some (.inr s)
  | _ => none
def keysOf : List D → Option (List Key)
  | [] => some []
  | d :: ds => match d.key, keysOf ds with
    | some k, some ks => some (k :: ks)
    | _, _ => none
theorem key_v {K : PySem.W.Frag} {fr : Frm} {ow : Ow} {H : Hp} {d : D} {v : V} {k : Key} (h : RepQ K fr ow q H d v) (e : d.key = some k) : v = kV k := by
  cases d with
  | int i => cases e; exact h.int
  | str i => cases e; exact h.str
  | _ => cases e
theorem keys_v {K : PySem.W.Frag} {H : Hp} {B : Addr → Prop} : ∀ {ds : List D} {vs : List V} {ks : List Key}, RepL K H B ds vs → keysOf ds = some ks → vs = ks.map kV
  | [], vs, ks, h, e => by
    cases e
    exact h
  | d :: ds, vs, ks, h, e => by
    obtain ⟨v, r, rfl, h1, h2⟩ := h
    unfold keysOf at e
    cases z : d.key with
    | none => rw [z] at e; cases e
    | some k =>
      cases z2 : keysOf ds with
      | none => rw [z, z2] at e; cases e
      | some ks' =>
        rw [z, z2] at e
        cases e
        have e1 : v = kV k := key_v (fr := ⟨fun _ => False, [], H, fun _ => False⟩) (ow := []) (q := true) (.inl (Rep.keep (K := K) (H := H) (H' := H) (B := B) (B' := fun a => ((fun _ => False) a ∨ a ∈ ([] : List Addr)) ∨ some a ∈ ([] : Ow)) (fun a o _ z => ⟨z, by simp⟩) h1)) z
        rw [e1, keys_v h2 z2]; rfl
def kvAt {κ : Type} [DecidableEq κ] : List κ → List D → κ → Option D
  | k :: ks, d :: ds, j => if k = j then some d else kvAt ks ds j
  | _, _, _ => none
theorem kvAt_val {κ : Type} [DecidableEq κ] {K : PySem.W.Frag} {H : Hp} {B : Addr → Prop} : ∀ {kvs : List (κ × V)} {ks : List κ} {xs : List D} (j : κ), kvs.map (·.1) = ks → RepL K H B xs (kvs.map (·.2)) →
    match kvAt ks xs j with | some d => ∃ v, valV kvs j = some v ∧ Rep K H B d v | none => valV kvs j = none
  | [], ks, xs, j, e, h => by
    subst e
    cases xs with
    | nil => exact rfl
    | cons x xs => obtain ⟨v, r, e, _⟩ := h; cases e
  | (k, v) :: kvs, ks, xs, j, e, h => by
    subst e
    cases xs with
    | nil => cases h
    | cons x xs =>
      obtain ⟨v', r, e, h1, h2⟩ := h
      have e1 : v = v' := (List.cons.inj e).1
      have e2 : kvs.map (·.2) = r := (List.cons.inj e).2
      subst e1 e2
      show match (if k = j then some x else kvAt (kvs.map (·.1)) xs j) with | some d => ∃ w, valV ((k, v) :: kvs) j = some w ∧ Rep K H B d w | none => valV ((k, v) :: kvs) j = none
      by_cases hk : k = j
      · rw [if_pos hk]
        exact ⟨v, valV_pos hk, h1⟩
      · rw [if_neg hk, valV_neg hk]
        exact kvAt_val j rfl h2

/-! ### subscripts -/
theorem rep_atI {K : PySem.W.Frag} {H : Hp} {B : Addr → Prop} {xs : List D} {vs : List V} {i : Int} {d : D} (h : RepL K H B xs vs) (e : atI xs i = some d) : ∃ v, atI vs i = some v ∧ Rep K H B d v := by
  unfold atI at e ⊢
  rw [h.len]
  cases z : ixN xs.length i with
  | none => rw [z] at e; cases e
  | some j =>
    rw [z] at e
    exact h.get e
def gIx (a i : D) : Option D := match a with
  | .lst xs => match i with
    | .int i => atI xs i
    | _ => none
  | .tup xs => match i with
    | .int i => atI xs i
    | _ => none
  | .wt xs => match i with
    | .int i => atI xs i
    | _ => none
  | .str z => match i with
    | .int i => if z.length ≤ LIM then (atI z.cps.toList i).map fun c => .str ⟨#[c]⟩ else none
    | _ => none
  | .dk ks xs => i.key.bind fun k => kvAt ks xs k
  | .dt ks xs => match i with
    | .tup k => (keysOf k).bind fun k => kvAt ks xs k
    | _ => none
  | _ => none
def rIxD : R2 := fun x y H Q => ∃ a v, x = .ref a ∧ DGet H a y (some v) ∧ Q v H
theorem ix_dict (hu : X.A.units + 1 < cLine) : IxR X rIxD := by
  intro value slice pins s σ H x y v u Q I rx ry h hs
  obtain ⟨a, w, rfl, g, q⟩ := h
  cases rx
  unfold PyProof.Rows.subscriptTail
  refine wpAny_bind ?_
  rw [getitemInPython_of_ne (dict_typeIs I g).not_modules]
  refine wpAny_bind (wpAny_specialOf (dict_typeIs I g) PySem.F.slot_dict_getitem.lookup ?_)
  have fin : wpAny (model X.prog X.w) X.A (subscripted slice false (.ref a) u) (fun r s₃ => wpAny (model X.prog X.w) X.A (letTemporaryGo value (.ref a) r >>= fun _ => pure r) (EP X pins σ Q) X.xe s₃) X.xe s := by
    rw [hs]
    exact wpAny_operating (d_getItem hu I g ry fun w' s3 I3 rw' => wpAny_bind (wpAny_letTemporaryGo (wpAny_pure ⟨w, H, I3, rw', q⟩)))
  first
    | exact wpAny_pure (wpAny_bind fin)
    | exact wpAny_bind (wpAny_pure (wpAny_bind fin))
    | exact wpAny_bind fin
abbrev rIx5 (K : PySem.W.Frag) : R2 := fun x y H Q => rIx K x y H Q ∨ rIxD x y H Q
theorem ix_any (hu : X.A.units + 1 < cLine) : IxR X (rIx5 X.K) := ix_seq.or (ix_dict hu)
theorem v_ix {K : PySem.W.Frag} : V2 K (rIx5 K) q1 q2 q gIx := by
  intro fr ow s σ H d1 d2 v1 v2 Q d R r1 r2 e k
  have fin : ∀ v, Rep K H (fr.F ow) d v → Q v H := fun v r => k v H (fun _ _ z => z) (.inl r)
  unfold gIx at e
  cases d1 with
  | lst xs =>
    cases d2 with
    | int i =>
      obtain ⟨p, vs, rfl, _, _, h1, l1⟩ := r1.lst
      obtain ⟨v, e1, h2⟩ := rep_atI l1 e
      exact .inl (.inl ⟨p, vs, i, v, rfl, r2.int, SqL.of h1, e1, fin v h2⟩)
    | _ => cases e
  | tup xs =>
    cases d2 with
    | int i =>
      obtain ⟨p, vs, rfl, _, h1, l1, _⟩ := r1.tup
      obtain ⟨v, e1, h2⟩ := rep_atI l1 e
      exact .inl (.inr (.inl ⟨p, vs, i, v, rfl, r2.int, SqT.of h1, e1, fin v h2⟩))
    | _ => cases e
  | wt xs =>
    cases d2 with
    | int i =>
      obtain ⟨p, vs, rfl, _, h1, l1, _⟩ := r1.wt
      obtain ⟨v, e1, h2⟩ := rep_atI l1 e
      exact .inl (.inr (.inl ⟨p, vs, i, v, rfl, r2.int, .inr h1, e1, fin v h2⟩))
    | _ => cases e
  | str z =>
    cases d2 with
    | int i =>
      dsimp only at e
      split at e
      · rename_i hl
        cases w : atI z.cps.toList i with
        | none => rw [w] at e; cases e
        | some c =>
          rw [w] at e
          cases e
          exact .inl (.inr (.inr ⟨z, i, c, r1.str, r2.int, lim_line hl, w, fin _ rfl⟩))
      · cases e
    | _ => cases e
  | dk ks xs =>
    dsimp only at e
    cases z : d2.key with
    | none => rw [z] at e; cases e
    | some j =>
      rw [z] at e
      obtain ⟨p, kvs, rfl, _, _, h1, h2, h3⟩ := r1.dk
      have m := kvAt_val j h2 h3
      have e' : kvAt ks xs j = some d := e
      rw [e'] at m
      obtain ⟨v, e1, h4⟩ := m
      refine .inr ⟨p, v, rfl, ?_, fin v h4⟩
      rw [key_v r2 z, ← e1]
      exact DGet.k h1
  | dt ks xs =>
    cases d2 with
    | tup kd =>
      dsimp only at e
      cases z : keysOf kd with
      | none => rw [z] at e; cases e
      | some j =>
        rw [z] at e
        obtain ⟨p, kvs, rfl, _, h1, h2, h3, _⟩ := r1.dt
        obtain ⟨b, ws, rfl, _, h5, h6, _⟩ := r2.tup
        have m := kvAt_val j h2 h3
        have e' : kvAt ks xs j = some d := e
        rw [e'] at m
        obtain ⟨v, e1, h4⟩ := m
        refine .inr ⟨p, v, rfl, ?_, fin v h4⟩
        rw [← e1]
        exact DGet.t h1 (by rw [h5, keys_v h6 z])
    | _ => cases e
  | _ => cases e
theorem de_ix {f1 f2 : M D} (hu : X.A.units + 64 < cLine) (ha : DE X E false a t f1) (hb : DE X E false b u f2) (hs : PlainIx b := by intro _ _; rfl) : DE X E q (.Subscript a b pos) (tOp (rIx5 X.K) t u) (mOp gIx f1 f2) := by
  obtain ⟨h1, h2⟩ := ha
  obtain ⟨h3, h4⟩ := hb
  exact ⟨pe_ix (ix_any (by omega)) h1 h3 hs, td_op v_ix h2 h4⟩

/-! ### in -/
def kHas {κ : Type} [DecidableEq κ] (ks : List κ) (k : κ) : Bool := ks.any fun j => decide (j = k)
def gIn (x c : D) : Option D := match c with
  | .lst xs => if (x.okc && (D.lst xs).okc) = true then some (.bl (xs.any fun y => PyData.eqv y.py x.py)) else none
  | .tup xs => if (x.okc && (D.tup xs).okc) = true then some (.bl (xs.any fun y => PyData.eqv y.py x.py)) else none
  | .wt xs => if (x.okc && (D.wt xs).okc) = true then some (.bl (xs.any fun y => PyData.eqv y.py x.py)) else none
  | .str z => match x with
    | .str s => if s.cps.size = 1 then some (.bl (decide (s.cps.getD 0 0 ∈ z.cps.toList))) else none
    | _ => none
  | .dk ks _ => x.key.map fun (k : Key) => .bl (kHas ks k)
  | .dt ks _ => match x with
    | .tup k => (keysOf k).map fun (k : List Key) => .bl (kHas ks k)
    | _ => none
  | _ => none
def notD (d : D) : Option D := match d with
  | .bl b => some (.bl (!b))
  | _ => none
def gNotIn (x c : D) : Option D := (gIn x c).bind notD
/-- the readings of in, by the answer -/
def rIn6 (K : PySem.W.Frag) (n : Bool) : R2 := fun x y H Q => ∃ r : Bool, Q (.bl (if n then !r else r)) H ∧
  ((∃ d ds, Dp K H x d ∧ Dp K H y (.list ds) ∧ d.plain = true ∧ PyData.plainAll ds = true ∧ d.depth ≤ 30 ∧ r = ds.any fun z => PyData.eqv z d) ∨
   (∃ d ds, Dp K H x d ∧ Dp K H y (.tuple ds) ∧ d.plain = true ∧ PyData.plainAll ds = true ∧ d.depth ≤ 30 ∧ r = ds.any fun z => PyData.eqv z d) ∨
   (∃ c z, x = .str ⟨#[c]⟩ ∧ y = .str z ∧ r = decide (c ∈ z.cps.toList)) ∨
   (∃ a o, y = .ref a ∧ DGet H a x o ∧ r = o.isSome))
theorem op_in6 (hu : X.A.units + 64 < cLine) : OpR X (compareOp .In) (rIn6 X.K false) := by
  intro pins s σ H x y v u Q I rx ry h
  obtain ⟨r, q, ⟨d, ds, hd, he, p1, p2, dp, rfl⟩ | ⟨d, ds, hd, he, p1, p2, dp, rfl⟩ | ⟨c, z, rfl, rfl, rfl⟩ | ⟨a, o, rfl, g, rfl⟩⟩ := h
  · obtain ⟨as, r1⟩ := Dp.reads I d x v hd rx
    obtain ⟨bs, r2⟩ := Dp.reads I _ y u he ry
    exact SeqAt.in_list_data r2 r1 p2 p1 (by have := Nat.min_le_right (PyData.depthAll ds) d.depth; omega) ⟨.bl _, H, I, rfl, q⟩
  · obtain ⟨as, r1⟩ := Dp.reads I d x v hd rx
    obtain ⟨bs, r2⟩ := Dp.reads I _ y u he ry
    exact SeqAt.in_tuple_data r2 r1 p2 p1 (by have := Nat.min_le_right (PyData.depthAll ds) d.depth; omega) ⟨.bl _, H, I, rfl, q⟩
  · exact op_in_sign pins s σ H _ _ v u Q I rx ry ⟨c, z, rfl, rfl, q⟩
  · cases ry
    exact d_in (by omega) I g rx fun s3 I3 => ⟨.bl _, H, I3, rfl, q⟩
theorem op_notIn6 (hu : X.A.units + 64 < cLine) : OpR X (compareOp .NotIn) (rIn6 X.K true) := by
  intro pins s σ H x y v u Q I rx ry h
  obtain ⟨r, q, ⟨d, ds, hd, he, p1, p2, dp, rfl⟩ | ⟨d, ds, hd, he, p1, p2, dp, rfl⟩ | ⟨c, z, rfl, rfl, rfl⟩ | ⟨a, o, rfl, g, rfl⟩⟩ := h
  · obtain ⟨as, r1⟩ := Dp.reads I d x v hd rx
    obtain ⟨bs, r2⟩ := Dp.reads I _ y u he ry
    exact SeqAt.notIn_list_data r2 r1 p2 p1 (by have := Nat.min_le_right (PyData.depthAll ds) d.depth; omega) ⟨.bl _, H, I, rfl, q⟩
  · obtain ⟨as, r1⟩ := Dp.reads I d x v hd rx
    obtain ⟨bs, r2⟩ := Dp.reads I _ y u he ry
    exact SeqAt.notIn_tuple_data r2 r1 p2 p1 (by have := Nat.min_le_right (PyData.depthAll ds) d.depth; omega) ⟨.bl _, H, I, rfl, q⟩
  · exact op_notIn_sign pins s σ H _ _ v u Q I rx ry ⟨c, z, rfl, rfl, q⟩
  · cases ry
    exact d_notIn (by omega) I g rx fun s3 I3 => ⟨.bl _, H, I3, rfl, q⟩
theorem any_py (x : D) : ∀ xs : List D, ((D.pyL xs).any fun z => PyData.eqv z x.py) = xs.any fun y => PyData.eqv y.py x.py
  | [] => by rw [D.pyL]; rfl
  | y :: ys => by rw [D.pyL, List.any_cons, List.any_cons, any_py x ys]
theorem kvAt_mem {κ : Type} [DecidableEq κ] (j : κ) : ∀ {ks : List κ} {xs : List D}, xs.length = ks.length → (kvAt ks xs j).isSome = kHas ks j
  | [], [], _ => rfl
  | k :: ks, x :: xs, h => by
    unfold kvAt kHas
    by_cases e : k = j
    · rw [if_pos e, List.any_cons, decide_eq_true e]; rfl
    · rw [if_neg e, kvAt_mem j (by simpa using h), List.any_cons, decide_eq_false e]; rfl
  | [], x :: xs, h => by cases h
  | k :: ks, [], h => by cases h
theorem dp_list {K : PySem.W.Frag} {fr : Frm} {ow : Ow} {H : Hp} {xs : List D} {v : V} (h : RepQ K fr ow q H (.lst xs) v) (p : (D.lst xs).py.plain = true) : Dp K H v (.list (D.pyL xs)) ∧ PyData.plainAll (D.pyL xs) = true := by
  have := h.dp p
  rw [D.py] at this p
  exact ⟨this, p⟩
theorem dp_tup {K : PySem.W.Frag} {fr : Frm} {ow : Ow} {H : Hp} {xs : List D} {v : V} (h : RepQ K fr ow q H (.tup xs) v) (p : (D.tup xs).py.plain = true) : Dp K H v (.tuple (D.pyL xs)) ∧ PyData.plainAll (D.pyL xs) = true := by
  have := h.dp p
  rw [D.py] at this p
  exact ⟨this, p⟩
theorem dp_wt {K : PySem.W.Frag} {fr : Frm} {ow : Ow} {H : Hp} {xs : List D} {v : V} (h : RepQ K fr ow q H (.wt xs) v) (p : (D.wt xs).py.plain = true) : Dp K H v (.tuple (D.pyL xs)) ∧ PyData.plainAll (D.pyL xs) = true := by
  have := h.dp p
  rw [D.py] at this p
  exact ⟨this, p⟩
theorem in_ans {K : PySem.W.Frag} {fr : Frm} {ow : Ow} {H : Hp} {c x r : D} {v w : V} {n : Bool} {Q : VK} (h : RepQ K fr ow q1 H x v) (hc : RepQ K fr ow q2 H c w) (e : gIn x c = some r) (fin : ∀ b, r = .bl b → Q (.bl (if n then !b else b)) H) : rIn6 K n v w H Q := by
  unfold gIn at e
  cases c with
  | lst xs =>
    dsimp only at e
    split at e
    · rename_i hk
      cases e
      obtain ⟨h1, h2, h3, _⟩ := okc_and hk
      obtain ⟨p1, p2⟩ := dp_list hc h2
      exact ⟨_, fin _ rfl, .inl ⟨x.py, D.pyL xs, h.dp h1, p1, h1, p2, h3, (any_py x xs).symm⟩⟩
    · cases e
  | tup xs =>
    dsimp only at e
    split at e
    · rename_i hk
      cases e
      obtain ⟨h1, h2, h3, _⟩ := okc_and hk
      obtain ⟨p1, p2⟩ := dp_tup hc h2
      exact ⟨_, fin _ rfl, .inr (.inl ⟨x.py, D.pyL xs, h.dp h1, p1, h1, p2, h3, (any_py x xs).symm⟩)⟩
    · cases e
  | wt xs =>
    dsimp only at e
    split at e
    · rename_i hk
      cases e
      obtain ⟨h1, h2, h3, _⟩ := okc_and hk
      obtain ⟨p1, p2⟩ := dp_wt hc h2
      exact ⟨_, fin _ rfl, .inr (.inl ⟨x.py, D.pyL xs, h.dp h1, p1, h1, p2, h3, (any_py x xs).symm⟩)⟩
    · cases e
  | str z =>
    cases x with
    | str s =>
      dsimp only at e
      split at e
      · rename_i hs
        cases e
        refine ⟨_, fin _ rfl, .inr (.inr (.inl ⟨s.cps.getD 0 0, z, ?_, hc.str, rfl⟩))⟩
        rw [h.str]
        congr 1
        cases s with
        | mk c =>
          congr 1
          apply Array.ext
          · exact hs
          · intro i h1 h2
            have h0 : i = 0 := by simp at h2; exact h2
            subst h0
            simp [Array.getD, h1]
      · cases e
    | _ => cases e
  | dk ks xs =>
    dsimp only at e
    cases z : x.key with
    | none => rw [z] at e; cases e
    | some j =>
      rw [z] at e
      cases e
      obtain ⟨p, kvs, rfl, _, _, h1, h2, h3⟩ := hc.dk
      have m := kvAt_val j h2 h3
      have hl : xs.length = ks.length := by
        rw [← h2, List.length_map]
        have := h3.len
        rw [List.length_map] at this
        exact this.symm
      refine ⟨_, fin _ rfl, .inr (.inr (.inr ⟨p, valV kvs j, rfl, by rw [key_v h z]; exact DGet.k h1, ?_⟩))⟩
      rw [← kvAt_mem j hl]
      cases w : kvAt ks xs j with
      | none => rw [w] at m; rw [show valV kvs j = none from m]; rfl
      | some d => rw [w] at m; obtain ⟨v', e1, _⟩ := m; rw [e1]; rfl
  | dt ks xs =>
    cases x with
    | tup kd =>
      dsimp only at e
      cases z : keysOf kd with
      | none => rw [z] at e; cases e
      | some j =>
        rw [z] at e
        cases e
        obtain ⟨p, kvs, rfl, _, h1, h2, h3, _⟩ := hc.dt
        obtain ⟨b, ws, rfl, _, h5, h6, _⟩ := h.tup
        have m := kvAt_val j h2 h3
        have hl : xs.length = ks.length := by
          rw [← h2, List.length_map]
          have := h3.len
          rw [List.length_map] at this
          exact this.symm
        refine ⟨_, fin _ rfl, .inr (.inr (.inr ⟨p, valV kvs j, rfl, DGet.t h1 (by rw [h5, keys_v h6 z]), ?_⟩))⟩
        rw [← kvAt_mem j hl]
        cases w : kvAt ks xs j with
        | none => rw [w] at m; rw [show valV kvs j = none from m]; rfl
        | some d => rw [w] at m; obtain ⟨v', e1, _⟩ := m; rw [e1]; rfl
    | _ => cases e
  | _ => cases e
theorem v_in {K : PySem.W.Frag} : V2 K (rIn6 K false) q1 q2 q gIn := by
  intro fr ow s σ H d1 d2 v1 v2 Q d R r1 r2 e k
  exact in_ans r1 r2 e fun b eb => k _ H (fun _ _ z => z) (.inl (by rw [eb]; rfl))
theorem v_notIn {K : PySem.W.Frag} : V2 K (rIn6 K true) q1 q2 q gNotIn := by
  intro fr ow s σ H d1 d2 v1 v2 Q d R r1 r2 e k
  unfold gNotIn at e
  cases z : gIn d1 d2 with
  | none => rw [z] at e; cases e
  | some r =>
    refine in_ans r1 r2 z fun b eb => k _ H (fun _ _ z => z) (.inl ?_)
    rw [z, eb] at e
    cases e
    rfl

/-! ### built-ins called -/
def VN (K : PySem.W.Frag) (r : List V → Hp → VK → Prop) (q1 q : Bool) (g : List D → Option D) : Prop :=
  ∀ fr ow s σ H ds vs Q d, Rl K fr ow s σ H → RepQL K fr ow q1 H ds vs → g ds = some d → (∀ v H', Ext H H' → RepQ K fr ow q H' d v → Q v H') → r vs H Q
def mCB (g : List D → Option D) (f : M (List D)) : M D := bindM f fun ds => liftM (g ds)
theorem td_cb {K : PySem.W.Frag} {r : List V → Hp → VK → Prop} {g : List D → Option D} {t : TA} {f : M (List D)} (hr : VN K r q1 q g) (h : TDg K (rL K q1) E t f) : TDg K (rD K q) E (tCB r t) (mCB g f) := by
  intro fr ow s σ H Q r0 R e P
  refine Pst.bind (t := t) h R e P fun ds ar vs H1 R1 k1 r1 e1 P1 => ?_
  unfold liftM at e1
  cases z : g ds with
  | none => rw [z] at e1; cases e1
  | some d =>
    rw [z] at e1
    cases e1
    exact hr fr ow _ σ H1 ds vs Q d R1 r1 z fun v H3 ex rv => P1 v H3 (R1.ext ex) (Keep.ext ex) rv
theorem de_callB {r : List V → Hp → VK → Prop} {g : List D → Option D} {f : M (List D)} {x : Str} {id : String} (hc : CallR X (.builtin id) r) (hr : VN X.K r q1 q g) (hg : Gl X x) (hm : X.mg x = none) (hv : bootBuiltins x = some (.builtin id)) (ha : DA X E q1 (e :: es) t f) (hn : x ≠ "__name__" := by decide) (hdb : (x == ("__debug__" : Str)) = false := by decide)
    (he : starEach (e :: es) X.env = (false, eval e X.env) :: starEach es X.env := by rfl) (hpl : (backTo pos (starEach es X.env)).any (·.1) = false := by rfl) : DE X E q (.Call (.Name x p) (e :: es) [] pos) (tCB r t) (mCB g f) := by
  obtain ⟨h1, h2⟩ := ha
  exact ⟨pe_callB hc hg hm hv h1 hn hdb he hpl, td_cb hr h2⟩
theorem de_callTy {r : List V → Hp → VK → Prop} {g : List D → Option D} {f : M (List D)} {x : Str} {T : String} (hc : CallR X (.type T) r) (hr : VN X.K r q1 q g) (hg : Gl X x) (hm : X.mg x = none) (hv : bootBuiltins x = some (.type T)) (ha : DA X E q1 (e :: es) t f) (hn : x ≠ "__name__" := by decide) (hdb : (x == ("__debug__" : Str)) = false := by decide)
    (he : starEach (e :: es) X.env = (false, eval e X.env) :: starEach es X.env := by rfl) (hpl : (backTo pos (starEach es X.env)).any (·.1) = false := by rfl) : DE X E q (.Call (.Name x p) (e :: es) [] pos) (tCB r t) (mCB g f) := by
  obtain ⟨h1, h2⟩ := ha
  exact ⟨pe_callTy hc hg hm hv h1 hn hdb he hpl, td_cb hr h2⟩
theorem RepQL.one {K : PySem.W.Frag} {fr : Frm} {ow : Ow} {H : Hp} {d : D} {vs : List V} (h : RepQL K fr ow q H [d] vs) : ∃ v, vs = [v] ∧ RepQ K fr ow q H d v := by
  obtain ⟨v, r, rfl, h1, h2⟩ := h
  have : r = [] := h2
  subst this
  exact ⟨v, rfl, h1⟩
theorem RepQL.two {K : PySem.W.Frag} {fr : Frm} {ow : Ow} {H : Hp} {d d' : D} {vs : List V} (h : RepQL K fr ow q H [d, d'] vs) : ∃ v w, vs = [v, w] ∧ RepQ K fr ow q H d v ∧ RepQ K fr ow q H d' w := by
  obtain ⟨v, r, rfl, h1, h2⟩ := h
  obtain ⟨w, rfl, h3⟩ := RepQL.one h2
  exact ⟨v, w, rfl, h1, h3⟩
def gLen : List D → Option D
  | [.str z] => if z.length ≤ LIM then some (.int z.length) else none
  | [.lst xs] => some (.int xs.length)
  | [.tup xs] => some (.int xs.length)
  | [.wt xs] => some (.int xs.length)
  | [.dk ks xs] => some (.int xs.length)
  | _ => none
abbrev rLen3 (K : PySem.W.Frag) : List V → Hp → VK → Prop := fun xs H Q => (∃ x n, xs = [x] ∧ LenV K x H n ∧ Q (.int n) H) ∨ ∃ a kvs, xs = [V.ref a] ∧ H a = some (.dK kvs) ∧ Q (.int kvs.length) H
theorem call_len3 : CallR X (.builtin "len") (rLen3 X.K) := call_len.or call_lenD
theorem v_len {K : PySem.W.Frag} : VN K (rLen3 K) q1 q gLen := by
  intro fr ow s σ H ds vs Q d R r e k
  have fin : ∀ n : Int, d = .int n → Q (.int n) H := fun n h => k _ H (fun _ _ z => z) (.inl (by rw [h]; rfl))
  unfold gLen at e
  split at e
  · split at e
    · rename_i hl
      cases e
      obtain ⟨v, rfl, h⟩ := r.one
      rw [h.str]
      exact .inl ⟨_, _, rfl, ⟨lim_line hl, rfl⟩, fin _ rfl⟩
    · cases e
  · cases e
    obtain ⟨v, rfl, h⟩ := r.one
    obtain ⟨p, vs, rfl, _, _, h1, l1⟩ := h.lst
    exact .inl ⟨_, vs.length, rfl, .inl ⟨vs, SqL.of h1, rfl⟩, fin _ (by rw [l1.len])⟩
  · cases e
    obtain ⟨v, rfl, h⟩ := r.one
    obtain ⟨p, vs, rfl, _, h1, l1, _⟩ := h.tup
    exact .inl ⟨_, vs.length, rfl, .inr ⟨vs, SqT.of h1, rfl⟩, fin _ (by rw [l1.len])⟩
  · cases e
    obtain ⟨v, rfl, h⟩ := r.one
    obtain ⟨p, vs, rfl, _, h1, l1, _⟩ := h.wt
    exact .inl ⟨_, vs.length, rfl, .inr ⟨vs, .inr h1, rfl⟩, fin _ (by rw [l1.len])⟩
  · cases e
    obtain ⟨v, rfl, h⟩ := r.one
    obtain ⟨p, kvs, rfl, _, _, h1, _, l1⟩ := h.dk
    have := l1.len
    rw [List.length_map] at this
    exact .inr ⟨p, kvs, rfl, h1, fin _ (by rw [this])⟩
  · cases e
/-- bools of a list -/
def blsOf : List D → Option (List Bool)
  | [] => some []
  | .bl b :: ds => (blsOf ds).map (b :: ·)
  | _ => none
theorem blsOf_eq : ∀ {ds : List D} {bs : List Bool}, blsOf ds = some bs → ds = bs.map D.bl
  | [], bs, h => by cases h; rfl
  | .bl b :: ds, bs, h => by
    unfold blsOf at h
    cases z : blsOf ds with
    | none => rw [z] at h; cases h
    | some r => rw [z] at h; cases h; rw [blsOf_eq z]; rfl
  | .non :: _, _, h => by cases h
  | .int _ :: _, _, h => by cases h
  | .str _ :: _, _, h => by cases h
  | .adr _ :: _, _, h => by cases h
  | .ty _ :: _, _, h => by cases h
  | .tup _ :: _, _, h => by cases h
  | .wt _ :: _, _, h => by cases h
  | .lst _ :: _, _, h => by cases h
  | .dk _ _ :: _, _, h => by cases h
  | .dt _ _ :: _, _, h => by cases h
  | .ins _ _ _ :: _, _, h => by cases h
def intsOf : List D → Option (List Int)
  | [] => some []
  | .int b :: ds => (intsOf ds).map (b :: ·)
  | _ => none
theorem intsOf_eq : ∀ {ds : List D} {bs : List Int}, intsOf ds = some bs → ds = bs.map D.int
  | [], bs, h => by cases h; rfl
  | .int b :: ds, bs, h => by
    unfold intsOf at h
    cases z : intsOf ds with
    | none => rw [z] at h; cases h
    | some r => rw [z] at h; cases h; rw [intsOf_eq z]; rfl
  | .non :: _, _, h => by cases h
  | .bl _ :: _, _, h => by cases h
  | .str _ :: _, _, h => by cases h
  | .adr _ :: _, _, h => by cases h
  | .ty _ :: _, _, h => by cases h
  | .tup _ :: _, _, h => by cases h
  | .wt _ :: _, _, h => by cases h
  | .lst _ :: _, _, h => by cases h
  | .dk _ _ :: _, _, h => by cases h
  | .dt _ _ :: _, _, h => by cases h
  | .ins _ _ _ :: _, _, h => by cases h
theorem intsOf_map : ∀ bs : List Int, intsOf (bs.map D.int) = some bs
  | [] => rfl
  | b :: bs => by show (intsOf (bs.map D.int)).map (b :: ·) = _; rw [intsOf_map bs]; rfl
theorem blsOf_map : ∀ bs : List Bool, blsOf (bs.map D.bl) = some bs
  | [] => rfl
  | b :: bs => by show (blsOf (bs.map D.bl)).map (b :: ·) = _; rw [blsOf_map bs]; rfl
def gBls (f : List Bool → D) : List D → Option D
  | [.lst xs] => (blsOf xs).map f
  | _ => none
def gInts (c : List Int → Bool) (f : List Int → D) : List D → Option D
  | [.lst xs] => (intsOf xs).bind fun ns => if c ns = true then some (f ns) else none
  | _ => none
theorem gBls_some {f : List Bool → D} {ds : List D} {d : D} (h : gBls f ds = some d) : ∃ bs, ds = [.lst (bs.map D.bl)] ∧ d = f bs := by
  unfold gBls at h
  split at h
  · rename_i xs
    cases z : blsOf xs with
    | none => rw [z] at h; cases h
    | some bs => rw [z] at h; cases h; exact ⟨bs, by rw [blsOf_eq z], rfl⟩
  · cases h
theorem gInts_some {c : List Int → Bool} {f : List Int → D} {ds : List D} {d : D} (h : gInts c f ds = some d) : ∃ bs, ds = [.lst (bs.map D.int)] ∧ c bs = true ∧ d = f bs := by
  unfold gInts at h
  split at h
  · rename_i xs
    cases z : intsOf xs with
    | none => rw [z] at h; cases h
    | some bs =>
      rw [z] at h
      dsimp only [Option.bind_some] at h
      split at h
      · rename_i hc
        cases h; exact ⟨bs, by rw [intsOf_eq z], hc, rfl⟩
      · cases h
  · cases h
def gAll := gBls fun bs => .bl (bs.all id)
def gAny := gBls fun bs => .bl (bs.any id)
theorem v_all {K : PySem.W.Frag} : VN K (rAll K) q1 q gAll := by
  intro fr ow s σ H ds vs Q d R r e k
  obtain ⟨bs, rfl, rfl⟩ := gBls_some e
  obtain ⟨v, rfl, h⟩ := r.one
  obtain ⟨p, vs, rfl, _, _, h1, l1⟩ := h.lst
  exact ⟨p, bs, rfl, SqL.of (by rw [h1, l1.bls]), k _ H (fun _ _ z => z) (.inl rfl)⟩
theorem v_any {K : PySem.W.Frag} : VN K (rAny K) q1 q gAny := by
  intro fr ow s σ H ds vs Q d R r e k
  obtain ⟨bs, rfl, rfl⟩ := gBls_some e
  obtain ⟨v, rfl, h⟩ := r.one
  obtain ⟨p, vs, rfl, _, _, h1, l1⟩ := h.lst
  exact ⟨p, bs, rfl, SqL.of (by rw [h1, l1.bls]), k _ H (fun _ _ z => z) (.inl rfl)⟩
def gSum := gInts (fun _ => true) fun bs => .int bs.sum
theorem v_sum {K : PySem.W.Frag} : VN K (rSum K) q1 q gSum := by
  intro fr ow s σ H ds vs Q d R r e k
  obtain ⟨bs, rfl, _, rfl⟩ := gInts_some e
  obtain ⟨v, rfl, h⟩ := r.one
  obtain ⟨p, vs, rfl, _, _, h1, l1⟩ := h.lst
  exact ⟨p, bs, rfl, SqL.of (by rw [h1, l1.ints]), k _ H (fun _ _ z => z) (.inl rfl)⟩
def maxL (ns : List Int) : Int := ns.foldl (fun m n => if n > m then n else m) (ns.headD 0)
def minL (ns : List Int) : Int := ns.foldl (fun m n => if n < m then n else m) (ns.headD 0)
theorem foldmax : ∀ (ns : List Int) (a : Int), (ns.foldl (fun m n => if n > m then n else m) a ∈ a :: ns) ∧ a ≤ ns.foldl (fun m n => if n > m then n else m) a ∧ ∀ y ∈ ns, y ≤ ns.foldl (fun m n => if n > m then n else m) a
  | [], a => ⟨by simp, Int.le_refl _, fun y h => by cases h⟩
  | n :: ns, a => by
    obtain ⟨h1, h2, h3⟩ := foldmax ns (if n > a then n else a)
    rw [List.foldl_cons]
    have hx : (if n > a then n else a) = n ∨ (if n > a then n else a) = a := by split <;> simp
    have hn : n ≤ (if n > a then n else a) := by split <;> omega
    have hb : a ≤ (if n > a then n else a) := by split <;> omega
    refine ⟨?_, Int.le_trans hb h2, fun y hy => ?_⟩
    · rcases List.mem_cons.mp h1 with e | e
      · rw [e]
        rcases hx with z | z
        · rw [z]; simp
        · rw [z]; simp
      · exact List.mem_cons_of_mem _ (List.mem_cons_of_mem _ e)
    · rcases List.mem_cons.mp hy with rfl | hy
      · exact Int.le_trans hn h2
      · exact h3 y hy
theorem foldmin : ∀ (ns : List Int) (a : Int), (ns.foldl (fun m n => if n < m then n else m) a ∈ a :: ns) ∧ ns.foldl (fun m n => if n < m then n else m) a ≤ a ∧ ∀ y ∈ ns, ns.foldl (fun m n => if n < m then n else m) a ≤ y
  | [], a => ⟨by simp, Int.le_refl _, fun y h => by cases h⟩
  | n :: ns, a => by
    obtain ⟨h1, h2, h3⟩ := foldmin ns (if n < a then n else a)
    rw [List.foldl_cons]
    have hx : (if n < a then n else a) = n ∨ (if n < a then n else a) = a := by split <;> simp
    have hn : (if n < a then n else a) ≤ n := by split <;> omega
    have hb : (if n < a then n else a) ≤ a := by split <;> omega
    refine ⟨?_, Int.le_trans h2 hb, fun y hy => ?_⟩
    · rcases List.mem_cons.mp h1 with e | e
      · rw [e]
        rcases hx with z | z
        · rw [z]; simp
        · rw [z]; simp
      · exact List.mem_cons_of_mem _ (List.mem_cons_of_mem _ e)
    · rcases List.mem_cons.mp hy with rfl | hy
      · exact Int.le_trans h2 hn
      · exact h3 y hy
theorem maxL_ok {ns : List Int} (h : ns ≠ []) : maxL ns ∈ ns ∧ ∀ y ∈ ns, y ≤ maxL ns := by
  cases ns with
  | nil => exact absurd rfl h
  | cons n ns =>
    obtain ⟨h1, h2, h3⟩ := foldmax (n :: ns) n
    refine ⟨?_, h3⟩
    rcases List.mem_cons.mp h1 with e | e
    · show (n :: ns).foldl _ n ∈ _
      rw [e]; exact List.mem_cons_self
    · exact e
theorem minL_ok {ns : List Int} (h : ns ≠ []) : minL ns ∈ ns ∧ ∀ y ∈ ns, minL ns ≤ y := by
  cases ns with
  | nil => exact absurd rfl h
  | cons n ns =>
    obtain ⟨h1, h2, h3⟩ := foldmin (n :: ns) n
    refine ⟨?_, h3⟩
    rcases List.mem_cons.mp h1 with e | e
    · show (n :: ns).foldl _ n ∈ _
      rw [e]; exact List.mem_cons_self
    · exact e
def gMax := gInts (fun ns => !ns.isEmpty) fun bs => .int (maxL bs)
def gMin := gInts (fun ns => !ns.isEmpty) fun bs => .int (minL bs)
theorem v_max {K : PySem.W.Frag} : VN K (rMax K) q1 q gMax := by
  intro fr ow s σ H ds vs Q d R r e k
  obtain ⟨bs, rfl, hc, rfl⟩ := gInts_some e
  obtain ⟨v, rfl, h⟩ := r.one
  obtain ⟨p, vs, rfl, _, _, h1, l1⟩ := h.lst
  have hne : bs ≠ [] := fun z => by subst z; simp at hc
  obtain ⟨k1, k2⟩ := maxL_ok hne
  refine ⟨p, bs, rfl, SqL.of (by rw [h1, l1.ints]), List.length_pos_iff.mpr hne, fun m hm hle => k _ H (fun _ _ z => z) (.inl ?_)⟩
  show V.int m = V.int (maxL bs)
  rw [Int.le_antisymm (k2 m hm) (hle _ k1)]
theorem v_min {K : PySem.W.Frag} : VN K (rMin K) q1 q gMin := by
  intro fr ow s σ H ds vs Q d R r e k
  obtain ⟨bs, rfl, hc, rfl⟩ := gInts_some e
  obtain ⟨v, rfl, h⟩ := r.one
  obtain ⟨p, vs, rfl, _, _, h1, l1⟩ := h.lst
  have hne : bs ≠ [] := fun z => by subst z; simp at hc
  obtain ⟨k1, k2⟩ := minL_ok hne
  refine ⟨p, bs, rfl, SqL.of (by rw [h1, l1.ints]), List.length_pos_iff.mpr hne, fun m hm hle => k _ H (fun _ _ z => z) (.inl ?_)⟩
  show V.int m = V.int (minL bs)
  rw [Int.le_antisymm (hle _ k1) (k2 m hm)]
def gInt : List D → Option D
  | [.int i] => some (.int i)
  | _ => none
theorem v_int {K : PySem.W.Frag} : VN K (fun xs H Q => (∃ i, xs = [.int i] ∧ Q (.int i) H) ∨ ∃ k, xs = [.bl k] ∧ Q (.int (if k then 1 else 0)) H) q1 q gInt := by
  intro fr ow s σ H ds vs Q d R r e k
  unfold gInt at e
  split at e
  · cases e
    obtain ⟨v, rfl, h⟩ := r.one
    rw [h.int]
    exact .inl ⟨_, rfl, k _ H (fun _ _ z => z) (.inl rfl)⟩
  · cases e
/-- tuple(x) -/
def gTuple : List D → Option D
  | [.lst xs] => some (.tup xs)
  | [.tup xs] => some (.tup xs)
  | _ => none
theorem v_tuple {K : PySem.W.Frag} : VN K (fun xs H Q => ∃ p ys, xs = [.ref p] ∧ ((SqL K H p ys ∧ ∀ l, H l = none → Q (.ref l) (upd H l (.tup ys))) ∨ (SqT K H p ys ∧ Q (.ref p) H))) q1 q gTuple := by
  intro fr ow s σ H ds vs Q d R r e k
  unfold gTuple at e
  split at e
  · cases e
    obtain ⟨v, rfl, h⟩ := r.one
    obtain ⟨p, vs, rfl, _, hl, h1, l1⟩ := h.lst
    exact ⟨p, vs, rfl, .inl ⟨SqL.of h1, fun a n => k _ _ (Ext.upd n) (.inl (Rep.tupNew R n l1 hl))⟩⟩
  · cases e
    obtain ⟨v, rfl, h⟩ := r.one
    obtain ⟨p, vs, rfl, _, h1, l1, c1⟩ := h.tup
    exact ⟨p, vs, rfl, .inr ⟨SqT.of h1, k _ H (fun _ _ z => z) (.inl c1)⟩⟩
  · cases e
/-- calls that give a new list -/
def VNF (K : PySem.W.Frag) (r : List V → Hp → VK → Prop) (q1 : Bool) (g : List D → Option (List D)) : Prop :=
  ∀ fr ow s σ H ds vs Q d, Rl K fr ow s σ H → RepQL K fr ow q1 H ds vs → g ds = some d → (∀ v H', Ext H H' → rF K fr ow s σ H' d v → Q v H') → r vs H Q
def mCBF (g : List D → Option (List D)) (f : M (List D)) : M (List D) := bindM f fun ds => liftM (g ds)
theorem td_cbf {K : PySem.W.Frag} {r : List V → Hp → VK → Prop} {g : List D → Option (List D)} {t : TA} {f : M (List D)} (hr : VNF K r q1 g) (h : TDg K (rL K q1) E t f) : TDg K (rF K) E (tCB r t) (mCBF g f) := by
  intro fr ow s σ H Q r0 R e P
  refine Pst.bind (t := t) h R e P fun ds ar vs H1 R1 k1 r1 e1 P1 => ?_
  unfold liftM at e1
  cases z : g ds with
  | none => rw [z] at e1; cases e1
  | some d =>
    rw [z] at e1
    cases e1
    exact hr fr ow _ σ H1 ds vs Q d R1 r1 z fun v H3 ex rv => P1 v H3 (R1.ext ex) (Keep.ext ex) rv
theorem df_callB {r : List V → Hp → VK → Prop} {g : List D → Option (List D)} {f : M (List D)} {x : Str} {id : String} (hc : CallR X (.builtin id) r) (hr : VNF X.K r q1 g) (hg : Gl X x) (hm : X.mg x = none) (hv : bootBuiltins x = some (.builtin id)) (ha : DA X E q1 (e :: es) t f) (hn : x ≠ "__name__" := by decide) (hdb : (x == ("__debug__" : Str)) = false := by decide)
    (he : starEach (e :: es) X.env = (false, eval e X.env) :: starEach es X.env := by rfl) (hpl : (backTo pos (starEach es X.env)).any (·.1) = false := by rfl) : DF X E (.Call (.Name x p) (e :: es) [] pos) (tCB r t) (mCBF g f) := by
  obtain ⟨h1, h2⟩ := ha
  exact ⟨pe_callB hc hg hm hv h1 hn hdb he hpl, td_cbf hr h2⟩
theorem df_callTy {r : List V → Hp → VK → Prop} {g : List D → Option (List D)} {f : M (List D)} {x : Str} {T : String} (hc : CallR X (.type T) r) (hr : VNF X.K r q1 g) (hg : Gl X x) (hm : X.mg x = none) (hv : bootBuiltins x = some (.type T)) (ha : DA X E q1 (e :: es) t f) (hn : x ≠ "__name__" := by decide) (hdb : (x == ("__debug__" : Str)) = false := by decide)
    (he : starEach (e :: es) X.env = (false, eval e X.env) :: starEach es X.env := by rfl) (hpl : (backTo pos (starEach es X.env)).any (·.1) = false := by rfl) : DF X E (.Call (.Name x p) (e :: es) [] pos) (tCB r t) (mCBF g f) := by
  obtain ⟨h1, h2⟩ := ha
  exact ⟨pe_callTy hc hg hm hv h1 hn hdb he hpl, td_cbf hr h2⟩
def gList : List D → Option (List D)
  | [.lst xs] => some xs
  | [.tup xs] => some xs
  | _ => none
theorem vf_list {K : PySem.W.Frag} : VNF K (fun xs H Q => ∃ p ys, xs = [.ref p] ∧ (SqL K H p ys ∨ SqT K H p ys) ∧ ∀ l, H l = none → Q (.ref l) (upd H l (.lst ys))) q1 gList := by
  intro fr ow s σ H ds vs Q d R r e k
  unfold gList at e
  split at e
  · cases e
    obtain ⟨v, rfl, h⟩ := r.one
    obtain ⟨p, vs, rfl, _, hl, h1, l1⟩ := h.lst
    exact ⟨p, vs, rfl, .inl (SqL.of h1), fun a n => k _ _ (Ext.upd n) (rF_new R n l1 hl)⟩
  · cases e
    obtain ⟨v, rfl, h⟩ := r.one
    obtain ⟨p, vs, rfl, hl, h1, l1, _⟩ := h.tup
    exact ⟨p, vs, rfl, .inr (SqT.of h1), fun a n => k _ _ (Ext.upd n) (rF_new R n l1 hl)⟩
  · cases e
/-- sorted of ints -/
def gSortI : List D → Option (List D)
  | [.lst xs] => (intsOf xs).map fun ns => (ns.mergeSort (fun a b => decide (a ≤ b))).map D.int
  | _ => none
theorem sorted_eq {ns ns' : List Int} (p : ns'.Perm ns) (s : ns'.Pairwise (· ≤ ·)) : ns' = ns.mergeSort (fun a b => decide (a ≤ b)) := by
  have h1 : (ns.mergeSort (fun a b => decide (a ≤ b))).Pairwise (fun a b => decide (a ≤ b) = true) := List.pairwise_mergeSort (fun a b c h1 h2 => by simp at *; omega) (fun a b => by simp; omega) ns
  have h2 : (ns.mergeSort (fun a b => decide (a ≤ b))).Pairwise (· ≤ ·) := h1.imp fun {a b} h => of_decide_eq_true h
  exact List.Perm.eq_of_pairwise (le := (· ≤ ·)) (fun a b _ _ h1 h2 => Int.le_antisymm h1 h2) s h2 (p.trans (List.mergeSort_perm ns _).symm)
theorem vf_sortI {K : PySem.W.Frag} : VNF K (rSortedI K) q1 gSortI := by
  intro fr ow s σ H ds vs Q d R r e k
  unfold gSortI at e
  split at e
  · rename_i xs
    cases z : intsOf xs with
    | none => rw [z] at e; cases e
    | some ns =>
      rw [z] at e
      cases e
      have hx := intsOf_eq z
      subst hx
      obtain ⟨v, rfl, h⟩ := r.one
      obtain ⟨p, vs, rfl, _, hl, h1, l1⟩ := h.lst
      refine ⟨p, ns, rfl, SqL.of (by rw [h1, l1.ints]), fun ns' a hp hs n => ?_⟩
      rw [sorted_eq hp hs]
      refine k _ _ (Ext.upd n) (rF_new R n (RepL.ofInts _) ?_)
      rw [List.length_map, (List.mergeSort_perm ns _).length_eq]
      rwa [List.length_map] at hl
  · cases e
end
end DL
set_option Elab.async false
set_option linter.all false
set_option maxRecDepth 100000
/-! DJ: attributes, isinstance, calls of defs, new instances -/
namespace DL
open PySem L2
section
variable {X : Cx} {E : XK} {q1 q2 q : Bool} {e a b : Expr} {es : List Expr} {pos p apos : Pos}

theorem kvAt_lookup {K : PySem.W.Frag} {H : Hp} {B : Addr → Prop} : ∀ {fs : List (Str × V)} {ns : List Str} {xs : List D} {f : Str} {d : D}, fs.map (·.1) = ns → RepL K H B xs (fs.map (·.2)) → kvAt ns xs f = some d → ∃ v, fs.lookup f = some v ∧ Rep K H B d v
  | [], ns, xs, f, d, e, h, hk => by
    subst e
    cases xs <;> cases hk
  | (k, v) :: fs, ns, xs, f, d, e, h, hk => by
    subst e
    cases xs with
    | nil => cases h
    | cons x xs =>
      obtain ⟨v', r, e, h1, h2⟩ := h
      have e1 : v = v' := (List.cons.inj e).1
      have e2 : fs.map (·.2) = r := (List.cons.inj e).2
      subst e1 e2
      have hk : (if k = f then some x else kvAt (fs.map (·.1)) xs f) = some d := hk
      by_cases hkf : k = f
      · rw [if_pos hkf] at hk
        cases hk
        refine ⟨v, ?_, h1⟩
        rw [List.lookup_cons, show (f == k) = true from by rw [hkf]; exact beq_self_eq_true f]
      · rw [if_neg hkf] at hk
        obtain ⟨w, e3, h3⟩ := kvAt_lookup rfl h2 hk
        refine ⟨w, ?_, h3⟩
        rw [List.lookup_cons, show (f == k) = false from beq_eq_false_iff_ne.mpr fun z => hkf z.symm]
        exact e3
/-! ### attributes -/
def mFld (C : Addr) (f : Str) (m : M D) : M D := bindM m fun d s => match d with
  | .ins C' ns xs => if C' = C then (kvAt ns xs f).map fun d => .ok d s.ar else none
  | .adr a => match s.ar.lookup a with
    | some (.ins C' ns xs) => if C' = C then (kvAt ns xs f).map fun d => .ok d s.ar else none
    | _ => none
  | _ => none
theorem ar_at {α : Type} : ∀ {ar : List (Addr × α)} {a : Addr} {m : α}, ar.lookup a = some m → (a, m) ∈ ar
  | [], a, m, h => by cases h
  | (b, x) :: r, a, m, h => by
    rw [List.lookup_cons] at h
    cases z : a == b with
    | true =>
      rw [z] at h
      cases h
      rw [beq_iff_eq.mp z]
      exact List.mem_cons_self
    | false =>
      rw [z] at h
      exact List.mem_cons_of_mem _ (ar_at h)
theorem de_fld {C : Addr} {f : Str} {m : M D} (cl : Cls X.K C) (na : NoAttr X.K C f) (ha : DE X E false e t m) (hb : attributeBase e f X.env (eval e X.env) = eval e X.env := by rfl) : DE X E q (.Attribute e f pos) (tFld X.K t f) (mFld C f m) := by
  obtain ⟨h1, h2⟩ := ha
  refine ⟨pe_fld h1 hb, fun fr ow s σ H Q r R e P => ?_⟩
  refine Pst.bind (t := t) h2 R e P fun d ar v H1 R1 k1 r1 e1 P1 => ?_
  cases d with
  | ins C' ns xs =>
    dsimp only at e1
    by_cases hC : C' = C
    · rw [if_pos hC] at e1
      subst hC
      cases z : kvAt ns xs f with
      | none => rw [z] at e1; cases e1
      | some d =>
        rw [z] at e1
        cases e1
        obtain ⟨p, dx, fs, rfl, hp, hn, hr, _⟩ := r1.ins
        obtain ⟨w, hw, rw'⟩ := kvAt_lookup hn hr z
        exact ⟨p, _, dx, fs, w, rfl, hp, cl, na, hw, P1 _ H1 R1 Keep.refl (.inl rw')⟩
    · rw [if_neg hC] at e1; cases e1
  | adr a =>
    dsimp only at e1
    cases z : List.lookup a ar with
    | none => rw [z] at e1; cases e1
    | some mo =>
      rw [z] at e1
      cases mo with
      | ins C' ns xs =>
        dsimp only at e1
        by_cases hC : C' = C
        · rw [if_pos hC] at e1
          subst hC
          cases y : kvAt ns xs f with
          | none => rw [y] at e1; cases e1
          | some d =>
            rw [y] at e1
            cases e1
            obtain ⟨dx, fs, hp, hn, hr⟩ := R1.ar _ (ar_at z)
            obtain ⟨w, hw, rw'⟩ := kvAt_lookup hn hr y
            rw [r1.adr]
            exact ⟨a, _, dx, fs, w, rfl, hp, cl, na, hw, P1 _ H1 R1 Keep.refl (.inl rw')⟩
        · rw [if_neg hC] at e1; cases e1
      | _ => cases e1
  | _ => cases e1

/-! ### isinstance -/
def tagD (C : Addr) : D → Option Value
  | .non => some (.type "NoneType")
  | .bl _ => some (.type "bool")
  | .int _ => some (.type "int")
  | .str _ => some (.type "str")
  | .tup _ => some (.type "tuple")
  | .wt _ => some (.type "tuple")
  | .lst _ => some (.type "list")
  | .dk _ _ => some (.type "dict")
  | .dt _ _ => some (.type "dict")
  | .ins C' _ _ => if C' = C then some (.ref C) else none
  | _ => none
/-- what a class of one's own must have -/
structure InsF (K : PySem.W.Frag) (C : Addr) : Prop where
  cl : Cls K C
  ha : PySem.W.findIn K (.ref C) "__class__" = some (some (.builtin "object.__class__"))
  hn : PySem.W.specialIn K (.builtin "object.__class__") "__get__" = some (some (.builtin "getset_descriptor.__get__"))
  htk : PySem.W.takesIn K (.builtin "object.__class__") = some true
  hm : PySem.W.mroIn K C (.type "object") = some true
theorem tag_ty {K : PySem.W.Frag} {fr : Frm} {ow : Ow} {H : Hp} {C : Addr} {d : D} {v : V} {t : Value} (F : InsF K C) (h : RepQ K fr ow q H d v) (e : tagD C d = some t) : TyX K H v t := by
  cases d with
  | non => cases e; rw [h.non]; exact .base .non
  | bl b => cases e; rw [h.bl]; exact .base (.bl b)
  | int b => cases e; rw [h.int]; exact .base (.int b)
  | str b => cases e; rw [h.str]; exact .base (.str b)
  | tup xs => cases e; obtain ⟨p, vs, rfl, _, h1, _⟩ := h.tup; exact .base (.tup h1)
  | wt xs => cases e; obtain ⟨p, vs, rfl, _, ⟨o, its, n, h1, h2, _⟩, _⟩ := h.wt; exact .kTuple h1 h2
  | lst xs => cases e; obtain ⟨p, vs, rfl, _, _, h1, _⟩ := h.lst; exact .base (.lst h1)
  | dk ks xs => cases e; obtain ⟨p, vs, rfl, _, _, h1, _⟩ := h.dk; exact .base (.dK h1)
  | dt ks xs => cases e; obtain ⟨p, vs, rfl, _, h1, _⟩ := h.dt; exact .base (.dT h1)
  | ins C' ns xs =>
    have e : (if C' = C then some (Value.ref C) else none) = some t := e
    split at e
    · rename_i hC
      subst hC
      cases e
      obtain ⟨p, dx, fs, rfl, h1, _⟩ := h.ins
      exact .base (.ins h1 F.cl F.ha F.hn F.htk F.hm)
    · cases e
  | _ => cases e
def tyAns (a b : String) : Bool := a == b || (a == "bool" && b == "int")
def tys : List String := ["NoneType", "bool", "int", "str", "tuple", "list", "dict"]
theorem tyAns_ok : (tys.all fun a => ["bool", "int", "str", "tuple", "list", "dict"].all fun b => decide (kitB a b = some (tyAns a b))) = true := by decide +kernel
/-- the answers of isinstance: built-in classes, the class at C -/
def isiTab (C : Addr) (t u : Value) : Option Bool := match t, u with
  | .type a, .type b => if (tys.contains a && ["bool", "int", "str", "tuple", "list", "dict"].contains b) = true then some (tyAns a b) else none
  | .ref c, .type b => if (c == C && ["bool", "int", "str", "tuple", "list", "dict"].contains b) = true then some false else none
  | .type a, .ref c => if (c == C && tys.contains a) = true then some false else none
  | .ref c, .ref c' => if (c == C && c' == C) = true then some true else none
  | _, _ => none
structure IsiF (K : PySem.W.Frag) (C : Addr) : Prop where
  f : InsF K C
  ty : ∀ a ∈ tys, PySem.W.kitOne K (.type a) (.ref C) = some false
  own : ∀ b ∈ ["bool", "int", "str", "tuple", "list", "dict"], PySem.W.kitOne K (.ref C) (.type b) = some false
theorem isiTab_ok {K : PySem.W.Frag} {C : Addr} (F : IsiF K C) {t u : Value} {b : Bool} (h : isiTab C t u = some b) : PySem.W.kitOne K t u = some b := by
  unfold isiTab at h
  split at h
  · split at h
    · rename_i a b hc
      cases h
      have := tyAns_ok
      rw [List.all_eq_true] at this
      simp only [Bool.and_eq_true, List.contains_iff_mem] at hc
      have h2 := this a hc.1
      rw [List.all_eq_true] at h2
      exact kit_ty (of_decide_eq_true (h2 b hc.2))
    · cases h
  · split at h
    · rename_i c b hc
      cases h
      simp only [Bool.and_eq_true, List.contains_iff_mem, beq_iff_eq] at hc
      rw [hc.1]
      exact F.own _ hc.2
    · cases h
  · split at h
    · rename_i c b hc
      cases h
      simp only [Bool.and_eq_true, List.contains_iff_mem, beq_iff_eq] at hc
      rw [hc.1]
      exact F.ty _ hc.2
    · cases h
  · split at h
    · rename_i c c' hc
      cases h
      simp only [Bool.and_eq_true, beq_iff_eq] at hc
      rw [hc.1, hc.2]
      unfold PySem.W.kitOne
      rw [if_pos]
      exact beq_self_eq_true _
    · cases h
  · cases h
def gIsi (C : Addr) : List D → Option D
  | [d, c] => (tagD C d).bind fun t => match c with
    | .ty n => (isiTab C t (.type n)).map D.bl
    | .adr a => (isiTab C t (.ref a)).map D.bl
    | _ => none
  | _ => none
theorem v_isi {K : PySem.W.Frag} {C : Addr} (F : IsiF K C) : VN K (rIsi K) q1 q (gIsi C) := by
  intro fr ow s σ H ds vs Q d R r e k
  unfold gIsi at e
  split at e
  · rename_i d1 c
    obtain ⟨v, w, rfl, h1, h2⟩ := r.two
    cases z : tagD C d1 with
    | none => rw [z] at e; cases e
    | some t =>
      rw [z] at e
      dsimp only [Option.bind_some] at e
      have ty := tag_ty F.f h1 z
      cases c with
      | ty n =>
        dsimp only at e
        cases y : isiTab C t (.type n) with
        | none => rw [y] at e; cases e
        | some b =>
          rw [y] at e
          cases e
          rw [h2.ty]
          exact ⟨v, _, t, _, b, rfl, .ty n, ty, isiTab_ok F y, k _ H (fun _ _ z => z) (.inl rfl)⟩
      | adr n =>
        dsimp only at e
        cases y : isiTab C t (.ref n) with
        | none => rw [y] at e; cases e
        | some b =>
          rw [y] at e
          cases e
          rw [h2.adr]
          exact ⟨v, _, t, _, b, rfl, .own n, ty, isiTab_ok F y, k _ H (fun _ _ z => z) (.inl rfl)⟩
      | _ => cases e
  · cases e

/-! ### defs called -/
abbrev Mir := List D → Ar → Option (R D)
abbrev banA (ban : Addr → Prop) (ars : List Addr) (a : Addr) : Prop := ban a ∨ a ∈ ars
/-- a def's promise by a plain function -/
def spD (K : PySem.W.Frag) (n : Nat) (mir : Mir) : Sp := fun vs H Q E => ∃ (ban : Addr → Prop) (ds : List D) (ar : Ar) (r : R D), ds.length = n ∧ mir ds ar = some r ∧ RepL K H (banA ban (ar.map (·.1))) ds vs ∧
  (∀ p ∈ ar, MOk K H (banA ban (ar.map (·.1))) p.1 p.2) ∧ (∀ a, banA ban (ar.map (·.1)) a → H a ≠ none) ∧ (ar.map (·.1)).Nodup ∧
  match r with
  | .ok d ar' => ∀ v H', Keep (ar.map (·.1)) H H' → ar'.map (·.1) = ar.map (·.1) → (∀ p ∈ ar', MOk K H' (banA ban (ar.map (·.1))) p.1 p.2) → Rep K H' (banA ban (ar.map (·.1))) d v → Q v H'
  | .er C ns xs ar' => ∀ dx fs H', Keep (ar.map (·.1)) H H' → ar'.map (·.1) = ar.map (·.1) → (∀ p ∈ ar', MOk K H' (banA ban (ar.map (·.1))) p.1 p.2) → H' dx = some (.xd fs) → fs.map (·.1) = ns → RepL K H' (banA ban (ar.map (·.1))) xs (fs.map (·.2)) → E (.ref C) (some dx) H'
theorem spD_len {K : PySem.W.Frag} {n : Nat} {mir : Mir} : ∀ vs H Q E, spD K n mir vs H Q E → vs.length = n := by
  rintro vs H Q E ⟨ban, ds, ar, r, hl, _, h, _⟩
  rw [h.len, hl]
/-- behind a call with the objects that change passed along -/
theorem Rl.after {K : PySem.W.Frag} {fr : Frm} {ow : Ow} {s : S} {σ : L2.St} {H H' : Hp} {ar : Ar} (R : Rl K fr ow s σ H) (k : Keep fr.ars H H') (ha : ar.map (·.1) = fr.ars) (h : ∀ p ∈ ar, MOk K H' (fr.F ow) p.1 p.2) : Rl K fr ow (s.wa ar) σ H' := by
  refine ⟨R.ls, R.lo, fun i x hi => (R.slot i x hi).keep (keepF k) fun p u hp hu => k p u hu ?_, R.inj, R.owf, fun a hc hn => ?_, fun a o h0 n => k a o (R.same a o h0 n) n, ha, h, R.nd, fun a hc hn => ?_⟩
  · intro z
    have hm : some p ∈ ow := by
      cases y : ow[i]? with
      | none => rw [y] at hp; cases hp
      | some u => rw [y] at hp; exact List.mem_of_getElem? (y.trans (congrArg some hp))
    exact (R.owf p hm).2 (.inr z)
  · by_cases hm : a ∈ fr.ars
    · rw [← ha] at hm
      obtain ⟨p, hp, rfl⟩ := List.mem_map.mp hm
      exact (h p hp).some hn
    · cases z : H a with
      | none => exact R.ban a hc z
      | some o => rw [k a o z hm] at hn; cases hn
  · by_cases hm : a ∈ fr.ars
    · rw [← ha] at hm
      obtain ⟨p, hp, rfl⟩ := List.mem_map.mp hm
      exact (h p hp).some hn
    · cases z : H a with
      | none => exact R.trk a hc z
      | some o => rw [k a o z hm] at hn; cases hn
def mCall (mir : Mir) (f : M (List D)) : M D := bindM f fun ds s => mir ds s.ar
/-- what a def is, for its callers -/
structure Fn (X : Cx) (CX : CXT) (E : XK) (x : Str) (n : Nat) (mir : Mir) : Prop where
  ex : ∃ (k : Nat) (f : Addr) (fd : FuncData) (ps : List Str), FnOk X.prog X.w X.K X.mg X.base CX k f fd ps (spD X.K n mir) ∧ Room k X.A ∧ X.mg x = some (.ref f) ∧ PySem.W.keepIn X.K (.ref f) = true ∧ Binds X.K fd ps [] ∧ Passes CX X E
theorem sp_call {K : PySem.W.Frag} {fr : Frm} {ow : Ow} {s : S} {σ : L2.St} {H : Hp} {n : Nat} {mir : Mir} {ds : List D} {vs : List V} {r : R D} {Q : VK} (R : Rl K fr ow s σ H) (hl : ds.length = n) (h : RepL K H (fr.F ow) ds vs) (e : mir ds s.ar = some r) (P : Pst K fr ow s σ H (rD K q) Q E r) : spD K n mir vs H Q E := by
  have w1 : ∀ a, banA (fun a => fr.ban a ∨ some a ∈ ow) (s.ar.map (·.1)) a → fr.F ow a := fun a z => by
    rw [R.ara] at z
    rcases z with (z | z) | z
    · exact .inl (.inl z)
    · exact .inr z
    · exact .inl (.inr z)
  have w2 : ∀ a, fr.F ow a → banA (fun a => fr.ban a ∨ some a ∈ ow) (s.ar.map (·.1)) a := fun a z => by
    rw [R.ara]
    rcases z with (z | z) | z
    · exact .inl (.inl z)
    · exact .inr z
    · exact .inl (.inr z)
  refine ⟨fun a => fr.ban a ∨ some a ∈ ow, ds, s.ar, r, hl, e, h.weak w1, fun p hp => (R.ar p hp).keep (fun a o n z => ⟨z, fun y => n (w1 a y)⟩) fun o z => z, fun a z => ?_, by rw [R.ara]; exact R.nd, ?_⟩
  · rcases w1 a z with z | z
    · exact R.ban a z
    · exact R.owSome z
  · rw [R.ara]
    rw [R.ara] at w2
    cases r with
    | ok d ar' =>
      intro v H' k ha hm hr
      exact P v H' (R.after k ha fun p hp => (hm p hp).keep (fun a o n z => ⟨z, fun y => n (w2 a y)⟩) fun o z => z) k (.inl (hr.weak w2))
    | er C ns xs ar' =>
      intro dx fs H' k ha hm hd hn hr
      exact P dx fs H' (R.after k ha fun p hp => (hm p hp).keep (fun a o n z => ⟨z, fun y => n (w2 a y)⟩) fun o z => z) k hd hn (hr.weak w2)
theorem td_call {K : PySem.W.Frag} {n : Nat} {mir : Mir} {t : TA} {f : M (List D)} (hf : ∀ s ds ar, f s = some (.ok ds ar) → ds.length = n) (h : TDg K (rL K true) E t f) : TDg K (rD K q) E (tCall (spD K n mir) [] E t) (mCall mir f) := by
  intro fr ow s σ H Q r0 R e P
  have e0 := e
  unfold mCall bindM at e0
  cases z : f s with
  | none => rw [z] at e0; cases e0
  | some r1 =>
    refine Pst.bind (t := t) (k := fun ds s1 => if ds.length = n then mir ds s1.ar else none) h R ?_ P fun ds ar vs H1 R1 k1 r1 e1 P1 => ?_
    · unfold bindM
      rw [z] at e0 ⊢
      cases r1 with
      | er C ns xs ar => exact e0
      | ok ds ar =>
        show (if ds.length = n then mir ds ar else none) = some r0
        rw [if_pos (hf s ds ar z)]
        exact e0
    · by_cases hl : ds.length = n
      · rw [if_pos hl] at e1
        show spD K n mir (vs ++ []) H1 Q E
        rw [List.append_nil]
        exact sp_call R1 hl r1.cl e1 P1
      · rw [if_neg hl] at e1; cases e1
/-- an argument list's length -/
def Lng (f : M (List D)) (n : Nat) : Prop := ∀ s ds ar, f s = some (.ok ds ar) → ds.length = n
theorem lng_nil : Lng fNil 0 := fun s ds ar h => by cases h; rfl
theorem lng_cons {f : M D} {g : M (List D)} {n : Nat} (h : Lng g n) : Lng (fCons f g) (n + 1) := fun s ds ar e => by
  unfold fCons bindM at e
  cases z : f s with
  | none => rw [z] at e; cases e
  | some r =>
    rw [z] at e
    cases r with
    | er => cases e
    | ok d ar1 =>
      dsimp only at e
      cases y : g (s.wa ar1) with
      | none => rw [y] at e; cases e
      | some r2 =>
        rw [y] at e
        cases r2 with
        | er => cases e
        | ok ds2 ar2 => cases e; rw [List.length_cons, h _ _ _ y]
theorem de_call {CX : CXT} {x : Str} {n : Nat} {mir : Mir} {f : M (List D)} (F : Fn X CX E x (n + 1) mir) (hg : Gl X x) (ha : DA X E true (e :: es) t f) (hl : Lng f (n + 1)) (hdb : (x == ("__debug__" : Str)) = false := by decide)
    (he : starEach (e :: es) X.env = (false, eval e X.env) :: starEach es X.env := by rfl) (hpl : (backTo pos (starEach es X.env)).any (·.1) = false := by rfl) : DE X E q (.Call (.Name x p) (e :: es) [] pos) (tCall (spD X.K (n + 1) mir) [] E t) (mCall mir f) := by
  obtain ⟨k, fa, fd, ps, F1, hr, hm, hk, hb, hx⟩ := F.ex
  obtain ⟨h1, h2⟩ := ha
  exact ⟨pe_call F1 hr hg hm hk hb .nil hx h1 hdb he hpl, td_call hl h2⟩
theorem de_call0 {CX : CXT} {x : Str} {mir : Mir} (F : Fn X CX E x 0 mir) (hg : Gl X x) (hdb : (x == ("__debug__" : Str)) = false := by decide) : DE X E q (.Call (.Name x p) [] [] pos) (tCall (spD X.K 0 mir) [] E tNil) (mCall mir fNil) := by
  obtain ⟨k, fa, fd, ps, F1, hr, hm, hk, hb, hx⟩ := F.ex
  refine ⟨pe_call0 F1 hr hg hm hk hb .nil hx hdb, td_call lng_nil fun fr ow s σ H Q r R e P => ?_⟩
  cases e
  exact P [] H R Keep.refl rfl
/-- a call of a def that asks for no changing object: lists that a slot holds alone may be handed (q1 = false) where what comes back holds nothing -/
def mCallP (q1 : Bool) (mir : Mir) (f : M (List D)) : M D := bindM f fun ds s => match mir ds [] with
  | some (.ok d []) => if (q1 || d.flat) = true then some (.ok d s.ar) else none
  | _ => none
theorem RepQL.core {K : PySem.W.Frag} {fr : Frm} {ow : Ow} {H : Hp} : ∀ {ds : List D} {vs : List V}, RepQL K fr ow q H ds vs → RepL K H fr.C ds vs
  | [], _, h => h
  | d :: ds, _, h => by
    obtain ⟨v, r, e, h1, h2⟩ := h
    refine ⟨v, r, e, ?_, RepQL.core h2⟩
    rcases h1 with h1 | ⟨_, h1⟩
    · exact h1.weak fun a z => .inl z
    · cases d with
      | lst xs => obtain ⟨p, vs, rfl, n, hl, hp, hr⟩ := h1; exact ⟨p, vs, rfl, hl, ⟨n, hp⟩, hr.weak fun a z => .inl z⟩
      | dk ks xs => obtain ⟨p, vs, rfl, n, hl, hp, hk, hr⟩ := h1; exact ⟨p, vs, rfl, hl, ⟨n, hp⟩, hk, hr.weak fun a z => .inl z⟩
      | _ => exact h1.elim
theorem de_callP {CX : CXT} {x : Str} {n : Nat} {mir : Mir} {f : M (List D)} (F : Fn X CX E x (n + 1) mir) (hg : Gl X x) (ha : DA X E q1 (e :: es) t f) (hl : Lng f (n + 1)) (hdb : (x == ("__debug__" : Str)) = false := by decide)
    (he : starEach (e :: es) X.env = (false, eval e X.env) :: starEach es X.env := by rfl) (hpl : (backTo pos (starEach es X.env)).any (·.1) = false := by rfl) : DE X E q (.Call (.Name x p) (e :: es) [] pos) (tCall (spD X.K (n + 1) mir) [] E t) (mCallP q1 mir f) := by
  obtain ⟨k, fa, fd, ps, F1, hr, hm, hk, hb, hx⟩ := F.ex
  obtain ⟨h1, h2⟩ := ha
  refine ⟨pe_call F1 hr hg hm hk hb .nil hx h1 hdb he hpl, fun fr ow s σ H Q r0 R e P => ?_⟩
  have e0 := e
  unfold mCallP bindM at e0
  cases z : f s with
  | none => rw [z] at e0; cases e0
  | some r1 =>
    refine Pst.bind (t := t) (k := fun ds s1 => if ds.length = n + 1 then (match mir ds [] with
      | some (.ok d []) => if (q1 || d.flat) = true then some (.ok d s1.ar) else none
      | _ => none) else none) h2 R ?_ P fun ds ar vs H1 R1 k1 r1 e1 P1 => ?_
    · unfold bindM
      rw [z] at e0 ⊢
      cases r1 with
      | er C ns xs ar => exact e0
      | ok ds ar =>
        show (if ds.length = n + 1 then _ else none) = some r0
        rw [if_pos (hl s ds ar z)]
        exact e0
    · by_cases hl : ds.length = n + 1
      · rw [if_pos hl] at e1
        show spD X.K (n + 1) mir (vs ++ []) H1 Q E
        rw [List.append_nil]
        split at e1
        · rename_i d hmir
          split at e1
          · rename_i hq
            cases e1
            cases q1 with
            | true =>
              refine ⟨fr.F ow, ds, [], .ok d [], hl, hmir, r1.cl.weak (fun a z => z.elim id (fun z => nomatch z)), (fun p hp => nomatch hp), (fun a z => ?_), List.Pairwise.nil, fun v H' kp _ _ hr => ?_⟩
              · rcases z with (z | z) | z
                · exact R1.ban a z
                · exact R1.owSome z
                · cases z
              · have ex : Ext H1 H' := fun a o h => kp a o h (fun z => nomatch z)
                exact P1 v H' (R1.ext ex) (Keep.ext ex) (.inl (hr.weak fun a z => .inl z))
            | false =>
              have hfl : d.flat = true := by simpa using hq
              refine ⟨fr.C, ds, [], .ok d [], hl, hmir, r1.core.weak (fun a z => z.elim id (fun z => nomatch z)), (fun p hp => nomatch hp), (fun a z => ?_), List.Pairwise.nil, fun v H' kp _ _ hr => ?_⟩
              · rcases z with z | z
                · exact R1.ban a z
                · cases z
              · have ex : Ext H1 H' := fun a o h => kp a o h (fun z => nomatch z)
                exact P1 v H' (R1.ext ex) (Keep.ext ex) (.inl (hr.flat hfl))
          · cases e1
        · cases e1
      · rw [if_neg hl] at e1; cases e1

/-! ### a new instance, that never changes behind its making -/
structure Cn (X : Cx) (CX : CXT) (E : XK) (x : Str) (C : Addr) (n : Nat) (mir : Mir) (mk : List D → Option (List Str × List D)) : Prop where
  ex : ∃ (k : Nat) (f : Addr) (fd : FuncData) (ps : List Str), FnOk X.prog X.w X.K X.mg X.base CX k f fd ps (spD X.K (n + 1) mir) ∧ Room (k + 1) X.A ∧ Mk X.K C f ∧ X.mg x = some (.ref C) ∧ Binds X.K fd ps [] ∧ Passes CX X E ∧
    ∀ (y : Addr) ds ns xs, ds.length = n → mk ds = some (ns, xs) → mir (.adr y :: ds) [(y, .ins C [] [])] = some (.ok .non [(y, .ins C ns xs)])
def mMake (C : Addr) (mk : List D → Option (List Str × List D)) (f : M (List D)) : M D := bindM f fun ds s => (mk ds).map fun p => .ok (.ins C p.1 p.2) s.ar
theorem de_make {CX : CXT} {x : Str} {C : Addr} {n : Nat} {mk : List D → Option (List Str × List D)} {f : M (List D)} (F : Cn X CX E x C (n + 1) mir mk) (hg : Gl X x) (ha : DA X E true (e :: es) t f) (hl : Lng f (n + 1)) (hdb : (x == ("__debug__" : Str)) = false := by decide)
    (he : starEach (e :: es) X.env = (false, eval e X.env) :: starEach es X.env := by rfl) (hpl : (backTo pos (starEach es X.env)).any (·.1) = false := by rfl) : DE X E q (.Call (.Name x p) (e :: es) [] pos) (tMake C (spD X.K (n + 2) mir) [] E t) (mMake C mk f) := by
  obtain ⟨k, fa, fd, ps, F1, hr, M, hm, hb, hx, hmk⟩ := F.ex
  obtain ⟨h1, h2⟩ := ha
  refine ⟨pe_make M F1 hr hg hm hb .nil hx h1 hdb he hpl, fun fr ow s σ H Q r0 R e P => ?_⟩
  have e0 := e
  unfold mMake bindM at e0
  cases z : f s with
  | none => rw [z] at e0; cases e0
  | some r1 =>
    refine Pst.bind (t := t) (k := fun ds s1 => if ds.length = n + 1 then (mk ds).map fun p => .ok (.ins C p.1 p.2) s1.ar else none) h2 R ?_ P fun ds ar vs H1 R1 k1 r1 e1 P1 => ?_
    · unfold bindM
      rw [z] at e0 ⊢
      cases r1 with
      | er C ns xs ar => exact e0
      | ok ds ar =>
        show (if ds.length = n + 1 then _ else none) = some r0
        rw [if_pos (hl s ds ar z)]
        exact e0
    · by_cases hl : ds.length = n + 1
      · rw [if_pos hl] at e1
        cases y : mk ds with
        | none => rw [y] at e1; cases e1
        | some p =>
          obtain ⟨ns, xs⟩ := p
          rw [y] at e1
          cases e1
          intro x0 dx hx0 hdx ne
          show spD X.K (n + 2) mir (.ref x0 :: (vs ++ [])) _ _ E
          rw [List.append_nil]
          have ex : Ext H1 (upd (upd H1 dx (.own x0)) x0 (.ins C dx [])) := fun a o h => by
            rw [upd_ne (ne_of_none h hx0), upd_ne (ne_of_none h hdx)]
            exact h
          refine ⟨fr.F ow, .adr x0 :: ds, [(x0, .ins C [] [])], _, by rw [List.length_cons, hl], hmk x0 ds ns xs hl y, ⟨_, _, rfl, rfl, r1.cl.keep fun a o n z => ⟨ex a o z, fun w => ?_⟩⟩, fun p hp => ?_, fun a z => ?_, by simp, fun v H' kp ha' hm' hr' => ?_⟩
          · rcases w with w | w
            · exact n w
            · rw [List.mem_singleton.mp w] at z
              rw [hx0] at z; cases z
          · rw [List.mem_singleton.mp hp]
            exact ⟨dx, [], upd_same, rfl, rfl⟩
          · rcases z with (z | z) | z
            · intro w
              cases u : H1 a with
              | none => exact R1.ban a z u
              | some o => rw [ex a o u] at w; cases w
            · intro w
              cases u : H1 a with
              | none => exact R1.owSome z u
              | some o => rw [ex a o u] at w; cases w
            · have e9 : a = x0 := by simpa using z
              rw [e9, upd_same]; simp
          · have e3 : v = .non := hr'
            refine ⟨e3, ?_⟩
            have ex' : Ext H1 H' := fun a o h => kp a o (ex a o h) fun w => by
              have e9 : a = x0 := by simpa using w
              rw [e9, hx0] at h; cases h
            obtain ⟨dx', fs, g1, g2, g3⟩ := hm' _ (List.mem_singleton.mpr rfl)
            exact P1 _ H' (R1.ext ex') (Keep.ext ex') (.inl ⟨x0, dx', fs, rfl, ⟨R1.fresh hx0, g1⟩, g2, g3.weak fun a z => .inl z⟩)
      · rw [if_neg hl] at e1; cases e1
end
end DL
set_option Elab.async false
set_option linter.all false
set_option maxRecDepth 100000
/-! DK: enumerate(tuple) as something that is walked -/
namespace DLk
open PySem PySem.Spec PyProof.Rows L2
open Sem (wp)
open AutoSeq1 (wpAny_loadPart')
theorem meets_enum_tup (l : Addr) (items : Array Value) :
    Meets (Builtin.«enumerate.__new__» ⟨[.type "enumerate", .ref l], []⟩) (fun _ R s => s.heap.IsTuple l items ∧
      R (.ok (.ret (.ref (s.heap.push { cls := .type "tuple_iterator", data := .fields #[.ref l, .int 0 0] }).objs.size)))
        { s with heap := (s.heap.push { cls := .type "tuple_iterator", data := .fields #[.ref l, .int 0 0] }).push { cls := .type "enumerate", data := .fields #[.none, .bool false, .ref s.heap.objs.size, rawInt 0, .none, .none] } }) :=
  .of_wp fun prog w A R s h => by
    obtain ⟨hp, g, d, tk, os⟩ := s; obtain ⟨hl, h⟩ := h
    have hsub := sub_enumerate
    have q1 : ∀ {A' : Around} {E : Value → Shared → Prop} {Q : Value → Shared → Prop}, Q (.ref hp.objs.size) ⟨hp.push { cls := .type "tuple_iterator", data := .fields #[.ref l, .int 0 0] }, g, d, tk, os⟩ → wpAny (model prog w) A' (pyIter (.ref l)) Q E ⟨hp, g, d, tk, os⟩ :=
      fun q => wpAny_pyIter_tuple hl q
    wp_walk using q1
    refine wpAny_stack_any fun st => wpAny_pure ?_
    split
    · rename_i c _ _ _ _ _
      cases (c == Value.type "enumerate")
      · wp_walk using q1
        exact ⟨_, rfl, h⟩
      · wp_walk using q1
        exact ⟨_, rfl, h⟩
    · wp_walk using q1
      exact ⟨_, rfl, h⟩
section
variable {prog : Program} {w : World} {A : Around} {E : Value → Shared → Prop} {s : Shared}
theorem call_enum_tup {l : Addr} {items : Array Value} {Q : Value → Shared → Prop} (hL : s.heap.IsTuple l items)
    (h : ∀ h', IsEnum h' (s.heap.objs.size + 1) s.heap.objs.size 0 .none → h'.IsTupleIter s.heap.objs.size l 0 → h'.objs.size = s.heap.objs.size + 2 →
      (∀ b o, s.heap.get? b = some o → h'.get? b = some o) → Q (.ref (s.heap.objs.size + 1)) { s with heap := h' }) :
    wpAny (model prog w) A (call (.type "enumerate") [.ref l]) Q E s := by
  refine callType_new F.called_enumerate (by decide) (F.typeCall_enumerate_1 _) (F.newCall_enumerate_1 _) (fun obj => F.args_object_init_2 obj _) F.entry_enumerate_new
    (meets_enum_tup l items) ⟨hL, ?_⟩
  have hz : (s.heap.push { cls := .type "tuple_iterator", data := .fields #[.ref l, .int 0 0] }).objs.size = s.heap.objs.size + 1 := Heap.size_push ..
  show _ ∧ _
  rw [hz]
  have he : IsEnum ((s.heap.push { cls := .type "tuple_iterator", data := .fields #[.ref l, .int 0 0] }).push
      { cls := .type "enumerate", data := .fields #[.none, .bool false, .ref s.heap.objs.size, rawInt 0, .none, .none] }) (s.heap.objs.size + 1) s.heap.objs.size 0 .none := by
    have := Heap.get?_push_size (s.heap.push { cls := .type "tuple_iterator", data := .fields #[.ref l, .int 0 0] })
      (o := { cls := .type "enumerate", data := .fields #[.none, .bool false, .ref s.heap.objs.size, rawInt 0, .none, .none] }) rfl
    rw [hz] at this; exact this
  refine ⟨⟨_, he, rfl⟩, h _ he ⟨_, Heap.get?_push_of_some _ (Heap.get?_push_size _ rfl), rfl, rfl⟩ (by rw [Heap.size_push, hz]) fun b o x => Heap.get?_push_of_some _ (Heap.get?_push_of_some _ x)⟩
end
/-- the tuple at a, each item in a new pair -/
def IteT (K : PySem.W.Frag) (a : Addr) : It :=
  ⟨fun i H => ∃ (xs : List V) (x : V), SqT K H a xs ∧ xs[i]? = some x, fun i H v H' => ∃ T x, v = .ref T ∧ H T = none ∧ H' = upd H T (.tup [.int (i : Nat), x]) ∧ ∀ xs, SqT K H a xs → xs[i]? = some x, fun i H => ∃ xs : List V, SqT K H a xs ∧ xs.length = i⟩
theorem turn_enumT {P : Program} {w : World} {K : PySem.W.Frag} {elts : List Expr} {kk : Nat} {tpos : Pos} (a e it : Addr) (hae : a ≠ it) :
    Turn P w K (.Tuple elts kk tpos) (IteT K a) [e, it] e (fun i h => (∃ old, IsEnum h e it ((i : Nat) : Int) old) ∧ h.IsTupleIter it a i ∧ e ≠ it) where
  mem := by simp
  obj := fun i h st b hb => by
    obtain ⟨⟨old, he⟩, ⟨o, ho, hc, hd⟩, _⟩ := st
    have e' : b = e ∨ b = it := by simpa using hb
    rcases e' with z | z
    · rw [z]; exact ⟨_, he, fun v q => nomatch q⟩
    · rw [z]; exact ⟨o, ho, fun v q => by rw [hd] at q; cases q⟩
  keep := fun i h h' st k => let ⟨⟨old, he⟩, hi, hne⟩ := st; ⟨⟨old, k e (by simp) _ he⟩, hi.at fun o q => k it (by simp) o q, hne⟩
  item := by
    intro X hP hw hK hc i pins s σ H E I hf st hg
    subst hP hw hK
    obtain ⟨⟨old, he⟩, hit, hne⟩ := st
    obtain ⟨xs, x, hq, hx⟩ := hg
    obtain ⟨its, rv, p, hz⟩ := I.tuple hq
    obtain ⟨u, hu, ru⟩ := rv.get hx
    have hel : e < s.heap.objs.size := Heap.lt_size he
    have hil : it < s.heap.objs.size := by obtain ⟨_, q, _⟩ := hit; exact Heap.lt_size q
    have hlt : i < its.toArray.size := by
      have := (List.getElem?_eq_some_iff.mp hu).1
      simpa using this
    have ht : s.heap.IsTuple a its.toArray := p
    have hea : e ≠ a := fun z => by
      subst z
      obtain ⟨o, ho, hcl, _⟩ := ht
      rw [show s.heap.get? e = some _ from he] at ho
      have := Option.some.inj ho
      rw [← this] at hcl
      injection hcl with hcl; revert hcl; decide
    have D := Draws.tuple (prog := X.prog) (w := X.w) (A := X.A.in1) (I.ok.hd hc) it a hae its.toArray
    refine wpAny_pyNext_enum_itemD D he ⟨hit, ht⟩ hlt hne (by simp [hne, hea]) fun x' h' tk hP ho hst' hT hsz hk => ?_
    have ex : x' = u := by
      have : its.toArray[i]? = some u := by simpa using hu
      rw [this] at hP
      exact (Option.some.inj hP).symm
    subst ex
    refine ⟨_, rfl, wpAny_letOwnedTupleGo_enum (s := { s with heap := h', toks := tk + 1 }) ho fun h'' he' sb => ?_⟩
    have hT2 : h''.get? s.heap.objs.size = some { cls := .type "tuple", data := .seq #[.int i tk, x'] } := (sb.2 _ (Nat.ne_of_gt hel)).trans hT
    have new : ObjOk X.prog X.w (upd H s.heap.objs.size (.tup [.int (i : Nat), x])) h'' s.heap.objs.size (.tup [.int (i : Nat), x]) :=
      ⟨by show 2 ≤ sizeLine; decide, [.int i tk, x'], .cons ⟨_, rfl⟩ (.cons ru .nil), ⟨_, hT2, rfl, _, rfl⟩⟩
    have I1 : Inv X pins σ (upd H s.heap.objs.size (.tup [.int (i : Nat), x])) { s with heap := h'', toks := tk + 1 } :=
      I.turnedNew (ch := [e, it]) (fun b ob hb q => (sb.2 b (fun z => hb (by simp [z]))).trans (hk b ob (fun z => hb (by simp [z])) (fun z => hb (by simp [z])) q)) hf (Nat.le_refl _) new
    refine ⟨.ref s.heap.objs.size, _, I1, rfl, ⟨_, x, rfl, I.hok.fresh (Nat.le_refl _), rfl, fun ys hy => by rw [I.tuple_inj hy hq]; exact hx⟩, ⟨⟨x', ?_⟩, hst'.1.at fun o q => (sb.2 it (Ne.symm hne)).trans q, hne⟩, fun b hb => ?_⟩
    · have e1 : ((i + 1 : Nat) : Int) = (i : Int) + 1 := by omega
      rw [e1]; exact he'
    · have hb' : b < s.heap.objs.size := by
        have e' : b = e ∨ b = it := by simpa using hb
        rcases e' with z | z
        · rw [z]; exact hel
        · rw [z]; exact hil
      rw [upd_ne (Nat.ne_of_lt hb')]
      exact (hf b hb).1
  done := by
    intro X hP hw hK hc i pins s σ H E I hf st hg
    subst hP hw hK
    obtain ⟨⟨old, he⟩, hit, hne⟩ := st
    obtain ⟨xs, hq, hx⟩ := hg
    obtain ⟨its, rv, p, hz⟩ := I.tuple hq
    obtain ⟨f0, f1, f2, f3, f4, f5⟩ := hf it (by simp)
    have hl := rv.length
    have ht : s.heap.IsTuple a its.toArray := p
    have D := Draws.tuple (prog := X.prog) (w := X.w) (A := X.A.in1) (I.ok.hd hc) it a hae its.toArray
    have ei : i = its.toArray.size := by rw [List.size_toArray]; omega
    subst ei
    exact wpAny_pyNext_enum_endD D he ⟨hit, ht⟩ fun h' eb => ⟨rfl, I.turned (t' := s.toks) (fun b o hb q => eb b o hb q) f0 f1 f3 f4 f5⟩
  self := fun A i s Q E st h => let ⟨⟨_, he⟩, _⟩ := st; wpAny_pyIter_enum he h
def iEnumA (K : PySem.W.Frag) (ta : TA) : TI := fun σ H R => ta σ H fun vs H1 => ∃ a xs, vs = [.ref a] ∧ ((SqL K H1 a xs ∧ R (Ite K a) H1) ∨ (SqT K H1 a xs ∧ R (IteT K a) H1))
theorem pi_enumA {X : Cx} {e : Expr} {ta : TA} {p pos tpos : Pos} {elts : List Expr} {kk : Nat} (hg : Gl X "enumerate") (hm : X.mg "enumerate" = none) (ha : PA X [e] ta) (hs : starEach [e] X.env = [(false, eval e X.env)] := by rfl) :
    PI X (.Tuple elts kk tpos) (.Call (.Name "enumerate" p) [e] [] pos) (iEnumA X.K ta) := by
  refine ⟨fun pins s σ H R I h => ?_⟩
  refine Call_ (ld_blt I hg hm boot_enumerate (PyProof.Rows.callWith_type1 (thn (ha.run pos pins s σ H _ I h) fun us s1 ⟨vs, H1, I1, r1, q1⟩ => ?_) hs rfl))
  obtain ⟨a, xs, ex, q1⟩ := q1
  subst ex
  cases r1 with
  | cons r rr =>
    cases rr
    cases r
    have fr2 : ∀ b, b ∈ [s1.heap.objs.size + 1, s1.heap.objs.size] → FpOk X pins H1 b := fun b hb => by
      have e' : b = s1.heap.objs.size + 1 ∨ b = s1.heap.objs.size := by simpa using hb
      have hle : s1.heap.objs.size ≤ b := by
        rcases e' with z | z
        · rw [z]; exact Nat.le_add_right _ _
        · rw [z]; exact Nat.le_refl _
      exact I1.fpOk hle (I1.hok.fresh hle)
    rcases q1 with ⟨hq, q⟩ | ⟨hq, q⟩
    · obtain ⟨its, rv, p', hz⟩ := I1.list hq
      refine call_enumerate_list p'.isList fun h' he hit hsz hk => wpAny_pyIter_enum he ?_
      have I2 : Inv X pins σ H1 { s1 with heap := h' } := I1.kept (t' := s1.toks) hk
      exact ⟨s1.heap.objs.size + 1, [s1.heap.objs.size + 1, s1.heap.objs.size], _, _, H1, rfl, I2, turn_enum a (s1.heap.objs.size + 1) s1.heap.objs.size, ⟨⟨.none, he⟩, hit, Nat.succ_ne_self _⟩, fr2, q⟩
    · obtain ⟨its, rv, p', hz⟩ := I1.tuple hq
      have ht : s1.heap.IsTuple a its.toArray := p'
      have hal : a < s1.heap.objs.size := p'.lt
      refine call_enum_tup ht fun h' he hit hsz hk => wpAny_pyIter_enum he ?_
      have I2 : Inv X pins σ H1 { s1 with heap := h' } := I1.kept (t' := s1.toks) hk
      exact ⟨s1.heap.objs.size + 1, [s1.heap.objs.size + 1, s1.heap.objs.size], _, _, H1, rfl, I2, turn_enumT a (s1.heap.objs.size + 1) s1.heap.objs.size (Nat.ne_of_lt hal), ⟨⟨.none, he⟩, hit, Nat.succ_ne_self _⟩, fr2, q⟩
/-- a list, a tuple, a text -/
def iSeq (K : PySem.W.Frag) (tl : TE) : TI := fun σ H R => tl σ H fun x H1 => (∃ a, x = .ref a ∧ (∃ xs, SqL K H1 a xs) ∧ R (Itl K a) H1) ∨ (∃ a, x = .ref a ∧ (∃ xs, SqT K H1 a xs) ∧ R (Itt K a) H1) ∨ (∃ z, x = .str z ∧ R (Its z) H1)
theorem pi_seq {X : Cx} {tg l : Expr} {tl : TE} (hl : PE X l tl) : PI X tg l (iSeq X.K tl) := by
  refine ⟨fun pins s σ H R I h => ?_⟩
  refine thn (hl.run pins s σ H _ I h) fun v s1 ⟨x, H1, I1, r1, q1⟩ => ?_
  rcases q1 with ⟨a, e, ⟨xs, hq⟩, q⟩ | ⟨a, e, ⟨xs, hq⟩, q⟩ | ⟨z, e, q⟩
  · subst e
    cases r1
    obtain ⟨its, rv, p, hz⟩ := I1.list hq
    refine wpAny_pyIter_list p.isList ?_
    refine ⟨s1.heap.objs.size, [s1.heap.objs.size], _, _, H1, rfl, I1.kept (t' := s1.toks) fun b o e => Heap.get?_push_of_some _ e, turn_list a _, ⟨_, Heap.get?_push_size _ rfl, rfl, rfl⟩, fun b hb => ?_, q⟩
    have e : b = s1.heap.objs.size := by simpa using hb
    subst e
    exact I1.fpOk (Nat.le_refl _) (I1.hok.fresh (Nat.le_refl _))
  · subst e
    cases r1
    obtain ⟨its, rv, p, hz⟩ := I1.tuple hq
    refine wpAny_pyIter_tuple (show s1.heap.IsTuple a its.toArray from p) ?_
    refine ⟨s1.heap.objs.size, [s1.heap.objs.size], _, _, H1, rfl, I1.kept (t' := s1.toks) fun b o e => Heap.get?_push_of_some _ e, turn_tuple a _, ⟨_, Heap.get?_push_size _ rfl, rfl, rfl⟩, fun b hb => ?_, q⟩
    have e : b = s1.heap.objs.size := by simpa using hb
    subst e
    exact I1.fpOk (Nat.le_refl _) (I1.hok.fresh (Nat.le_refl _))
  · subst e
    obtain ⟨t, rfl⟩ := r1
    by_cases ha : z.cps.all (· < 128) = true
    · refine wpAny_pyIter_ascii ha ?_
      refine ⟨s1.heap.objs.size, [s1.heap.objs.size], _, _, H1, rfl, I1.kept (t' := s1.toks) fun b o e => Heap.get?_push_of_some _ e, turn_str _ z t "str_ascii_iterator" (.inl rfl), ⟨_, Heap.get?_push_size _ rfl, rfl, rfl⟩, fun b hb => ?_, q⟩
      have e : b = s1.heap.objs.size := by simpa using hb
      subst e
      exact I1.fpOk (Nat.le_refl _) (I1.hok.fresh (Nat.le_refl _))
    · refine wpAny_pyIter_wide (by simpa using ha) ?_
      refine ⟨s1.heap.objs.size, [s1.heap.objs.size], _, _, H1, rfl, I1.kept (t' := s1.toks) fun b o e => Heap.get?_push_of_some _ e, turn_str _ z t "str_iterator" (.inr rfl), ⟨_, Heap.get?_push_size _ rfl, rfl, rfl⟩, fun b hb => ?_, q⟩
      have e : b = s1.heap.objs.size := by simpa using hb
      subst e
      exact I1.fpOk (Nat.le_refl _) (I1.hok.fresh (Nat.le_refl _))
theorem walk_enumT {K : PySem.W.Frag} {a : Addr} {xs : List V} : Walk (IteT K a) xs.length (fun H => SqT K H a xs) (YPair (fun i => some (.int (i : Nat))) (fun i => xs[i]?)) := by
  refine ⟨fun i _ hi q => ⟨xs, xs[i], q, by simp [hi]⟩, fun _ q => ⟨xs, q, rfl⟩, fun i H v H' _ q y => ?_⟩
  obtain ⟨T, x, h1, h2, h3, h4⟩ := y
  exact ⟨T, .int (i : Nat), x, h1, h2, h3, rfl, h4 xs q⟩
theorem walk_zipT {K : PySem.W.Frag} {a b : Addr} {xs ys : List V} {n : Nat} (hn : n = min xs.length ys.length) : Walk (RZ.ItzT K a b) n (fun H => SqT K H a xs ∧ SqT K H b ys) (YPair (fun i => xs[i]?) (fun i => ys[i]?)) := by
  subst hn
  refine ⟨fun i _ hi q => ?_, fun _ q => ⟨xs, ys, q.1, q.2, by omega⟩, fun i H v H' _ q y => ?_⟩
  · have h1 : i < xs.length := by omega
    have h2 : i < ys.length := by omega
    exact ⟨xs, ys, xs[i], ys[i], q.1, q.2, by simp [h1], by simp [h2]⟩
  · obtain ⟨T, x, z, h1, h2, h3, h4, h5⟩ := y
    exact ⟨T, x, z, h1, h2, h3, h4 xs q.1, h5 ys q.2⟩
end DLk
set_option Elab.async false
set_option linter.all false
set_option maxRecDepth 100000
/-! DM: targets, what is walked, list comprehensions -/
namespace DL
open PySem L2 DLk

/-! ### targets -/
inductive Tg where
  | nm (i : Nat)
  | tp (is : List Nat)
  | ls (is : List Nat)
def Tg.ix : Tg → List Nat
  | .nm i => [i]
  | .tp is => is
  | .ls is => is
def S.put (s : S) (i : Nat) (d : D) : Option S := if i < s.sl.length then some { s with sl := s.sl.set i (.va d) } else none
def putAll : List Nat → List D → S → Option S
  | [], [], s => some s
  | i :: is, d :: ds, s => (s.put i d).bind (putAll is ds)
  | _, _, _ => none
def setT : Tg → D → S → Option S
  | .nm i, d, s => s.put i d
  | .tp is, .tup ds, s => putAll is ds s
  | .tp is, .wt ds, s => putAll is ds s
  | .ls is, .lst ds, s => putAll is ds s
  | _, _, _ => none
section
variable {K : PySem.W.Frag} {fr : Frm} {ow ow' : Ow} {s s' : S} {σ σ' : L2.St} {H H' : Hp}
theorem F_set {i : Nat} {a : Addr} (h : fr.F (ow.set i none) a) : fr.F ow a := by
  rcases h with h | h
  · exact .inl h
  · obtain ⟨j, hj⟩ := List.getElem?_of_mem h
    by_cases e : i = j
    · subst e
      rw [List.getElem?_set] at hj
      split at hj
      · split at hj <;> cases hj
      · exact .inr (List.mem_of_getElem? hj)
    · rw [List.getElem?_set_ne e] at hj
      exact .inr (List.mem_of_getElem? hj)
theorem join_set_self {α : Type} {l : List (Option α)} {i : Nat} {x : Option α} (h : i < l.length) : ((l.set i x)[i]?).join = x := by
  rw [List.getElem?_set_self h]; rfl
theorem Rl.slots (R : Rl K fr ow s σ H) {i : Nat} {x : Sl} {w : Option V} (hb : ∀ a, fr.F ow' a → fr.F ow a) (hw : ow' = ow.set i none) (hx : SlOk K H (fr.F ow') x w none) : Rl K fr ow' { s with sl := s.sl.set i x } (σ.set i w) H := by
  subst hw
  refine ⟨by simp [R.ls], by simp [R.lo], fun j y hj => ?_, fun j k p h1 h2 => ?_, fun p hp => R.owf p ?_, R.ban, R.same, R.ara, fun p hp => (R.ar p hp).keep (fun a o n q => ⟨q, fun z => n (hb a z)⟩) fun o q => q, R.nd, R.trk⟩
  · by_cases e : i = j
    · subst e
      have hl : i < s.sl.length := by
        have := (List.getElem?_eq_some_iff.mp hj).1
        simpa using this
      have hy : x = y := by
        have : (s.sl.set i x)[i]? = some y := hj
        rw [List.getElem?_set_self hl] at this
        exact Option.some.inj this
      subst hy
      rw [join_set_self (by rw [R.ls]; exact hl), join_set_self (by rw [R.lo]; exact hl)]
      exact hx
    · rw [List.getElem?_set_ne e, List.getElem?_set_ne e]
      have hj' : s.sl[j]? = some y := by
        have : (s.sl.set i x)[j]? = some y := hj
        rwa [List.getElem?_set_ne e] at this
      exact (R.slot j y hj').keep (fun a o n q => ⟨q, fun z => n (hb a z)⟩) fun p u _ q => q
  · have g : ∀ {m : Nat}, (ow.set i none)[m]? = some (some p) → ow[m]? = some (some p) := fun {m} h => by
      by_cases e : i = m
      · subst e
        rw [List.getElem?_set] at h
        split at h
        · split at h <;> cases h
        · exact h
      · rwa [List.getElem?_set_ne e] at h
    exact R.inj j k p (g h1) (g h2)
  · obtain ⟨j, hj⟩ := List.getElem?_of_mem hp
    by_cases e : i = j
    · subst e
      rw [List.getElem?_set] at hj
      split at hj
      · split at hj <;> cases hj
      · exact List.mem_of_getElem? hj
    · rw [List.getElem?_set_ne e] at hj
      exact List.mem_of_getElem? hj
theorem Rl.put (R : Rl K fr ow s σ H) {i : Nat} {d : D} {v : V} (h : Rep K H (fr.F ow) d v) : Rl K fr (ow.set i none) { s with sl := s.sl.set i (.va d) } (σ.set i (some v)) H :=
  R.slots (fun a z => F_set z) rfl ⟨rfl, v, rfl, h.weak fun a z => F_set z⟩
/-- what a store of names leaves alone -/
structure Sto (ix : List Nat) (σ σ' : L2.St) (ow ow' : Ow) : Prop where
  ls : σ'.length = σ.length
  lo : ow'.length = ow.length
  σo : ∀ j, j ∉ ix → σ'[j]? = σ[j]?
  oo : ∀ j, j ∉ ix → ow'[j]? = ow[j]?
  on : ∀ j, j ∈ ix → (ow'[j]?).join = none
theorem Sto.F {ix : List Nat} (h : Sto ix σ σ' ow ow') : ∀ a, fr.F ow' a → fr.F ow a := fun a z => by
  rcases z with z | z
  · exact .inl z
  · obtain ⟨j, hj⟩ := List.getElem?_of_mem z
    by_cases e : j ∈ ix
    · have := h.on j e
      rw [hj] at this; cases this
    · rw [h.oo j e] at hj
      exact .inr (List.mem_of_getElem? hj)
theorem Sto.stp {ix : List Nat} (h : Sto ix σ σ' ow ow') : Stp fr H ow H ow' := ⟨fun a o q _ => q, fun a _ z => h.F a z⟩
structure DG (X : Cx) (tg : Expr) (g : TG) (T : Tg) : Prop where
  pe : PG X tg g
  td : ∀ fr ow s σ H d v (Q : L2.St → Hp → Prop) s', Rl X.K fr ow s σ H → Rep X.K H (fr.F ow) d v → setT T d s = some s' → (∀ σ' ow', Rl X.K fr ow' s' σ' H → Sto T.ix σ σ' ow ow' → s'.ar = s.ar → Q σ' H) → g v σ H Q
structure DGs (X : Cx) (tgs : List Expr) (g : TGs) (is : List Nat) : Prop where
  pe : PGs X tgs g
  td : ∀ fr ow s σ H ds vs (Q : L2.St → Hp → Prop) s', Rl X.K fr ow s σ H → RepL X.K H (fr.F ow) ds vs → putAll is ds s = some s' → (∀ σ' ow', Rl X.K fr ow' s' σ' H → Sto is σ σ' ow ow' → s'.ar = s.ar → Q σ' H) → g vs σ H Q
end
section
variable {X : Cx} {E : XK} {q : Bool} {e a b tg iter : Expr} {es : List Expr} {pos p : Pos}
theorem put_some {s s' : S} {i : Nat} {d : D} (h : s.put i d = some s') : i < s.sl.length ∧ s' = { s with sl := s.sl.set i (.va d) } := by
  unfold S.put at h
  split at h
  · rename_i hl
    cases h
    exact ⟨hl, rfl⟩
  · cases h
theorem sto_one {σ : L2.St} {ow : Ow} {i : Nat} {v : Option V} : Sto [i] σ (σ.set i v) ow (ow.set i none) := by
  refine ⟨by simp, by simp, fun j hj => List.getElem?_set_ne fun z => hj (by simp [z]), fun j hj => List.getElem?_set_ne fun z => hj (by simp [z]), fun j hj => ?_⟩
  obtain rfl : j = i := by simpa using hj
  by_cases h : j < ow.length
  · exact join_set_self h
  · rw [List.getElem?_eq_none (by simpa using h)]; rfl
theorem dg_name {i : Nat} {x : Str} (hN : X.N.Nodup) (hi : X.N[i]? = some x := by rfl) (hx : Loc X.env.scope x := by first | exact Or.inl rfl | exact Or.inr rfl) (hf : X.fn x = true ∨ X.env.scope.names.lookup x = some .local := by first | exact .inl rfl | exact .inr rfl) : DG X (.Name x pos) (gName i) (.nm i) := by
  refine ⟨pg_name hN hi hx hf, fun fr ow s σ H d v Q s' R r e k => ?_⟩
  obtain ⟨hl, rfl⟩ := put_some e
  exact k _ _ (R.put r) sto_one rfl
theorem dgs_nil : DGs X [] gNil [] := ⟨pgs_nil, fun fr ow s σ H ds vs Q s' R r e k => by
  cases ds with
  | nil =>
    cases e
    exact ⟨r, k σ ow R ⟨rfl, rfl, fun _ _ => rfl, fun _ _ => rfl, fun j h => nomatch h⟩ rfl⟩
  | cons d ds => cases e⟩
theorem Sto.cons {i : Nat} {is : List Nat} {σ σ1 σ2 : L2.St} {ow ow1 ow2 : Ow} (a : Sto [i] σ σ1 ow ow1) (b : Sto is σ1 σ2 ow1 ow2) : Sto (i :: is) σ σ2 ow ow2 := by
  refine ⟨b.ls.trans a.ls, b.lo.trans a.lo, fun j hj => ?_, fun j hj => ?_, fun j hj => ?_⟩
  · simp only [List.mem_cons, not_or] at hj
    exact (b.σo j hj.2).trans (a.σo j (by simpa using hj.1))
  · simp only [List.mem_cons, not_or] at hj
    exact (b.oo j hj.2).trans (a.oo j (by simpa using hj.1))
  · by_cases h : j ∈ is
    · exact b.on j h
    · rw [b.oo j h]
      refine a.on j ?_
      rcases List.mem_cons.mp hj with z | z
      · simp [z]
      · exact absurd z h
theorem dgs_cons {i : Nat} {is : List Nat} {t : TG} {u : TGs} (h1 : DG X e t (.nm i)) (h2 : DGs X es u is)
    (hs : (assignEach (e :: es) X.env).map (·.2) = assign e X.env :: (assignEach es X.env).map (·.2) := by rfl) : DGs X (e :: es) (gCons t u) (i :: is) := by
  refine ⟨pgs_cons h1.pe h2.pe hs, fun fr ow s σ H ds vs Q s' R r e1 k => ?_⟩
  cases ds with
  | nil => cases e1
  | cons d ds =>
    obtain ⟨v, vr, rfl, r1, r2⟩ := r
    have e1 : (s.put i d).bind (putAll is ds) = some s' := e1
    cases z : s.put i d with
    | none => rw [z] at e1; cases e1
    | some s1 =>
      rw [z] at e1
      refine ⟨v, vr, rfl, h1.td fr ow s σ H d v _ s1 R r1 z fun σ1 ow1 R1 st1 ea1 => ?_⟩
      exact h2.td fr ow1 s1 σ1 H ds vr Q s' R1 (r2.weak fun a z => st1.F a z) e1 fun σ2 ow2 R2 st2 ea2 => k σ2 ow2 R2 (st1.cons st2) (ea2.trans ea1)
theorem putAll_len : ∀ {is : List Nat} {ds : List D} {s s' : S}, putAll is ds s = some s' → ds.length = is.length
  | [], [], _, _, _ => rfl
  | i :: is, d :: ds, s, s', h => by
    have h : (s.put i d).bind (putAll is ds) = some s' := h
    cases z : s.put i d with
    | none => rw [z] at h; cases h
    | some s1 => rw [z] at h; rw [List.length_cons, List.length_cons, putAll_len (s := s1) h]
  | [], _ :: _, _, _, h => by cases h
  | _ :: _, [], _, _, h => by cases h
theorem dg_tup {k n : Nat} {is : List Nat} {t : TGs} (hc : X.calm = true) (h : DGs X es t is) (hl : is.length = n := by rfl)
    (hn : (assignEach es X.env).length = n := by rfl) (hst : (assignEach es X.env).findIdx? (·.1) = none := by rfl) : DG X (.Tuple es k pos) (gTup X.K n t) (.tp is) := by
  refine ⟨pg_tup hc h.pe hn hst, fun fr ow s σ H d v Q s' R r e kk => ?_⟩
  cases d with
  | tup ds =>
    obtain ⟨a, vs, rfl, _, ⟨_, h1⟩, h2⟩ := r
    have e : putAll is ds s = some s' := e
    exact ⟨a, vs, rfl, SqT.of h1, by rw [h2.len, putAll_len e, hl], h.td fr ow s σ H ds vs Q s' R h2 e kk⟩
  | wt ds =>
    obtain ⟨a, vs, rfl, _, h1, h2⟩ := r
    have e : putAll is ds s = some s' := e
    exact ⟨a, vs, rfl, .inr h1, by rw [h2.len, putAll_len e, hl], h.td fr ow s σ H ds vs Q s' R h2 e kk⟩
  | _ => cases e

/-! ### what is walked -/
/-- what a walk gives, and that it goes on giving it -/
def ItD (K : PySem.W.Frag) (q : Bool) (C F : Addr → Prop) (H : Hp) (J : It) (xs : List D) : Prop :=
  ∃ (G : Hp → Prop) (Y : Nat → Hp → V → Hp → Prop), Walk J xs.length G Y ∧ ∀ (F' : Addr → Prop) (H' : Hp), (∀ a o, H a = some o → ¬ (if q then F a else C a) → H' a = some o) → (∀ a, H a ≠ none → F' a → F a) →
    G H' ∧ ∀ i x H2 d, Y i H' x H2 → (∀ p, H' p = none → ¬ F' p) → xs[i]? = some d → Ext H' H2 ∧ Rep K H2 F' d x
def rI (K : PySem.W.Frag) (q : Bool) : Rel (List D) It := fun fr ow _ _ H xs J => ItD K q fr.C (fr.F ow) H J xs
structure DIt (X : Cx) (E : XK) (q : Bool) (tg iter : Expr) (w : TI) (f : M (List D)) : Prop where
  pe : PI X tg iter w
  td : TDg X.K (rI X.K q) E w f
def sqItems : D → Option (List D)
  | .lst xs => some xs
  | .tup xs => some xs
  | .wt xs => some xs
  | .str z => some (z.cps.toList.map fun c => .str ⟨#[c]⟩)
  | _ => none
def mSeq (f : M D) : M (List D) := bindM f fun d => liftM (sqItems d)
theorem liftM_some {α : Type} {o : Option α} {s : S} {r : R α} (h : liftM o s = some r) : ∃ a, o = some a ∧ r = .ok a s.ar := by
  unfold liftM at h
  cases o with
  | none => cases h
  | some a => cases h; exact ⟨a, rfl, rfl⟩
theorem kpF {C F F' : Addr → Prop} {H H' : Hp} (cf : ∀ a, C a → F a) (kp : ∀ a o, H a = some o → ¬ (if q then F a else C a) → H' a = some o) (bn : ∀ a, H a ≠ none → F' a → F a) : ∀ a o, ¬ F a → H a = some o → H' a = some o ∧ ¬ F' a := fun b o n z =>
  ⟨kp b o z (by cases q with
    | true => exact n
    | false => exact fun w => n (cf b w)), fun w => n (bn b (by rw [z]; simp) w)⟩
theorem it_list {K : PySem.W.Frag} {C F : Addr → Prop} {H : Hp} {a : Addr} {xs : List D} {vs : List V} (cf : ∀ a, C a → F a) (hc : ¬ (if q then F a else C a)) (hp : H a = some (.lst vs)) (r : RepL K H F xs vs) : ItD K q C F H (Itl K a) xs := by
  have w := walk_list (K := K) (a := a) (xs := vs)
  rw [r.len] at w
  refine ⟨_, _, w, fun F' H' kp bn => ⟨SqL.of (kp a _ hp hc), fun i x H2 d y fr e => ?_⟩⟩
  obtain ⟨rfl, y⟩ := y
  obtain ⟨v, e1, r1⟩ := r.get e
  rw [y] at e1
  cases e1
  exact ⟨fun _ _ z => z, r1.keep (kpF cf kp bn)⟩
theorem it_tup {K : PySem.W.Frag} {C F : Addr → Prop} {H : Hp} {a : Addr} {xs : List D} {vs : List V} (cf : ∀ a, C a → F a) (hp : (¬ (if q then F a else C a) ∧ H a = some (.tup vs)) ∨ WT K a vs) (r : RepL K H F xs vs) : ItD K q C F H (Itt K a) xs := by
  have w := walk_tup (K := K) (a := a) (xs := vs)
  rw [r.len] at w
  refine ⟨_, _, w, fun F' H' kp bn => ⟨?_, fun i x H2 d y fr e => ?_⟩⟩
  · rcases hp with ⟨hc, hp⟩ | hp
    · exact SqT.of (kp a _ hp hc)
    · exact .inr hp
  · obtain ⟨rfl, y⟩ := y
    obtain ⟨v, e1, r1⟩ := r.get e
    rw [y] at e1
    cases e1
    exact ⟨fun _ _ z => z, r1.keep (kpF cf kp bn)⟩
theorem it_str {K : PySem.W.Frag} {C F : Addr → Prop} {H : Hp} {z : Str} : ItD K q C F H (Its z) (z.cps.toList.map fun c => .str ⟨#[c]⟩) := by
  have w := walk_str (z := z)
  have hl : z.cps.size = (z.cps.toList.map fun c => D.str ⟨#[c]⟩).length := by simp
  rw [hl] at w
  refine ⟨_, _, w, fun F' H' kp bn => ⟨True.intro, fun i x H2 d y fr e => ?_⟩⟩
  obtain ⟨rfl, c, hc, rfl⟩ := y
  refine ⟨fun _ _ z => z, ?_⟩
  rw [List.getElem?_map] at e
  have : z.cps.toList[i]? = some c := by simpa using hc
  rw [this] at e
  cases e
  rfl
theorem it_range {K : PySem.W.Frag} {C F : Addr → Prop} {H : Hp} {lo : Int} {n : Nat} : ItD K q C F H (Itr lo n) ((List.range n).map fun i : Nat => .int (lo + i)) := by
  have w := walk_range (lo := lo) (n := n)
  have hl : n = ((List.range n).map fun i : Nat => D.int (lo + i)).length := by simp
  have w2 : Walk (Itr lo n) ((List.range n).map fun i : Nat => D.int (lo + i)).length (fun _ => True) (YFn fun i => .int (lo + i)) := by rw [← hl]; exact w
  refine ⟨_, _, w2, fun F' H' kp bn => ⟨True.intro, fun i x H2 d y fr e => ?_⟩⟩
  obtain ⟨rfl, rfl⟩ := y
  refine ⟨fun _ _ z => z, ?_⟩
  have hi : i < n := by
    have := (List.getElem?_eq_some_iff.mp e).1
    simpa using this
  rw [List.getElem?_map, List.getElem?_range hi] at e
  cases e
  rfl
def enumD (n : Nat) : List D → List D
  | [] => []
  | x :: xs => .tup [.int n, x] :: enumD (n + 1) xs
theorem enumD_len : ∀ (xs : List D) (n : Nat), (enumD n xs).length = xs.length
  | [], _ => rfl
  | x :: xs, n => by unfold enumD; rw [List.length_cons, List.length_cons, enumD_len xs]
theorem enumD_get : ∀ (xs : List D) (n i : Nat), (enumD n xs)[i]? = (xs[i]?).map fun x => .tup [.int ((n + i : Nat) : Int), x]
  | [], _, i => by simp [enumD]
  | x :: xs, n, 0 => by simp [enumD]
  | x :: xs, n, i + 1 => by
    unfold enumD
    rw [List.getElem?_cons_succ, List.getElem?_cons_succ, enumD_get xs (n + 1) i]
    congr 1
    funext y
    have : n + 1 + i = n + (i + 1) := by omega
    rw [this]
theorem rep_pair {K : PySem.W.Frag} {F : Addr → Prop} {H : Hp} {T : Addr} {d1 d2 : D} {v1 v2 : V} (hT : H T = none) (fr : ∀ p, H p = none → ¬ F p) (r1 : Rep K H F d1 v1) (r2 : Rep K H F d2 v2) : Ext H (upd H T (.tup [v1, v2])) ∧ Rep K (upd H T (.tup [v1, v2])) F (.tup [d1, d2]) (.ref T) :=
  ⟨Ext.upd hT, T, [v1, v2], rfl, by show 2 ≤ sizeLine; decide, ⟨fr T hT, upd_same⟩, ((RepL.cons r1 (RepL.cons r2 RepL.nil)).new hT).weak fun a z => .inl z⟩
theorem it_enumL {K : PySem.W.Frag} {C F : Addr → Prop} {H : Hp} {a : Addr} {xs : List D} {vs : List V} (cf : ∀ a, C a → F a) (hc : ¬ (if q then F a else C a)) (hp : H a = some (.lst vs)) (r : RepL K H F xs vs) : ItD K q C F H (Ite K a) (enumD 0 xs) := by
  have w := walk_enum (K := K) (a := a) (xs := vs)
  rw [r.len, ← enumD_len xs 0] at w
  refine ⟨_, _, w, fun F' H' kp bn => ⟨SqL.of (kp a _ hp hc), fun i x H2 d y fr e => ?_⟩⟩
  obtain ⟨T, x1, x2, rfl, hT, rfl, e1, e2⟩ := y
  cases e1
  rw [enumD_get] at e
  cases z : xs[i]? with
  | none => rw [z] at e; cases e
  | some d2 =>
    rw [z] at e
    cases e
    obtain ⟨v, e3, r1⟩ := r.get z
    have e2 : vs[i]? = some x2 := e2
    rw [e2] at e3
    cases e3
    exact rep_pair hT fr (by rw [Nat.zero_add]; exact rfl) (r1.keep (kpF cf kp bn))
theorem it_enumT {K : PySem.W.Frag} {C F : Addr → Prop} {H : Hp} {a : Addr} {xs : List D} {vs : List V} (cf : ∀ a, C a → F a) (hp : (¬ (if q then F a else C a) ∧ H a = some (.tup vs)) ∨ WT K a vs) (r : RepL K H F xs vs) : ItD K q C F H (IteT K a) (enumD 0 xs) := by
  have w := walk_enumT (K := K) (a := a) (xs := vs)
  rw [r.len, ← enumD_len xs 0] at w
  refine ⟨_, _, w, fun F' H' kp bn => ⟨?_, fun i x H2 d y fr e => ?_⟩⟩
  · rcases hp with ⟨hc, hp⟩ | hp
    · exact SqT.of (kp a _ hp hc)
    · exact .inr hp
  obtain ⟨T, x1, x2, rfl, hT, rfl, e1, e2⟩ := y
  cases e1
  rw [enumD_get] at e
  cases z : xs[i]? with
  | none => rw [z] at e; cases e
  | some d2 =>
    rw [z] at e
    cases e
    obtain ⟨v, e3, r1⟩ := r.get z
    have e2 : vs[i]? = some x2 := e2
    rw [e2] at e3
    cases e3
    exact rep_pair hT fr (by rw [Nat.zero_add]; exact rfl) (r1.keep (kpF cf kp bn))
theorem it_zipL {K : PySem.W.Frag} {C F : Addr → Prop} {H : Hp} {a b : Addr} {xs ys : List D} {vs ws : List V} (cf : ∀ a, C a → F a) (hc : ¬ (if q then F a else C a)) (hp : H a = some (.lst vs)) (r : RepL K H F xs vs)
    (hc2 : ¬ (if q then F b else C b)) (hp2 : H b = some (.lst ws)) (r2 : RepL K H F ys ws) : ItD K q C F H (Itz K a b) ((xs.zip ys).map fun p => .tup [p.1, p.2]) := by
  have w := walk_zip (K := K) (a := a) (b := b) (xs := vs) (ys := ws) (n := ((xs.zip ys).map fun p => D.tup [p.1, p.2]).length) (by simp [r.len, r2.len])
  refine ⟨_, _, w, fun F' H' kp bn => ⟨⟨SqL.of (kp a _ hp hc), SqL.of (kp b _ hp2 hc2)⟩, fun i x H2 d y fr e => ?_⟩⟩
  obtain ⟨T, x1, x2, rfl, hT, rfl, e1, e2⟩ := y
  obtain ⟨y1, g1, h1⟩ := r.getV e1
  obtain ⟨y2, g2, h2⟩ := r2.getV e2
  have ez : (xs.zip ys)[i]? = some (y1, y2) := List.getElem?_zip_eq_some.mpr ⟨g1, g2⟩
  rw [List.getElem?_map, ez] at e
  cases e
  exact rep_pair hT fr (h1.keep (kpF cf kp bn)) (h2.keep (kpF cf kp bn))
theorem it_zipT {K : PySem.W.Frag} {C F : Addr → Prop} {H : Hp} {a b : Addr} {xs ys : List D} {vs ws : List V} (cf : ∀ a, C a → F a) (hp : (¬ (if q then F a else C a) ∧ H a = some (.tup vs)) ∨ WT K a vs) (r : RepL K H F xs vs)
    (hp2 : (¬ (if q then F b else C b) ∧ H b = some (.tup ws)) ∨ WT K b ws) (r2 : RepL K H F ys ws) : ItD K q C F H (RZ.ItzT K a b) ((xs.zip ys).map fun p => .tup [p.1, p.2]) := by
  have w := walk_zipT (K := K) (a := a) (b := b) (xs := vs) (ys := ws) (n := ((xs.zip ys).map fun p => D.tup [p.1, p.2]).length) (by simp [r.len, r2.len])
  refine ⟨_, _, w, fun F' H' kp bn => ⟨⟨?_, ?_⟩, fun i x H2 d y fr e => ?_⟩⟩
  · rcases hp with ⟨hc, hp⟩ | hp
    · exact SqT.of (kp a _ hp hc)
    · exact .inr hp
  · rcases hp2 with ⟨hc, hp⟩ | hp
    · exact SqT.of (kp b _ hp hc)
    · exact .inr hp
  obtain ⟨T, x1, x2, rfl, hT, rfl, e1, e2⟩ := y
  obtain ⟨y1, g1, h1⟩ := r.getV e1
  obtain ⟨y2, g2, h2⟩ := r2.getV e2
  have ez : (xs.zip ys)[i]? = some (y1, y2) := List.getElem?_zip_eq_some.mpr ⟨g1, g2⟩
  rw [List.getElem?_map, ez] at e
  cases e
  exact rep_pair hT fr (h1.keep (kpF cf kp bn)) (h2.keep (kpF cf kp bn))
theorem RepQ.notB {K : PySem.W.Frag} {fr : Frm} {ow : Ow} {H : Hp} {xs : List D} {v : V} (h : RepQ K fr ow q H (.lst xs) v) : ∃ p vs, v = .ref p ∧ ¬ (if q then fr.F ow p else fr.C p) ∧ H p = some (.lst vs) ∧ RepL K H (fr.F ow) xs vs := by
  cases q with
  | true =>
    obtain ⟨p, vs, h0, h1, ⟨h2, h3⟩, h4⟩ := h.cl
    exact ⟨p, vs, h0, h2, h3, h4⟩
  | false =>
    obtain ⟨p, vs, h0, h1, h2, h3, h4⟩ := h.lst
    exact ⟨p, vs, h0, h1, h3, h4⟩
theorem RepQ.notT {K : PySem.W.Frag} {fr : Frm} {ow : Ow} {H : Hp} {xs : List D} {v : V} (h : RepQ K fr ow q H (.tup xs) v) : ∃ p vs, v = .ref p ∧ ¬ (if q then fr.F ow p else fr.C p) ∧ H p = some (.tup vs) ∧ RepL K H (fr.F ow) xs vs := by
  obtain ⟨p, vs, h0, h1, h2, h3, h4⟩ := h.tup
  obtain ⟨p', vs', g0, g1, ⟨g2, g3⟩, g4⟩ := h4
  rw [h0] at g0
  cases g0
  refine ⟨p, vs, h0, ?_, h2, h3⟩
  cases q with
  | true => exact g2
  | false => exact fun z => g2 (.inl z)
theorem cfOf {fr : Frm} {ow : Ow} : ∀ a, fr.C a → fr.F ow a := fun a z => .inl z
/-- a list, a tuple, a text -/
theorem dit_seq {f : M D} (h : DE X E q e t f) : DIt X E q tg e (iSeq X.K t) (mSeq f) := by
  refine ⟨pi_seq h.pe, fun fr ow s σ H Q r R0 e0 P => ?_⟩
  refine Pst.bind (t := t) h.td R0 e0 P fun d ar v H1 R1 k1 r1 e1 P1 => ?_
  obtain ⟨xs, e2, rfl⟩ := liftM_some e1
  have r1 : RepQ X.K fr ow q H1 d v := r1
  cases d with
  | lst ys =>
    cases e2
    obtain ⟨p, vs, rfl, hc, hp, hr⟩ := r1.notB
    exact .inl ⟨p, rfl, ⟨vs, SqL.of hp⟩, P1 _ H1 R1 Keep.refl (it_list cfOf hc hp hr)⟩
  | tup ys =>
    cases e2
    obtain ⟨p, vs, rfl, hc, hp, hr⟩ := r1.notT
    exact .inr (.inl ⟨p, rfl, ⟨vs, SqT.of hp⟩, P1 _ H1 R1 Keep.refl (it_tup cfOf (.inl ⟨hc, hp⟩) hr)⟩)
  | wt ys =>
    cases e2
    obtain ⟨p, vs, rfl, _, hp, hr, _⟩ := r1.wt
    exact .inr (.inl ⟨p, rfl, ⟨vs, .inr hp⟩, P1 _ H1 R1 Keep.refl (it_tup cfOf (.inr hp) hr)⟩)
  | str z =>
    cases e2
    exact .inr (.inr ⟨z, r1.str, P1 _ H1 R1 Keep.refl it_str⟩)
  | _ => cases e2
def rg1 : List D → Option (List D)
  | [.int n] => if (decide (-(2 ^ 62) ≤ n) && decide (n < 2 ^ 62)) = true then some ((List.range n.toNat).map fun i : Nat => .int ((0 : Int) + i)) else none
  | _ => none
def rg2 : List D → Option (List D)
  | [.int m, .int n] => if (decide (-(2 ^ 62) ≤ m) && decide (m < 2 ^ 62) && (decide (-(2 ^ 62) ≤ n) && decide (n < 2 ^ 62))) = true then some ((List.range (n - m).toNat).map fun i : Nat => .int (m + i)) else none
  | _ => none
def mRg (g : List D → Option (List D)) (f : M (List D)) : M (List D) := bindM f fun d => liftM (g d)
theorem dit_range1 {f : M (List D)} (hg : Gl X "range") (hm : X.mg "range" = none) (ha : DA X E true [a] t f) (hs : starEach [a] X.env = [(false, eval a X.env)] := by rfl) : DIt X E q tg (.Call (.Name "range" p) [a] [] pos) (iRng1 t) (mRg rg1 f) := by
  refine ⟨pi_range1 hg hm ha.pe hs, fun fr ow s σ H Q r R0 e0 P => ?_⟩
  refine Pst.bind (t := t) ha.td R0 e0 P fun d ar v H1 R1 k1 r1 e1 P1 => ?_
  obtain ⟨xs, e2, rfl⟩ := liftM_some e1
  unfold rg1 at e2
  split at e2
  · split at e2
    · rename_i n hn
      cases e2
      simp only [Bool.and_eq_true, decide_eq_true_eq] at hn
      obtain ⟨w, rfl, rw'⟩ := RepQL.one r1
      rw [rw'.int]
      exact ⟨n, rfl, hn.1, hn.2, P1 _ H1 R1 Keep.refl it_range⟩
    · cases e2
  · cases e2
theorem dit_range2 {f : M (List D)} (hg : Gl X "range") (hm : X.mg "range" = none) (ha : DA X E true [a, b] t f) (hs : starEach [a, b] X.env = [(false, eval a X.env), (false, eval b X.env)] := by rfl) (hs2 : starEach [b] X.env = [(false, eval b X.env)] := by rfl) :
    DIt X E q tg (.Call (.Name "range" p) [a, b] [] pos) (iRng2 t) (mRg rg2 f) := by
  refine ⟨pi_range2 hg hm ha.pe hs hs2, fun fr ow s σ H Q r R0 e0 P => ?_⟩
  refine Pst.bind (t := t) ha.td R0 e0 P fun d ar v H1 R1 k1 r1 e1 P1 => ?_
  obtain ⟨xs, e2, rfl⟩ := liftM_some e1
  unfold rg2 at e2
  split at e2
  · split at e2
    · rename_i m n hn
      cases e2
      simp only [Bool.and_eq_true, decide_eq_true_eq] at hn
      obtain ⟨w, w', rfl, rw1, rw2⟩ := RepQL.two r1
      rw [rw1.int, rw2.int]
      exact ⟨m, n, rfl, ⟨hn.1.1, hn.1.2, hn.2.1, hn.2.2⟩, P1 _ H1 R1 Keep.refl it_range⟩
    · cases e2
  · cases e2
def enD : List D → Option (List D)
  | [.lst xs] => some (enumD 0 xs)
  | [.tup xs] => some (enumD 0 xs)
  | [.wt xs] => some (enumD 0 xs)
  | _ => none
theorem dit_enum {f : M (List D)} {elts : List Expr} {kk : Nat} {tpos : Pos} (hg : Gl X "enumerate") (hm : X.mg "enumerate" = none) (ha : DA X E q [a] t f) (hs : starEach [a] X.env = [(false, eval a X.env)] := by rfl) : DIt X E q (.Tuple elts kk tpos) (.Call (.Name "enumerate" p) [a] [] pos) (iEnumA X.K t) (mRg enD f) := by
  refine ⟨pi_enumA hg hm ha.pe hs, fun fr ow s σ H Q r R0 e0 P => ?_⟩
  refine Pst.bind (t := t) ha.td R0 e0 P fun d ar v H1 R1 k1 r1 e1 P1 => ?_
  obtain ⟨xs, e2, rfl⟩ := liftM_some e1
  unfold enD at e2
  split at e2
  · cases e2
    obtain ⟨w, rfl, r2⟩ := RepQL.one r1
    obtain ⟨p, vs, rfl, hc, hp, hr⟩ := r2.notB
    exact ⟨p, vs, rfl, .inl ⟨SqL.of hp, P1 _ H1 R1 Keep.refl (it_enumL cfOf hc hp hr)⟩⟩
  · cases e2
    obtain ⟨w, rfl, r2⟩ := RepQL.one r1
    obtain ⟨p, vs, rfl, hc, hp, hr⟩ := r2.notT
    exact ⟨p, vs, rfl, .inr ⟨SqT.of hp, P1 _ H1 R1 Keep.refl (it_enumT cfOf (.inl ⟨hc, hp⟩) hr)⟩⟩
  · cases e2
    obtain ⟨w, rfl, r2⟩ := RepQL.one r1
    obtain ⟨p, vs, rfl, _, hp, hr, _⟩ := r2.wt
    exact ⟨p, vs, rfl, .inr ⟨.inr hp, P1 _ H1 R1 Keep.refl (it_enumT cfOf (.inr hp) hr)⟩⟩
  · cases e2
def zpD : List D → Option (List D)
  | [.lst xs, .lst ys] => some ((xs.zip ys).map fun p => .tup [p.1, p.2])
  | [.tup xs, .tup ys] => some ((xs.zip ys).map fun p => .tup [p.1, p.2])
  | _ => none
theorem dit_zip {f : M (List D)} {elts : List Expr} {kk : Nat} {tpos : Pos} (hg : Gl X "zip") (hm : X.mg "zip" = none) (ha : DA X E q [a, b] t f)
    (hs : starEach [a, b] X.env = (false, eval a X.env) :: starEach [b] X.env := by rfl) (hpl : (backTo pos (starEach [b] X.env)).any (·.1) = false := by rfl) : DIt X E q (.Tuple elts kk tpos) (.Call (.Name "zip" p) [a, b] [] pos) (RZ.iZipA X.K t) (mRg zpD f) := by
  refine ⟨RZ.pi_zipA hg hm ha.pe hs hpl, fun fr ow s σ H Q r R0 e0 P => ?_⟩
  refine Pst.bind (t := t) ha.td R0 e0 P fun d ar v H1 R1 k1 r1 e1 P1 => ?_
  obtain ⟨xs, e2, rfl⟩ := liftM_some e1
  unfold zpD at e2
  split at e2
  · cases e2
    obtain ⟨w, w', rfl, r2, r3⟩ := RepQL.two r1
    obtain ⟨p, vs, rfl, hc, hp, hr⟩ := r2.notB
    obtain ⟨p', vs', rfl, hc', hp', hr'⟩ := r3.notB
    exact ⟨p, p', vs, vs', rfl, .inl ⟨SqL.of hp, SqL.of hp', P1 _ H1 R1 Keep.refl (it_zipL cfOf hc hp hr hc' hp' hr')⟩⟩
  · cases e2
    obtain ⟨w, w', rfl, r2, r3⟩ := RepQL.two r1
    obtain ⟨p, vs, rfl, hc, hp, hr⟩ := r2.notT
    obtain ⟨p', vs', rfl, hc', hp', hr'⟩ := r3.notT
    exact ⟨p, p', vs, vs', rfl, .inr ⟨SqT.of hp, SqT.of hp', P1 _ H1 R1 Keep.refl (it_zipT cfOf (.inl ⟨hc, hp⟩) hr (.inl ⟨hc', hp'⟩) hr')⟩⟩
  · cases e2
end
end DL
set_option Elab.async false
set_option linter.all false
set_option maxRecDepth 100000
/-! DN: list comprehensions -/
namespace DL
open PySem L2 DLk
def wipeS : List Nat → S → Option S
  | [], s => some s
  | i :: is, s => (wipeS is s).bind fun s => match s.sl[i]? with
    | some (.ol _) => none
    | some (.od _ _) => none
    | _ => some { s with sl := s.sl.set i .no }
theorem wipeS_ar : ∀ {vs : List Nat} {s s' : S} (ar : Ar), wipeS vs s = some s' → wipeS vs (s.wa ar) = some (s'.wa ar)
  | [], s, s', ar, h => by cases h; rfl
  | i :: is, s, s', ar, h => by
    have h : (wipeS is s).bind _ = some s' := h
    cases z : wipeS is s with
    | none => rw [z] at h; cases h
    | some s1 =>
      rw [z] at h
      show (wipeS is (s.wa ar)).bind _ = _
      rw [wipeS_ar ar z]
      dsimp only [Option.bind_some] at h ⊢
      split at h
      · cases h
      · cases h
      · rename_i h1 h2
        cases h
        first
          | rfl
          | (split
             · rename_i y hy
               exact absurd hy (h1 y)
             · rename_i y w hy
               exact absurd hy (h2 y w)
             · rfl)
theorem wipeS_arEq : ∀ {vs : List Nat} {s s' : S}, wipeS vs s = some s' → s'.ar = s.ar
  | [], s, s', h => by cases h; rfl
  | i :: is, s, s', h => by
    have h : (wipeS is s).bind _ = some s' := h
    cases z : wipeS is s with
    | none => rw [z] at h; cases h
    | some s1 =>
      rw [z] at h
      dsimp only [Option.bind_some] at h
      split at h
      · cases h
      · cases h
      · cases h; exact wipeS_arEq (vs := is) (s' := s1) z
section
variable {K : PySem.W.Frag} {fr : Frm} {ow ow' : Ow} {s s' : S} {σ σ' : L2.St} {H H' : Hp}
theorem ow_none {i : Nat} (h : (ow[i]?).join = none) : ow.set i none = ow := by
  apply List.ext_getElem?
  intro j
  by_cases e : i = j
  · subst e
    by_cases hl : i < ow.length
    · rw [List.getElem?_set_self hl]
      have e2 : ow[i]? = some ow[i] := List.getElem?_eq_getElem hl
      rw [e2] at h ⊢
      have : ow[i] = none := h
      rw [this]
    · rw [List.getElem?_eq_none (by simpa using hl), List.getElem?_eq_none (by simpa using hl)]
  · rw [List.getElem?_set_ne e]
theorem Rl.wipe1 (R : Rl K fr ow s σ H) {i : Nat} (hn : (ow[i]?).join = none) : Rl K fr ow { s with sl := s.sl.set i .no } (σ.set i none) H := by
  have := R.slots (ow' := ow.set i none) (i := i) (x := .no) (w := none) (fun a z => F_set z) rfl rfl
  rwa [ow_none hn] at this
theorem Rl.wipe : ∀ {vs : List Nat} {s s' : S}, Rl K fr ow s σ H → wipeS vs s = some s' → Rl K fr ow s' (L2.wipe σ vs) H ∧ ∀ j ∈ vs, (ow[j]?).join = none
  | [], s, s', R, h => by cases h; exact ⟨R, fun j hj => nomatch hj⟩
  | i :: is, s, s', R, h => by
    have h : (wipeS is s).bind _ = some s' := h
    cases z : wipeS is s with
    | none => rw [z] at h; cases h
    | some s1 =>
      rw [z] at h
      obtain ⟨R1, hn⟩ := Rl.wipe R z
      have hi : (ow[i]?).join = none ∧ s' = { s1 with sl := s1.sl.set i .no } := by
        dsimp only [Option.bind_some] at h
        split at h
        · cases h
        · cases h
        · rename_i h1 h2
          cases h
          refine ⟨?_, rfl⟩
          cases y : s1.sl[i]? with
          | none =>
            have hl : ow.length ≤ i := by rw [R1.lo]; exact List.getElem?_eq_none_iff.mp y
            rw [List.getElem?_eq_none hl]; rfl
          | some x =>
            have so := R1.slot i x y
            cases x with
            | no => exact so
            | va d => exact so.1
            | ol xs => exact absurd y (h1 xs)
            | od ks xs => exact absurd y (h2 ks xs)
      obtain ⟨hi, rfl⟩ := hi
      exact ⟨R1.wipe1 hi, fun j hj => (List.mem_cons.mp hj).elim (fun e => by rw [e]; exact hi) (hn j)⟩
theorem wipe_get {σ : L2.St} {j : Nat} : ∀ {vs : List Nat}, (L2.wipe σ vs)[j]? = if j ∈ vs then (if j < σ.length then some none else none) else σ[j]?
  | [] => by simp [L2.wipe]
  | v :: vs => by
    unfold L2.wipe
    by_cases e : v = j
    · subst e
      rw [if_pos List.mem_cons_self]
      by_cases hl : v < σ.length
      · rw [if_pos hl, List.getElem?_set_self (by rw [wipe_length]; exact hl)]
      · rw [if_neg hl, List.getElem?_eq_none (by rw [List.length_set, wipe_length]; omega)]
    · rw [List.getElem?_set_ne e, wipe_get]
      have : (j ∈ v :: vs) = (j ∈ vs) := by
        simp only [List.mem_cons]
        exact propext ⟨fun h => h.elim (fun z => absurd z.symm e) id, .inr⟩
      simp only [this]
theorem Sto.wipe {ix vs : List Nat} (h : Sto ix (L2.wipe σ vs) σ' ow ow') (hi : ∀ j ∈ ix, j ∈ vs) : L2.wipe σ' vs = L2.wipe σ vs := by
  have hl : σ'.length = σ.length := by rw [h.ls, wipe_length]
  apply List.ext_getElem?
  intro j
  rw [wipe_get, wipe_get, hl]
  by_cases e : j ∈ vs
  · rw [if_pos e, if_pos e]
  · rw [if_neg e, if_neg e, h.σo j fun z => e (hi j z), wipe_get, if_neg e]
theorem Sto.same {ix : List Nat} (h : Sto ix σ σ' ow ow') (hn : ∀ j ∈ ix, (ow[j]?).join = none) : ow' = ow := by
  apply List.ext_getElem?
  intro j
  by_cases e : j ∈ ix
  · have h1 := h.on j e
    have h2 := hn j e
    by_cases hl : j < ow.length
    · have a : ow[j]? = some ow[j] := List.getElem?_eq_getElem hl
      have hl' : j < ow'.length := by rw [h.lo]; exact hl
      have b : ow'[j]? = some ow'[j] := List.getElem?_eq_getElem hl'
      rw [a] at h2; rw [b] at h1
      have h1 : ow'[j] = none := h1
      have h2 : ow[j] = none := h2
      rw [a, b, h1, h2]
    · rw [List.getElem?_eq_none (by rw [h.lo]; omega), List.getElem?_eq_none (by omega)]
  · exact h.oo j e
theorem Rl.move (R : Rl K fr ow s σ H) (k : Keep fr.ars H H') {s2 : S} {σ2 : L2.St} (R2 : Rl K fr ow s2 σ2 H') : Rl K fr ow (s.wa s2.ar) σ H' := R.after k R2.ara R2.ar
/-- an object under the ban is changed -/
theorem Rl.updB (R : Rl K fr ow s σ H) {p : Addr} {o : HO} (hp : fr.ban p) (h0 : fr.H0 p = none) (ha : p ∉ fr.ars) : Rl K fr ow s σ (upd H p o) := by
  have kk : ∀ a u, ¬ fr.F ow a → H a = some u → upd H p o a = some u ∧ ¬ fr.F ow a := fun a u na e => ⟨by
    rw [upd_ne fun z => na (by rw [z]; exact .inl (.inl hp))]
    exact e, na⟩
  refine ⟨R.ls, R.lo, fun i x h => (R.slot i x h).keep kk fun q u hq hu => ?_, R.inj, R.owf, fun a z w => ?_, fun a u h na => ?_, R.ara, fun q hq => (R.ar q hq).keep kk fun u hu => ?_, R.nd, fun a z w => ?_⟩
  · have hm : some q ∈ ow := by
      cases y : ow[i]? with
      | none => rw [y] at hq; cases hq
      | some u => rw [y] at hq; exact List.mem_of_getElem? (y.trans (congrArg some hq))
    rw [upd_ne fun z => (R.owf q hm).2 (by rw [z]; exact .inl hp)]
    exact hu
  · by_cases e : a = p
    · rw [e, upd_same] at w; cases w
    · rw [upd_ne e] at w; exact R.ban a z w
  · rw [upd_ne fun z => by rw [z, h0] at h; cases h]
    exact R.same a u h na
  · have hm : q.1 ∈ fr.ars := by rw [← R.ara]; exact List.mem_map_of_mem hq
    rw [upd_ne fun z => ha (by rw [← z]; exact hm)]
    exact hu
  · by_cases e : a = p
    · rw [e, upd_same] at w; cases w
    · rw [upd_ne e] at w; exact R.trk a z w
theorem RepL.updB {B : Addr → Prop} {p : Addr} {o : HO} {xs : List D} {vs : List V} (h : RepL K H B xs vs) (hp : B p) : RepL K (upd H p o) B xs vs :=
  h.keep fun a u na e => ⟨by rw [upd_ne fun z => na (by rw [z]; exact hp)]; exact e, na⟩
end

/-- the tests of a comprehension -/
structure DTs (X : Cx) (E : XK) (ifs : List Expr) (t : TT) (f : M Bool) : Prop where
  pe : PTs X ifs t
  td : TDg X.K rB E t f
def fYes : M Bool := retM true
def lcF (set : D → S → Option S) (ft : M Bool) (fe : M D) (s0 : S) : List D → List D → Ar → Option (List D × Ar)
  | [], acc, ar => some (acc, ar)
  | x :: xs, acc, ar => (set x (s0.wa ar)).bind fun s1 => match ft s1 with
    | some (.ok true ar1) => match fe (s1.wa ar1) with
      | some (.ok d ar2) => lcF set ft fe s0 xs (acc ++ [d]) ar2
      | _ => none
    | some (.ok false ar1) => lcF set ft fe s0 xs acc ar1
    | _ => none
def mLc (vs : List Nat) (T : Tg) (fi : M (List D)) (ft : M Bool) (fe : M D) : M (List D) := bindM fi fun xs s => if xs.length ≤ LIM then (wipeS vs s).bind fun s0 => (lcF (setT T) ft fe s0 xs [] s.ar).map fun p => .ok p.1 p.2 else none
abbrev XF : XK := fun _ _ _ => False
section
variable {X : Cx} {E : XK} {q : Bool} {tg iter elt c : Expr} {ifs : List Expr} {pos : Pos}
theorem dts_nil : DTs X E [] tYes fYes := ⟨pts_nil, fun fr ow s σ H Q r R e P => by
  cases e
  exact P true H R Keep.refl rfl⟩
theorem dts_one {f : M Bool} (h : DT X E c t f) : DTs X E [c] t f := ⟨pts_one h.pe, h.td⟩
theorem putAll_ar : ∀ {is : List Nat} {ds : List D} {s s' : S}, putAll is ds s = some s' → s'.ar = s.ar := by
  intro is
  induction is with
  | nil =>
    intro ds s s' h
    cases ds with
    | nil => cases h; rfl
    | cons => cases h
  | cons i is ih =>
    intro ds s s' h
    cases ds with
    | nil => cases h
    | cons d ds =>
      have h : (s.put i d).bind (putAll is ds) = some s' := h
      cases z : s.put i d with
      | none => rw [z] at h; cases h
      | some s1 =>
        rw [z] at h
        have e2 := ih (ds := ds) (s := s1) (s' := s') h
        obtain ⟨_, e3⟩ := put_some z
        rw [e2, e3]
theorem setT_ar : ∀ {T : Tg} {d : D} {s s' : S}, setT T d s = some s' → s'.ar = s.ar
  | .nm i, d, s, s', h => by obtain ⟨_, rfl⟩ := put_some h; rfl
  | .tp is, d, s, s', h => by
    cases d with
    | tup ds => exact putAll_ar (s := s) h
    | wt ds => exact putAll_ar (s := s) h
    | _ => cases h
  | .ls is, d, s, s', h => by
    cases d with
    | lst ds => exact putAll_ar (s := s) h
    | _ => cases h
theorem df_lc {scope : Scope} {own : List (Str × Nat)} {w : TI} {g : TG} {tt : TT} {te : TE} {T : Tg} {fi : M (List D)} {ft : M Bool} {fe : M D} (hc : X.calm = true) (hN : X.N.Nodup) (hi : DIt X E q tg iter w fi) (ok : BlkOk X.N X.env.scope scope own)
    (hg : ∀ (s : Shared) (H : Hp) (C : Addr) (cl : List (Str × Addr)) (fp : List Addr), DG (X.blk s H scope (compEnvC scope cl C X.env) fp) tg g T)
    (ht : ∀ (s : Shared) (H : Hp) (C : Addr) (cl : List (Str × Addr)) (fp : List Addr), DTs (X.blk s H scope (compEnvC scope cl C X.env) fp) XF ifs tt ft)
    (he : ∀ (s : Shared) (H : Hp) (C : Addr) (cl : List (Str × Addr)) (fp : List Addr), DE (X.blk s H scope (compEnvC scope cl C X.env) fp) XF true elt te fe)
    (hix : (T.ix.all fun j => (own.map (·.2)).contains j) = true := by decide) (hs : ∀ x, foldedSetIterable iter X.env x = pure x := by intro _; rfl) :
    DF X E (.ListComp elt [⟨tg, iter, ifs, 0⟩] scope pos) (tLc w g tt te (own.map (·.2))) (mLc (own.map (·.2)) T fi ft fe) := by
  refine ⟨pe_lc hc hN hi.pe ok (fun s H C cl fp => (hg s H C cl fp).pe) (fun s H C cl fp => (ht s H C cl fp).pe) (fun s H C cl fp => (he s H C cl fp).pe) hs, ?_⟩
  have hix' : ∀ j ∈ T.ix, j ∈ own.map (·.2) := fun j hj => by
    have := List.all_eq_true.mp hix j hj
    simpa using this
  generalize hvs : own.map (·.2) = vs at *
  intro fr ow s σ H Q r R0 e0 P
  refine Pst.bind (t := w) hi.td R0 e0 P fun xs ar J H1 R1 k1 r1 e1 P1 => ?_
  by_cases hlim : ¬ xs.length ≤ LIM
  · rw [if_neg hlim] at e1; cases e1
  replace hlim := Decidable.not_not.mp hlim
  rw [if_pos hlim] at e1
  intro Dn hD
  cases hw : wipeS vs (s.wa ar) with
  | none => rw [hw] at e1; cases e1
  | some s0 =>
    rw [hw] at e1
    dsimp only [Option.bind_some] at e1
    cases hlc : lcF (setT T) ft fe s0 xs [] (s.wa ar).ar with
    | none => rw [hlc] at e1; cases e1
    | some pr =>
      obtain ⟨accF, arF⟩ := pr
      rw [hlc] at e1
      cases e1
      obtain ⟨G, Y, wk, cl⟩ := r1
      have hnF : ¬ fr.F ow Dn := R1.fresh hD
      have h00 : fr.H0 Dn = none := R1.fresh0 hD
      have hna : Dn ∉ (fr.plus Dn).ars := fun z => hnF (.inl (.inr z))
      have hban : (fr.plus Dn).ban Dn := .inr rfl
      have clo : ∀ {H' : Hp}, Keep fr.ars H1 H' → G H' ∧ ∀ i x H2 d, Y i H' x H2 → (∀ p, H' p = none → ¬ (fr.plus Dn).F ow p) → xs[i]? = some d → Ext H' H2 ∧ Rep X.K H2 ((fr.plus Dn).F ow) d x := fun {H'} kp =>
        cl ((fr.plus Dn).F ow) H' (fun a o h n => kp a o h fun z => n (by
          cases q with
          | true => exact .inl (.inr z)
          | false => exact .inr z)) fun a h z => by
            rcases Frm.plusF.mp z with z | z
            · exact z
            · rw [z] at h; exact absurd hD h
      refine lc_it wk (fun i Hh => ∃ acc ari vsa, lcF (setT T) ft fe s0 (xs.drop i) acc ari = some (accF, arF) ∧ Rl X.K (fr.plus Dn) ow ((s.wa ar).wa ari) σ Hh ∧ Hh Dn = some (.lst vsa) ∧ RepL X.K Hh ((fr.plus Dn).F ow) acc vsa ∧ acc.length ≤ i ∧ Keep fr.ars H1 Hh) ?_ ?_ ?_ ?_
      · exact ⟨[], _, [], hlc, R1.plus hD, upd_same, rfl, Nat.le_refl _, Keep.ext (Ext.upd hD)⟩
      · rintro i Hh _ ⟨acc, ari, vsa, _, _, _, _, _, kp⟩
        exact (clo kp).1
      · rintro i x Hh H' hi ⟨acc, ari, vsa, hl, Ri, hDi, hra, hlen, kp⟩ hy
        have hxi : xs[i]? = some xs[i] := List.getElem?_eq_getElem hi
        obtain ⟨ex, rx⟩ := (clo kp).2 i x H' xs[i] hy (fun p hp => Ri.fresh hp) hxi
        have Ri' := Ri.ext ex
        have hdr : xs.drop i = xs[i] :: xs.drop (i + 1) := (List.drop_eq_getElem_cons hi)
        rw [hdr] at hl
        have hl : (setT T xs[i] (s0.wa ari)).bind _ = some (accF, arF) := hl
        cases hset : setT T xs[i] (s0.wa ari) with
        | none => rw [hset] at hl; cases hl
        | some s2 =>
          rw [hset] at hl
          dsimp only [Option.bind_some] at hl
          obtain ⟨Rw, hown⟩ := Rl.wipe Ri' (wipeS_ar ari hw)
          refine (hg ({} : Shared) H' 0 [] []).td (fr.plus Dn) ow (s0.wa ari) (L2.wipe σ vs) H' xs[i] x _ s2 Rw rx hset fun σ2 ow2 R2 st2 ea2 => ⟨st2.wipe hix', ?_⟩
          obtain rfl : ow2 = ow := st2.same fun j hj => hown j (hix' j hj)
          cases hft : ft s2 with
          | none => rw [hft] at hl; cases hl
          | some rt =>
            rw [hft] at hl
            cases rt with
            | er C ns ys ar' => cases hl
            | ok b ar1 =>
              refine (ht ({} : Shared) H' 0 [] []).td (fr.plus Dn) ow2 s2 σ2 H' _ _ R2 hft fun b' H3 R3 k3 eb => ?_
              obtain rfl : b = b' := eb
              have kp3 : Keep fr.ars Hh H3 := (Keep.ext ex).trans k3
              cases b with
              | false =>
                rw [if_neg Bool.false_ne_true]
                have hl : lcF (setT T) ft fe s0 (xs.drop (i + 1)) acc ar1 = some (accF, arF) := hl
                exact ⟨acc, ar1, vsa, hl, Ri.move kp3 R3, kp3 Dn _ hDi hna, hra.kp (fr := fr.plus Dn) kp3, Nat.le_succ_of_le hlen, kp.trans kp3⟩
              | true =>
                rw [if_pos rfl]
                dsimp only at hl
                cases hfe : fe (s2.wa ar1) with
                | none => rw [hfe] at hl; cases hl
                | some re =>
                  rw [hfe] at hl
                  cases re with
                  | er C ns ys ar' => cases hl
                  | ok d ar2 =>
                    have hl : lcF (setT T) ft fe s0 (xs.drop (i + 1)) (acc ++ [d]) ar2 = some (accF, arF) := hl
                    refine (he ({} : Shared) H' 0 [] []).td (fr.plus Dn) ow2 (s2.wa ar1) σ2 H3 _ _ R3 hfe fun y H4 R4 k4 ry => ?_
                    have kp4 : Keep fr.ars Hh H4 := kp3.trans k4
                    have hD4 : H4 Dn = some (.lst vsa) := kp4 Dn _ hDi hna
                    have hF : (fr.plus Dn).F ow2 Dn := .inl (.inl hban)
                    have rl4 := (hra.kp (fr := fr.plus Dn) kp4).app (RepL.cons ry.cl RepL.nil)
                    refine ⟨vsa, hD4, ?_, acc ++ [d], ar2, vsa ++ [y], hl, (Ri.move kp4 R4).updB hban h00 hna, upd_same, rl4.updB hF, by rw [List.length_append]; simpa using hlen, fun a o h n => ?_⟩
                    · have := hra.len
                      have h9 := lim_line hlim
                      omega
                    · rw [upd_ne fun z => by rw [z, hD] at h; cases h]
                      exact kp4 a o (kp a o h n) n
      · rintro Hh ⟨acc, ari, vsa, hl, Ri, hDi, hra, hlen, kp⟩
        rw [List.drop_length] at hl
        cases hl
        refine P1 (.ref Dn) Hh Ri.less kp ⟨Dn, vsa, rfl, hnF, h00, hDi, Nat.le_trans hlen (lim_line hlim), hra.weak (fun a z => Frm.plusF.mpr z), Ri, fun z => R1.trk Dn z hD⟩
end
end DL
set_option Elab.async false
set_option linter.all false
set_option maxRecDepth 100000
/-! DO: statements -/
namespace DL
open PySem L2 DLk
section
variable {K : PySem.W.Frag} {fr : Frm} {ow ow1 ow2 : Ow} {s s1 s2 : S} {σ σ1 σ2 : L2.St} {H H1 H2 : Hp}
theorem Grow.trans {H H1 H2 : Hp} (a : Grow H H1) (b : Grow H1 H2) : Grow H H2 := fun x h => b x (a x h)
theorem Af.trans (a : Af K fr ow H s1 ow1 σ1 H1) (b : Af K fr ow1 H1 s2 ow2 σ2 H2) : Af K fr ow H s2 ow2 σ2 H2 := ⟨b.rl, a.st.trans b.st a.gr, a.gr.trans b.gr⟩
theorem Keep.grow (k : Keep fr.ars H H1) (R : Rl K fr ow s σ H1) : Grow H H1 := fun a h => by
  by_cases m : a ∈ fr.ars
  · exact R.ban a (.inr m)
  · cases z : H a with
    | none => exact absurd z h
    | some o => rw [k a o z m]; simp
theorem Af.ofK (R : Rl K fr ow s σ H1) (k : Keep fr.ars H H1) : Af K fr ow H s ow σ H1 :=
  ⟨R, ⟨fun a o h n => k a o h fun z => n (.inl (.inr z)), fun a _ z => z⟩, k.grow R⟩
theorem Af.refl (R : Rl K fr ow s σ H) : Af K fr ow H s ow σ H := Af.ofK R Keep.refl
theorem POut.step {Dn : Ends} {E : XK} {o : Out} (a : Af K fr ow H s1 ow1 σ1 H1) (h : POut K fr ow H Dn E o) : POut K fr ow1 H1 Dn E o := by
  cases o with
  | nx s' => exact fun ow' σ' H' b => h ow' σ' H' (a.trans b)
  | bk s' => exact fun ow' σ' H' b => h ow' σ' H' (a.trans b)
  | ct s' => exact fun ow' σ' H' b => h ow' σ' H' (a.trans b)
  | rt d ar => exact fun v H' b g => h v H' b (a.gr.trans g)
  | er C ns xs ar => exact fun dx fs H' b g => h dx fs H' b (a.gr.trans g)
theorem Rl.ret (R : Rl K fr ow s σ H) : Ret K fr s.ar H := ⟨R.same, R.ban, R.ara, fun p hp => (R.ar p hp).keep (fun a o n q => ⟨q, fun z => n (.inl z)⟩) fun o q => q⟩
/-- an error out of an expression -/
theorem er_out {E : XK} {C : Addr} {ns : List Str} {xs : List D} {ar : Ar} {Dn : Ends} {α β : Type} {rel : Rel α β} {Q : β → Hp → Prop} (h : POut K fr ow H Dn E (.er C ns xs ar)) : Pst K fr ow s σ H rel Q E (R.er C ns xs ar : R α) :=
  fun dx fs H' R k hd hn hr => h dx fs H' R.ret (k.grow R) hd hn (hr.weak fun a z => .inl z)
end

/-! ### blocks -/
def gNil : G := fun s => some (.nx s)
def gSeq (g1 g2 : G) : G := fun s => match g1 s with
  | some (.nx s') => g2 s'
  | o => o
/-- an expression, then a state -/
def gBind {α : Type} (f : M α) (k : α → S → Option Out) : G := fun s => match f s with
  | some (.ok a ar) => k a (s.wa ar)
  | some (.er C ns xs ar) => some (.er C ns xs ar)
  | none => none
section
variable {X : Cx} {E : XK} {q : Bool} {st : Stmt} {rest : List Stmt} {e a b c tg iter : Expr} {es : List Expr} {pos p p1 apos cpos : Pos}
theorem tb_bind {K : PySem.W.Frag} {fr : Frm} {ow : Ow} {s : S} {σ : L2.St} {H : Hp} {α β : Type} {rel : Rel α β} {t : L2.St → Hp → (β → Hp → Prop) → Prop} {f : M α} {k : α → S → Option Out} {Dn : Ends} {o : Out} {Q : β → Hp → Prop} (h : TDg K rel E t f) (R : Rl K fr ow s σ H) (e : gBind f k s = some o) (P : POut K fr ow H Dn E o)
    (hk : ∀ x ar v H1, Rl K fr ow (s.wa ar) σ H1 → Keep fr.ars H H1 → rel fr ow (s.wa ar) σ H1 x v → k x (s.wa ar) = some o → POut K fr ow H1 Dn E o → Q v H1) : t σ H Q := by
  unfold gBind at e
  cases z : f s with
  | none => rw [z] at e; cases e
  | some r =>
    rw [z] at e
    cases r with
    | er C ns xs ar =>
      obtain rfl : Out.er C ns xs ar = o := Option.some.inj e
      exact h fr ow s σ H Q _ R z (er_out P)
    | ok x ar => exact h fr ow s σ H Q _ R z fun v H1 R1 k1 r1 => hk x ar v H1 R1 k1 r1 e (P.step (Af.ofK R1 k1))
theorem dss_nil : DSs X E [] tNext gNil := ⟨pss_nil, fun fr ow s σ H Dn o R e P => by
  cases e
  exact P ow σ H (Af.refl R)⟩
theorem seq_td {K : PySem.W.Frag} {t u : TS} {g1 g2 : G} (h1 : TS1 K E t g1) (h2 : TS1 K E u g2) : TS1 K E (tSeq t u) (gSeq g1 g2) := by
  intro fr ow s σ H Dn o R e P
  unfold gSeq at e
  cases z : g1 s with
  | none => rw [z] at e; cases e
  | some o1 =>
    rw [z] at e
    refine h1 fr ow s σ H { Dn with nx := u Dn } o1 R z ?_
    cases o1 with
    | nx s' => exact fun ow' σ' H' af => h2 fr ow' s' σ' H' Dn o af.rl e (P.step af)
    | bk s' => cases e; exact P
    | ct s' => cases e; exact P
    | rt d ar => cases e; exact P
    | er C ns xs ar => cases e; exact P
theorem dss_cons {t u : TS} {g1 g2 : G} (h1 : DS X E st t g1) (h2 : DSs X E rest u g2) : DSs X E (st :: rest) (tSeq t u) (gSeq g1 g2) := ⟨pss_cons h1.pe h2.pe, seq_td h1.td h2.td⟩
theorem dss_one {t : TS} {g : G} (h : DS X E st t g) : DSs X E [st] t g := ⟨pss_one h.pe, h.td⟩
theorem ds_pass : DS X E (.Pass pos) tNext gNil := ⟨ps_pass, fun fr ow s σ H Dn o R e P => by
  cases e
  exact P ow σ H (Af.refl R)⟩
def gBk : G := fun s => some (.bk s)
def gCt : G := fun s => some (.ct s)
theorem ds_break : DS X E (.Break pos) tBreak gBk := ⟨ps_break, fun fr ow s σ H Dn o R e P => by
  cases e
  exact P ow σ H (Af.refl R)⟩
theorem ds_continue : DS X E (.Continue pos) tCont gCt := ⟨ps_continue, fun fr ow s σ H Dn o R e P => by
  cases e
  exact P ow σ H (Af.refl R)⟩
/-- what is never come to -/
def gNo : G := fun _ => none
theorem ds_never : DS X E st tNever gNo := ⟨ps_never, fun fr ow s σ H Dn o R e P => by cases e⟩

/-! ### stores -/
def kPut (T : Tg) : D → S → Option Out := fun d s => (setT T d s).map .nx
theorem asg_td {K : PySem.W.Frag} {te : TE} {g : TG} {T : Tg} {f : M D} (he : TDg K (rD K true) E te f)
    (hg : ∀ fr ow s σ H d v (Q : L2.St → Hp → Prop) s', Rl K fr ow s σ H → Rep K H (fr.F ow) d v → setT T d s = some s' → (∀ σ' ow', Rl K fr ow' s' σ' H → Sto T.ix σ σ' ow ow' → s'.ar = s.ar → Q σ' H) → g v σ H Q) : TS1 K E (tAsg te g) (gBind f (kPut T)) := by
  intro fr ow s σ H Dn o R e P
  refine tb_bind (t := te) he R e P fun d ar v H1 R1 k1 r1 e1 P1 => ?_
  unfold kPut at e1
  cases z : setT T d (s.wa ar) with
  | none => rw [z] at e1; cases e1
  | some s' =>
    rw [z] at e1
    cases e1
    exact hg fr ow _ σ H1 d v _ s' R1 r1.cl z fun σ' ow' R' st' _ => P1 ow' σ' H1 ⟨R', st'.stp, fun a h => h⟩
theorem ds_asg {te : TE} {g : TG} {T : Tg} {f : M D} (he : DE X E true e te f) (hg : DG X tg g T) (hs : swapsWithSole [tg] e pos.line X.env = pure false := by rfl) (hw : swappedStores [tg] e X.env = pure none := by rfl)
    (h1 : (assignEach [tg] X.env).map (·.2) = [assign tg X.env] := by rfl) : DS X E (.Assign [tg] e pos) (tAsg te g) (gBind f (kPut T)) := ⟨ps_asg he.pe hg.pe hs hw h1, asg_td he.td hg.td⟩
theorem ds_set {i : Nat} {x : Str} {te : TE} {f : M D} {pos' : Pos} (hN : X.N.Nodup) (he : DE X E true e te f) (hi : X.N[i]? = some x := by rfl) (hx : Loc X.env.scope x := by first | exact Or.inl rfl | exact Or.inr rfl) (hs : swapsWith e (some (.Name x pos')) pos.line X.env = pure false := by rfl)
    (hf : X.fn x = true ∨ X.env.scope.names.lookup x = some .local := by first | exact .inl rfl | exact .inr rfl) : DS X E (.Assign [.Name x pos'] e pos) (tAsg te (gName i)) (gBind f (kPut (.nm i))) :=
  ⟨ps_set hN hi hx he.pe hs hf, asg_td he.td (dg_name (X := X) (pos := pos') hN hi hx hf).td⟩
/-- a list that the name alone holds from here on -/
def kOwn (i : Nat) : List D → S → Option Out := fun xs s => if i < s.sl.length then some (.nx { s with sl := s.sl.set i (.ol xs) }) else none
theorem Rl.own {K : PySem.W.Frag} {fr : Frm} {ow : Ow} {s : S} {σ : L2.St} {H : Hp} {i : Nat} {p : Addr} {xs : List D} {vs : List V} (R : Rl K (fr.plus p) ow s σ H) (hi : i < s.sl.length) (nF : ¬ fr.F ow p) (h0 : fr.H0 p = none) (hp : H p = some (.lst vs)) (hl : xs.length ≤ sizeLine) (hr : RepL K H (fun a => fr.F ow a ∨ a = p) xs vs) :
    Rl K fr (ow.set i (some p)) { s with sl := s.sl.set i (.ol xs) } (σ.set i (some (.ref p))) H := by
  have hF : ∀ a, fr.F (ow.set i (some p)) a → (fr.plus p).F ow a := fun a z => by
    rcases z with z | z
    · exact Frm.plusF.mpr (.inl (.inl z))
    · obtain ⟨j, hj⟩ := List.getElem?_of_mem z
      by_cases e : i = j
      · subst e
        rw [List.getElem?_set] at hj
        split at hj
        · split at hj
          · have : p = a := Option.some.inj (Option.some.inj hj)
            exact Frm.plusF.mpr (.inr this.symm)
          · cases hj
        · exact Frm.plusF.mpr (.inl (.inr (List.mem_of_getElem? hj)))
      · rw [List.getElem?_set_ne e] at hj
        exact Frm.plusF.mpr (.inl (.inr (List.mem_of_getElem? hj)))
  have kk : ∀ a u, ¬ (fr.plus p).F ow a → H a = some u → H a = some u ∧ ¬ fr.F (ow.set i (some p)) a := fun a u na e => ⟨e, fun z => na (hF a z)⟩
  refine ⟨by simp [R.ls], by simp [R.lo], fun j x hj => ?_, fun j k y h1 h2 => ?_, fun y hy => ?_, fun a z => R.ban a ?_, R.same, R.ara, fun y hy => (R.ar y hy).keep kk fun u q => q, R.nd, R.trk⟩
  · by_cases e : i = j
    · subst e
      have hx : x = .ol xs := by
        have : (s.sl.set i (.ol xs))[i]? = some x := hj
        rw [List.getElem?_set_self hi] at this
        exact (Option.some.inj this).symm
      subst hx
      rw [join_set_self (by rw [R.ls]; exact hi), join_set_self (by rw [R.lo]; exact hi)]
      exact ⟨p, vs, rfl, rfl, hl, hp, hr.weak fun a z => Frm.plusF.mp (hF a z)⟩
    · rw [List.getElem?_set_ne e, List.getElem?_set_ne e]
      have hj' : s.sl[j]? = some x := by
        have : (s.sl.set i (.ol xs))[j]? = some x := hj
        rwa [List.getElem?_set_ne e] at this
      exact (R.slot j x hj').keep kk fun y u _ q => q
  · have g : ∀ {m : Nat} {y : Addr}, (ow.set i (some p))[m]? = some (some y) → (m = i ∧ y = p) ∨ (m ≠ i ∧ ow[m]? = some (some y)) := fun {m y} h => by
      by_cases e : i = m
      · subst e
        rw [List.getElem?_set] at h
        split at h
        · split at h
          · exact .inl ⟨rfl, (Option.some.inj (Option.some.inj h)).symm⟩
          · cases h
        · rename_i hn; exact absurd rfl hn
      · rw [List.getElem?_set_ne e] at h
        exact .inr ⟨fun z => e z.symm, h⟩
    rcases g h1 with ⟨rfl, rfl⟩ | ⟨n1, h1'⟩ <;> rcases g h2 with ⟨rfl, e2⟩ | ⟨n2, h2'⟩
    · rfl
    · exact absurd (.inr (List.mem_of_getElem? h2')) nF
    · exact absurd (.inr (List.mem_of_getElem? (by rw [e2] at h1'; exact h1'))) nF
    · exact R.inj j k y h1' h2'
  · obtain ⟨j, hj⟩ := List.getElem?_of_mem hy
    by_cases e : i = j
    · subst e
      rw [List.getElem?_set] at hj
      split at hj
      · split at hj
        · have : p = y := Option.some.inj (Option.some.inj hj)
          subst this
          exact ⟨h0, fun z => nF (.inl z)⟩
        · cases hj
      · rename_i hn; exact absurd rfl hn
    · rw [List.getElem?_set_ne e] at hj
      have := R.owf y (List.mem_of_getElem? hj)
      exact ⟨this.1, fun z => this.2 (z.elim (fun z => .inl (.inl z)) .inr)⟩
  · exact z.elim (fun z => .inl (.inl z)) .inr
theorem F_own {fr : Frm} {ow : Ow} {i : Nat} {p a : Addr} (z : fr.F (ow.set i (some p)) a) : fr.F ow a ∨ a = p := by
  rcases z with z | z
  · exact .inl (.inl z)
  · obtain ⟨j, hj⟩ := List.getElem?_of_mem z
    by_cases e : i = j
    · subst e
      rw [List.getElem?_set] at hj
      split at hj
      · split at hj
        · exact .inr (Option.some.inj (Option.some.inj hj)).symm
        · cases hj
      · exact .inl (.inr (List.mem_of_getElem? hj))
    · rw [List.getElem?_set_ne e] at hj
      exact .inl (.inr (List.mem_of_getElem? hj))
theorem Rl.tr {K : PySem.W.Frag} {fr : Frm} {ow : Ow} {s : S} {σ : L2.St} {H : Hp} (R : Rl K fr ow s σ H) (T : Addr → Prop) (h : ∀ a, T a → H a ≠ none) : Rl K { fr with tr := T } ow s σ H :=
  ⟨R.ls, R.lo, R.slot, R.inj, R.owf, R.ban, R.same, R.ara, R.ar, R.nd, h⟩
theorem own_td {K : PySem.W.Frag} {te : TE} {i : Nat} {f : M (List D)} (he : TDg K (rF K) E te f) : TS1 K E (tAsg te (gName i)) (gBind f (kOwn i)) := by
  intro fr ow s σ H Dn o R e P
  unfold gBind at e
  have Rt : Rl K { fr with tr := fun a => H a ≠ none } ow s σ H := R.tr _ fun a h => h
  cases z : f s with
  | none => rw [z] at e; cases e
  | some r =>
    rw [z] at e
    cases r with
    | er C ns xs ar =>
      obtain rfl : Out.er C ns xs ar = o := Option.some.inj e
      exact he fr ow s σ H _ _ R z (er_out P)
    | ok xs ar =>
      refine he { fr with tr := fun a => H a ≠ none } ow s σ H _ _ Rt z fun v H1 R1 k1 r1 => ?_
      obtain ⟨p, vs, rfl, nF, h0, hp, hl, hr, Rp, hf⟩ := r1
      have e : kOwn i xs (s.wa ar) = some o := e
      unfold kOwn at e
      split at e
      · rename_i hi
        cases e
        have hg : Grow H H1 := Keep.grow (fr := { fr with tr := fun a => H a ≠ none }) k1 R1
        have R2 := (Rp.own (fr := { fr with tr := fun a => H a ≠ none }) hi nF h0 hp hl hr).tr fr.tr fun a h => hg a (R.trk a h)
        refine P _ _ H1 ⟨R2, ⟨fun a o h n => k1 a o h fun z => n (.inl (.inr z)), fun a ha z => ?_⟩, hg⟩
        rcases F_own z with z | z
        · exact z
        · rw [z] at ha
          exact absurd ha hf
      · cases e
theorem ds_own {i : Nat} {x : Str} {te : TE} {f : M (List D)} {pos' : Pos} (hN : X.N.Nodup) (he : DF X E e te f) (hi : X.N[i]? = some x := by rfl) (hx : Loc X.env.scope x := by first | exact Or.inl rfl | exact Or.inr rfl) (hs : swapsWith e (some (.Name x pos')) pos.line X.env = pure false := by rfl)
    (hf : X.fn x = true ∨ X.env.scope.names.lookup x = some .local := by first | exact .inl rfl | exact .inr rfl) : DS X E (.Assign [.Name x pos'] e pos) (tAsg te (gName i)) (gBind f (kOwn i)) :=
  ⟨ps_set hN hi hx he.pe hs hf, own_td he.td⟩
/-! ### the value dropped; what a slot's own list is told to do -/
theorem ds_drop {te : TE} {f : M D} (he : DE X E false e te f) (hs : swapsWith e none pos.line X.env = pure false := by rfl) : DS X E (.Expr e pos) (tDrop te) (gBind f fun _ s => some (.nx s)) := by
  refine ⟨ps_expr he.pe hs, fun fr ow s σ H Dn o R e P => ?_⟩
  refine tb_bind (t := te) he.td R e P fun d ar v H1 R1 k1 r1 e1 P1 => ?_
  cases e1
  exact P1 ow σ H1 (Af.refl R1)
/-- the list at p, held by slot i alone, is changed -/
theorem Rl.updO {K : PySem.W.Frag} {fr : Frm} {ow : Ow} {s : S} {σ : L2.St} {H : Hp} {i : Nat} {p : Addr} {xs : List D} {vs : List V} (R : Rl K fr ow s σ H) (hi : i < s.sl.length) (ho : (ow[i]?).join = some p) (hσ : (σ[i]?).join = some (.ref p)) (hl : xs.length ≤ sizeLine) (hr : RepL K H (fr.F ow) xs vs) :
    Rl K fr ow { s with sl := s.sl.set i (.ol xs) } σ (upd H p (.lst vs)) := by
  have hm : ow[i]? = some (some p) := by
    cases y : ow[i]? with
    | none => rw [y] at ho; cases ho
    | some u => rw [y] at ho; exact congrArg some ho
  have hpm : some p ∈ ow := List.mem_of_getElem? hm
  have hF : fr.F ow p := .inr hpm
  have kk : ∀ a u, ¬ fr.F ow a → H a = some u → upd H p (.lst vs) a = some u ∧ ¬ fr.F ow a := fun a u na e => ⟨by
    rw [upd_ne fun z => na (by rw [z]; exact hF)]
    exact e, na⟩
  refine ⟨by simp [R.ls], by simp [R.lo], fun j x hj => ?_, R.inj, R.owf, fun a z w => ?_, fun a u h na => ?_, R.ara, fun y hy => (R.ar y hy).keep kk fun u q => ?_, R.nd, fun a z w => ?_⟩
  · by_cases e : i = j
    · subst e
      have hx : x = .ol xs := by
        have : (s.sl.set i (.ol xs))[i]? = some x := hj
        rw [List.getElem?_set_self hi] at this
        exact (Option.some.inj this).symm
      subst hx
      exact ⟨p, vs, ho, hσ, hl, upd_same, hr.keep kk⟩
    · have hj' : s.sl[j]? = some x := by
        have : (s.sl.set i (.ol xs))[j]? = some x := hj
        rwa [List.getElem?_set_ne e] at this
      refine (R.slot j x hj').keep kk fun y u hy hu => ?_
      rw [upd_ne fun z => e (R.inj i j p hm (by
        rw [← z]
        cases w : ow[j]? with
        | none => rw [w] at hy; cases hy
        | some u => rw [w] at hy; exact congrArg some hy))]
      exact hu
  · by_cases e : a = p
    · rw [e, upd_same] at w; cases w
    · rw [upd_ne e] at w; exact R.ban a z w
  · rw [upd_ne fun z => by rw [z, (R.owf p hpm).1] at h; cases h]
    exact R.same a u h na
  · rw [upd_ne fun z => (R.owf p hpm).2 (.inr (by rw [← z, ← R.ara]; exact List.mem_map_of_mem hy))]
    exact q
  · by_cases e : a = p
    · rw [e, upd_same] at w; cases w
    · rw [upd_ne e] at w; exact R.trk a z w
theorem own_at {K : PySem.W.Frag} {fr : Frm} {ow : Ow} {s : S} {σ : L2.St} {H : Hp} {i : Nat} {xs : List D} (R : Rl K fr ow s σ H) (h : s.sl[i]? = some (.ol xs)) : ∃ p vs, i < s.sl.length ∧ (ow[i]?).join = some p ∧ (σ[i]?).join = some (.ref p) ∧ σ[i]? = some (some (.ref p)) ∧ xs.length ≤ sizeLine ∧ H p = some (.lst vs) ∧ RepL K H (fr.F ow) xs vs ∧ fr.F ow p ∧ ¬ fr.C p := by
  obtain ⟨p, vs, h1, h2, h3, h4, h5⟩ := R.slot i _ h
  have hm : some p ∈ ow := by
    cases y : ow[i]? with
    | none => rw [y] at h1; cases h1
    | some u => rw [y] at h1; exact List.mem_of_getElem? (y.trans (congrArg some h1))
  refine ⟨p, vs, (List.getElem?_eq_some_iff.mp h).1, h1, h2, ?_, h3, h4, h5, .inr hm, (R.owf p hm).2⟩
  cases y : σ[i]? with
  | none => rw [y] at h2; cases h2
  | some u => rw [y] at h2; exact congrArg some h2
theorem af_upd {K : PySem.W.Frag} {fr : Frm} {ow : Ow} {s' : S} {σ : L2.St} {H : Hp} {p : Addr} {o : HO} (R : Rl K fr ow s' σ (upd H p o)) (hF : fr.F ow p) : Af K fr ow H s' ow σ (upd H p o) :=
  ⟨R, ⟨fun a u h n => by
    rw [upd_ne fun z => n (by rw [z]; exact hF)]
    exact h, fun a _ z => z⟩, fun a h => by
    by_cases e : a = p
    · rw [e, upd_same]; simp
    · rw [upd_ne e]; exact h⟩
/-- what the name i holds alone, changed by a value -/
def kMut (i : Nat) (g : List D → D → Option (List D)) : D → S → Option Out := fun d s => match s.sl[i]? with
  | some (.ol xs) => (g xs d).map fun ys => .nx { s with sl := s.sl.set i (.ol ys) }
  | _ => none
def aApp (xs : List D) (d : D) : Option (List D) := if xs.length < LIM then some (xs ++ [d]) else none
def aExt (xs : List D) : D → Option (List D)
  | .lst ys => if xs.length + ys.length ≤ LIM then some (xs ++ ys) else none
  | _ => none
theorem slot_name {K : PySem.W.Frag} {fr : Frm} {ow : Ow} {s : S} {σ : L2.St} {H : Hp} {i : Nat} {xs : List D} (R : Rl K fr ow s σ H) (h : s.sl[i]? = some (.ol xs)) : ∃ p, σ[i]? = some (some (.ref p)) := by
  obtain ⟨p, _, _, _, _, h1, _⟩ := own_at R h
  exact ⟨p, h1⟩
theorem kMut_some {i : Nat} {g : List D → D → Option (List D)} {d : D} {s : S} {o : Out} (h : kMut i g d s = some o) : ∃ xs ys, s.sl[i]? = some (.ol xs) ∧ g xs d = some ys ∧ o = .nx { s with sl := s.sl.set i (.ol ys) } := by
  unfold kMut at h
  split at h
  · rename_i xs hx
    cases z : g xs d with
    | none => rw [z] at h; cases h
    | some ys => rw [z] at h; cases h; exact ⟨xs, ys, hx, z, rfl⟩
  · cases h
/-- the state ahead of an expression knows the slot, too: f leaves the slots -/
def gMut (i : Nat) (g : List D → D → Option (List D)) (f : M D) : G := fun s => match s.sl[i]? with
  | some (.ol _) => gBind f (kMut i g) s
  | _ => none
theorem gMut_some {i : Nat} {g : List D → D → Option (List D)} {f : M D} {s : S} {o : Out} (h : gMut i g f s = some o) : (∃ xs, s.sl[i]? = some (.ol xs)) ∧ gBind f (kMut i g) s = some o := by
  unfold gMut at h
  split at h
  · rename_i xs hx
    exact ⟨⟨xs, hx⟩, h⟩
  · cases h
theorem lenL {xs : List D} {vs : List V} {K : PySem.W.Frag} {H : Hp} {B : Addr → Prop} (h : RepL K H B xs vs) : vs.length = xs.length := h.len
theorem ds_append {x : Str} {te : TE} {f : M D} (i : Nat) (he : DE X E true e te f) (hi : X.N[i]? = some x := by rfl) (hv : Vis X.env.scope x := by first | exact Or.inl rfl | exact Or.inr (Or.inl rfl)) (hd : (x == ("__debug__" : Str)) = false := by decide) (hcd : (x == ("__classdict__" : Str)) = false := by decide)
    (hbase : attributeBase (.Name x p) "append" X.env (eval (.Name x p) X.env) = eval (.Name x p) X.env := by rfl)
    (hfew : ((backTo cpos (starEach [e] X.env)).all (fun x => !x.1) && (backToKw cpos (keywordEach [] X.env)).all (fun x => x.1.isSome)
      && decide (([e] : List Expr).length + ([] : List Keyword).length + (if ([] : List Keyword).isEmpty then 0 else 1) < 30)) = true := by rfl)
    (hline : (apos.endLine == cpos.line) = true := by rfl) (hs : starEach [e] X.env = (false, eval e X.env) :: starEach [] X.env := by rfl) (hplain : (backTo cpos (starEach [] X.env)).any (·.1) = false := by rfl)
    (hsw : swapsWith (.Call (.Attribute (.Name x p) "append" apos) [e] [] cpos) none pos.line X.env = pure false := by rfl) :
    DS X E (.Expr (.Call (.Attribute (.Name x p) "append" apos) [e] [] cpos) pos) (tDrop (tBM X.K "list" rAppend (tVar i) (tCons te tNil))) (gMut i aApp f) := by
  refine ⟨ps_expr (pe_bm PySem.F.plainAttrs_list PySem.F.slot_list_append PySem.F.type_list_append mt_append (pe_var hi hv hd hcd) (pa_cons he.pe pa_nil hs) hbase hfew hline hs hplain) hsw, fun fr ow s σ H Dn o R e P => ?_⟩
  obtain ⟨⟨xs0, hx0⟩, e⟩ := gMut_some e
  obtain ⟨p, vs0, _, _, _, hσ, _, hp, _⟩ := own_at R hx0
  refine ⟨.ref p, hσ, .inl ⟨rfl, vs0, SqL.of hp⟩, ?_⟩
  refine tb_bind (t := te) he.td R e P fun d ar v H1 R1 k1 r1 e1 P1 => ?_
  obtain ⟨xs, ys, hx, hg, rfl⟩ := kMut_some e1
  obtain ⟨p', vs, hi', h1, h2, hσ', hl, hp', hr, hF, hC⟩ := own_at R1 hx
  rw [hσ] at hσ'
  cases hσ'
  unfold aApp at hg
  split at hg
  · rename_i hlim
    cases hg
    have hz : xs.length < sizeLine := Nat.lt_of_lt_of_le hlim (by rw [sizeLine_eq]; decide)
    have Rn := R1.updO hi' h1 h2 (xs := xs ++ [d]) (vs := vs ++ [v]) (by rw [List.length_append]; exact hz) (hr.app (RepL.cons r1.cl RepL.nil))
    exact ⟨p, vs, v, rfl, rfl, hp', by rw [hr.len]; exact hz, P1 ow σ _ (af_upd Rn hF)⟩
  · cases hg
theorem ds_extend {x : Str} {te : TE} {f : M D} (i : Nat) (he : DE X E true e te f) (hi : X.N[i]? = some x := by rfl) (hv : Vis X.env.scope x := by first | exact Or.inl rfl | exact Or.inr (Or.inl rfl)) (hd : (x == ("__debug__" : Str)) = false := by decide) (hcd : (x == ("__classdict__" : Str)) = false := by decide)
    (hbase : attributeBase (.Name x p) "extend" X.env (eval (.Name x p) X.env) = eval (.Name x p) X.env := by rfl)
    (hfew : ((backTo cpos (starEach [e] X.env)).all (fun x => !x.1) && (backToKw cpos (keywordEach [] X.env)).all (fun x => x.1.isSome)
      && decide (([e] : List Expr).length + ([] : List Keyword).length + (if ([] : List Keyword).isEmpty then 0 else 1) < 30)) = true := by rfl)
    (hline : (apos.endLine == cpos.line) = true := by rfl) (hs : starEach [e] X.env = (false, eval e X.env) :: starEach [] X.env := by rfl) (hplain : (backTo cpos (starEach [] X.env)).any (·.1) = false := by rfl)
    (hsw : swapsWith (.Call (.Attribute (.Name x p) "extend" apos) [e] [] cpos) none pos.line X.env = pure false := by rfl) :
    DS X E (.Expr (.Call (.Attribute (.Name x p) "extend" apos) [e] [] cpos) pos) (tDrop (tBM X.K "list" rExtend (tVar i) (tCons te tNil))) (gMut i aExt f) := by
  refine ⟨ps_expr (pe_bm PySem.F.plainAttrs_list PySem.F.slot_list_extend PySem.F.type_list_extend mt_extend (pe_var hi hv hd hcd) (pa_cons he.pe pa_nil hs) hbase hfew hline hs hplain) hsw, fun fr ow s σ H Dn o R e P => ?_⟩
  obtain ⟨⟨xs0, hx0⟩, e⟩ := gMut_some e
  obtain ⟨p, vs0, _, _, _, hσ, _, hp, _⟩ := own_at R hx0
  refine ⟨.ref p, hσ, .inl ⟨rfl, vs0, SqL.of hp⟩, ?_⟩
  refine tb_bind (t := te) he.td R e P fun d ar v H1 R1 k1 r1 e1 P1 => ?_
  obtain ⟨xs, ys, hx, hg, rfl⟩ := kMut_some e1
  obtain ⟨p', vs, hi', h1, h2, hσ', hl, hp', hr, hF, hC⟩ := own_at R1 hx
  rw [hσ] at hσ'
  cases hσ'
  cases d with
  | lst zs =>
    have hg : (if xs.length + zs.length ≤ LIM then some (xs ++ zs) else none) = some ys := hg
    split at hg
    · rename_i hlim
      cases hg
      obtain ⟨b, ws, rfl, _, _, hb, hrb⟩ := RepQ.lst r1
      have Rn := R1.updO hi' h1 h2 (xs := xs ++ zs) (vs := vs ++ ws) (by rw [List.length_append]; exact lim_line hlim) (hr.app hrb)
      exact ⟨p, b, vs, ws, rfl, rfl, hp', hb, by rw [hr.len, hrb.len]; exact lim_line hlim, P1 ow σ _ (af_upd Rn hF)⟩
    · cases hg
  | _ => cases hg
/-- x[i] = e, x a list that the name alone holds -/
def kSetI (i : Nat) (d jd : D) : S → Option Out := fun s => match jd with
  | .int j => match s.sl[i]? with
    | some (.ol xs) => (ixN xs.length j).map fun n => .nx { s with sl := s.sl.set i (.ol (xs.set n d)) }
    | _ => none
  | _ => none
def gSetI (i : Nat) (f fj : M D) : G := fun s => match s.sl[i]? with
  | some (.ol _) => gBind f (fun d => gBind fj (fun jd => kSetI i d jd)) s
  | _ => none
theorem ixN_lt {n : Nat} {i : Int} {j : Nat} (h : ixN n i = some j) : j < n := (ixN_seq h).2.1
theorem ds_setI {x : Str} {te tj : TE} {f fj : M D} {j : Expr} (i : Nat) (he : DE X E true e te f) (hj : DE X E true j tj fj) (hi : X.N[i]? = some x := by rfl) (hv : Vis X.env.scope x := by first | exact Or.inl rfl | exact Or.inr (Or.inl rfl)) (hd : (x == ("__debug__" : Str)) = false := by decide) (hcd : (x == ("__classdict__" : Str)) = false := by decide)
    (ha : ∀ v, assign (.Subscript (.Name x p) j p1) X.env v = (do
      let ov ← holding [v] (eval (.Name x p) X.env)
      let iv ← holding [v, ov] (eval j X.env)
      standAt p1
      holding [v, ov, iv] (setItem ov iv v)
      release [v, ov, iv] []) := by intro _; rfl)
    (hs : swapsWithSole [.Subscript (.Name x p) j p1] e pos.line X.env = pure false := by rfl) (hw : swappedStores [.Subscript (.Name x p) j p1] e X.env = pure none := by rfl)
    (h1 : (assignEach [.Subscript (.Name x p) j p1] X.env).map (·.2) = [assign (.Subscript (.Name x p) j p1) X.env] := by rfl) :
    DS X E (.Assign [.Subscript (.Name x p) j p1] e pos) (tAsg te (L2.gSub (tVar i) tj rSetL)) (gSetI i f fj) := by
  refine ⟨ps_asg he.pe (pg_sub (pe_var hi hv hd hcd) hj.pe set_list ha) hs hw h1, fun fr ow s σ H Dn o R e P => ?_⟩
  unfold gSetI at e
  split at e
  · rename_i xs0 hx0
    obtain ⟨p, vs0, _, _, _, hσ, _, hp, _⟩ := own_at R hx0
    refine tb_bind (t := te) he.td R e P fun d ar v H1 R1 k1 r1 e1 P1 => ?_
    refine ⟨.ref p, hσ, ?_⟩
    refine tb_bind (t := tj) hj.td R1 e1 P1 fun jd ar2 jv H2 R2 k2 r2 e2 P2 => ?_
    unfold kSetI at e2
    split at e2
    · rename_i jn
      split at e2
      · rename_i xs hx
        obtain ⟨p', vs, hi', h1, h2, hσ', hl, hp', hr, hF, hC⟩ := own_at R2 hx
        rw [hσ] at hσ'
        cases hσ'
        cases z : ixN xs.length jn with
        | none => rw [z] at e2; cases e2
        | some n =>
          rw [z] at e2
          cases e2
          have Rn := R2.updO hi' h1 h2 (xs := xs.set n d) (vs := vs.set n v) (by rw [List.length_set]; exact hl) (hr.set n (r1.cl.kp k2))
          refine ⟨p, vs, jn, n, rfl, RepQ.int r2, hp', by rw [hr.len]; exact z, P2 ow σ _ (af_upd Rn hF)⟩
      · cases e2
    · cases e2
  · cases e

/-! ### if, for, while -/
def gIf (c : M Bool) (g1 g2 : G) : G := gBind c fun b => if b then g1 else g2
theorem ds_if {t u : TS} {tc : TT} {fc : M Bool} {g1 g2 : G} {as bs : List Stmt} (hc : DT X E c tc fc) (ha : DSs X E as t g1) (hb : DSs X E bs u g2) : DS X E (.If c as bs pos) (tIfS tc t u) (gIf fc g1 g2) := by
  refine ⟨ps_if hc.pe ha.pe hb.pe, fun fr ow s σ H Dn o R e P => ?_⟩
  refine tb_bind (t := tc) hc.td R e P fun b ar b' H1 R1 k1 r1 e1 P1 => ?_
  obtain rfl : b = b' := r1
  cases b with
  | true => exact ha.td fr ow _ σ H1 Dn o R1 e1 P1
  | false => exact hb.td fr ow _ σ H1 Dn o R1 e1 P1
def forF (set : D → S → Option S) (g : G) : List D → G
  | [], s => some (.nx s)
  | x :: xs, s => (set x s).bind fun s1 => match g s1 with
    | some (.nx s2) => forF set g xs s2
    | some (.ct s2) => forF set g xs s2
    | some (.bk s2) => some (.nx s2)
    | o => o
def gFor (T : Tg) (fi : M (List D)) (g : G) : G := gBind fi fun xs => forF (setT T) g xs
theorem Sto.af {K : PySem.W.Frag} {fr : Frm} {ow ow' : Ow} {s : S} {σ σ' : L2.St} {H : Hp} {ix : List Nat} (R : Rl K fr ow' s σ' H) (h : Sto ix σ σ' ow ow') : Af K fr ow H s ow' σ' H := ⟨R, h.stp, fun _ h => h⟩
theorem ds_for {w : TI} {g : TG} {tb : TS} {T : Tg} {fi : M (List D)} {gb : G} {body : List Stmt} (hp : PassesOwn (model X.prog X.w) X.A X.env X.xe) (hc : X.calm = true) (hi : DIt X E true tg iter w fi) (hg : DG X tg g T) (hb : DSs X E body tb gb)
    (hs : ∀ x, foldedSetIterable iter X.env x = pure x := by intro _; rfl) : DS X E (.For tg iter body [] pos) (tFor w g tb) (gFor T fi gb) := by
  refine ⟨ps_for hp hc hi.pe hg.pe hb.pe hs, fun fr ow s σ H Dn o R e P => ?_⟩
  refine tb_bind (t := w) hi.td R e P fun xs ar J H1 R1 k1 r1 e1 P1 => ?_
  obtain ⟨G0, Y, wk, cl⟩ := r1
  have clo : ∀ {H' : Hp} {ow' : Ow}, Stp fr H1 ow H' ow' → G0 H' ∧ ∀ i x H2 d, Y i H' x H2 → (∀ p, H' p = none → ¬ fr.F ow' p) → xs[i]? = some d → Ext H' H2 ∧ Rep X.K H2 (fr.F ow') d x := fun {H' ow'} st => cl (fr.F ow') H' st.kp st.bn
  refine for_it wk (fun i σ' H' => ∃ s' ow', forF (setT T) gb (xs.drop i) s' = some o ∧ Af X.K fr ow H1 s' ow' σ' H') ?_ ?_ ?_ ?_
  · exact ⟨_, ow, e1, Af.refl R1⟩
  · rintro i σ' H' _ ⟨s', ow', _, af⟩
    exact (clo af.st).1
  · rintro i x σ' H' H2 hi ⟨s', ow', hf, af⟩ hy
    obtain ⟨ex, rx⟩ := (clo af.st).2 i x H2 xs[i] hy (fun p hp => af.rl.fresh hp) (List.getElem?_eq_getElem hi)
    have R2 := af.rl.ext ex
    rw [List.drop_eq_getElem_cons hi] at hf
    have hf : (setT T xs[i] s').bind _ = some o := hf
    cases z : setT T xs[i] s' with
    | none => rw [z] at hf; cases hf
    | some s1 =>
      rw [z] at hf
      dsimp only [Option.bind_some] at hf
      refine hg.td fr ow' s' σ' H2 xs[i] x _ s1 R2 rx z fun σ3 ow3 R3 st3 _ => ?_
      have af3 : Af X.K fr ow H1 s1 ow3 σ3 H2 := (af.trans (Af.ofK R2 (Keep.ext ex))).trans (Sto.af R3 st3)
      cases y : gb s1 with
      | none => rw [y] at hf; cases hf
      | some ob =>
        rw [y] at hf
        refine hb.td fr ow3 s1 σ3 H2 _ ob R3 y ?_
        cases ob with
        | nx s2 => exact fun ow4 σ4 H4 af4 => ⟨s2, ow4, hf, af3.trans af4⟩
        | ct s2 => exact fun ow4 σ4 H4 af4 => ⟨s2, ow4, hf, af3.trans af4⟩
        | bk s2 => cases hf; exact fun ow4 σ4 H4 af4 => P1 ow4 σ4 H4 (af3.trans af4)
        | rt d ar => cases hf; exact P1.step af3
        | er C ns ys ar => cases hf; exact P1.step af3
  · rintro σ' H' ⟨s', ow', hf, af⟩
    rw [List.drop_length] at hf
    cases hf
    exact P1 ow' σ' H' af
def whF (c : M Bool) (g : G) : Nat → G
  | 0, _ => none
  | n + 1, s => match c s with
    | some (.ok true ar) => match g (s.wa ar) with
      | some (.nx s2) => whF c g n s2
      | some (.ct s2) => whF c g n s2
      | some (.bk s2) => some (.nx s2)
      | o => o
    | some (.ok false ar) => some (.nx (s.wa ar))
    | some (.er C ns xs ar) => some (.er C ns xs ar)
    | none => none
def gWh (μ : S → Nat) (c : M Bool) (g : G) : G := fun s => whF c g (μ s) s
theorem ds_while {tc : TT} {tb : TS} {fc : M Bool} {gb : G} {body : List Stmt} (μ : S → Nat) (hp : PassesOwn (model X.prog X.w) X.A X.env X.xe) (hc : DT X E c tc fc) (hb : DSs X E body tb gb) : DS X E (.While c body [] pos) (tWhile tc tb) (gWh μ fc gb) := by
  refine ⟨ps_while hp hc.pe hb.pe, fun fr ow s σ H Dn o R e P => ?_⟩
  refine ⟨fun m σ' H' => ∃ s' ow', whF fc gb m s' = some o ∧ Af X.K fr ow H s' ow' σ' H', ⟨μ s, s, ow, e, Af.refl R⟩, ?_⟩
  rintro m σ' H' ⟨s', ow', hw, af⟩
  cases m with
  | zero => cases hw
  | succ n =>
    unfold whF at hw
    cases z : fc s' with
    | none => rw [z] at hw; cases hw
    | some r =>
      rw [z] at hw
      have Pn := P.step af
      cases r with
      | er C ns xs ar =>
        obtain rfl : Out.er C ns xs ar = o := Option.some.inj hw
        exact hc.td fr ow' s' σ' H' _ _ af.rl z (er_out Pn)
      | ok b ar =>
        refine hc.td fr ow' s' σ' H' _ _ af.rl z fun b' H1 R1 k1 eb => ?_
        obtain rfl : b = b' := eb
        have af1 : Af X.K fr ow H (s'.wa ar) ow' σ' H1 := af.trans (Af.ofK R1 k1)
        cases b with
        | false =>
          cases hw
          rw [if_neg Bool.false_ne_true]
          exact P ow' σ' H1 af1
        | true =>
          rw [if_pos rfl]
          dsimp only at hw
          refine ⟨fun σ2 H2 => ∃ s2 ow2, whF fc gb n s2 = some o ∧ Af X.K fr ow H s2 ow2 σ2 H2, fun σ2 H2 h => ⟨n, Nat.lt_succ_self n, h⟩, ?_⟩
          cases y : gb (s'.wa ar) with
          | none => rw [y] at hw; cases hw
          | some ob =>
            rw [y] at hw
            refine hb.td fr ow' _ σ' H1 _ ob R1 y ?_
            cases ob with
            | nx s2 => exact fun ow4 σ4 H4 af4 => ⟨s2, ow4, hw, af1.trans af4⟩
            | ct s2 => exact fun ow4 σ4 H4 af4 => ⟨s2, ow4, hw, af1.trans af4⟩
            | bk s2 => cases hw; exact fun ow4 σ4 H4 af4 => P ow4 σ4 H4 (af1.trans af4)
            | rt d ar => cases hw; exact P.step af1
            | er C ns ys ar => cases hw; exact P.step af1

/-! ### what a name alone held, from here on held by all; return -/
def Sl.fz : Sl → Sl
  | .ol xs => .va (.lst xs)
  | .od ks xs => .va (.dk ks xs)
  | x => x
def S.fz (s : S) : S := { s with sl := s.sl.map Sl.fz }
theorem Rl.fz {K : PySem.W.Frag} {fr : Frm} {ow : Ow} {s : S} {σ : L2.St} {H : Hp} (R : Rl K fr ow s σ H) : Rl K fr (ow.map fun _ => none) s.fz σ H := by
  have hF : ∀ a, fr.F (ow.map fun _ => (none : Option Addr)) a → fr.F ow a := fun a z => by
    rcases z with z | z
    · exact .inl z
    · obtain ⟨y, _, e⟩ := List.mem_map.mp z
      cases e
  have hC : ∀ a, fr.F (ow.map fun _ => (none : Option Addr)) a → fr.C a := fun a z => by
    rcases z with z | z
    · exact z
    · obtain ⟨y, _, e⟩ := List.mem_map.mp z
      cases e
  have kk : ∀ a u, ¬ fr.F ow a → H a = some u → H a = some u ∧ ¬ fr.F (ow.map fun _ => (none : Option Addr)) a := fun a u na e => ⟨e, fun z => na (hF a z)⟩
  refine ⟨by simp [S.fz, R.ls], by simp [S.fz, R.lo], fun j x hj => ?_, fun j k p h1 h2 => ?_, fun p hp => ?_, R.ban, R.same, R.ara, fun y hy => (R.ar y hy).keep kk fun u q => q, R.nd, R.trk⟩
  · have hj : (s.sl.map Sl.fz)[j]? = some x := hj
    rw [List.getElem?_map] at hj
    cases y : s.sl[j]? with
    | none => rw [y] at hj; cases hj
    | some x0 =>
      rw [y] at hj
      have hx : x0.fz = x := Option.some.inj hj
      subst hx
      have so := R.slot j x0 y
      have on : ((ow.map fun _ => (none : Option Addr))[j]?).join = none := by
        rw [List.getElem?_map]
        cases ow[j]? <;> rfl
      rw [on]
      have hm : ∀ {p}, (ow[j]?).join = some p → some p ∈ ow := fun {p} h => by
        cases w : ow[j]? with
        | none => rw [w] at h; cases h
        | some u => rw [w] at h; exact List.mem_of_getElem? (w.trans (congrArg some h))
      cases x0 with
      | no => exact rfl
      | va d => obtain ⟨_, w, h1, h2⟩ := so; exact ⟨rfl, w, h1, h2.keep kk⟩
      | ol xs =>
        obtain ⟨p, vs, h0, h1, h2, h3, h4⟩ := so
        exact ⟨rfl, _, h1, p, vs, rfl, h2, ⟨fun z => (R.owf p (hm h0)).2 (hC p z), h3⟩, h4.keep kk⟩
      | od ks xs =>
        obtain ⟨p, vs, h0, h1, h2, h3, h4, h5⟩ := so
        exact ⟨rfl, _, h1, p, vs, rfl, h2, ⟨fun z => (R.owf p (hm h0)).2 (hC p z), h3⟩, h4, h5.keep kk⟩
  · rw [List.getElem?_map] at h1
    cases w : ow[j]? with
    | none => rw [w] at h1; cases h1
    | some u => rw [w] at h1; cases h1
  · obtain ⟨y, _, e⟩ := List.mem_map.mp hp
    cases e
def gRet (f : M D) : G := fun s => gBind f (fun d s => some (.rt d s.ar)) s.fz
theorem Stp.fz {fr : Frm} {ow : Ow} {H : Hp} : Stp fr H ow H (ow.map fun _ => none) := ⟨fun a o h _ => h, fun a _ z => by
  rcases z with z | z
  · exact .inl z
  · obtain ⟨y, _, e⟩ := List.mem_map.mp z
    cases e⟩
theorem ds_ret {te : TE} {f : M D} (he : DE X E true e te f) : DS X E (.Return (some e) pos) (tRet te) (gRet f) := by
  refine ⟨ps_ret he.pe, fun fr ow s σ H Dn o R e P => ?_⟩
  have P0 : POut X.K fr (ow.map fun _ => none) H Dn E o := P.step ⟨R.fz, Stp.fz, fun _ h => h⟩
  refine tb_bind (t := te) (f := f) he.td R.fz e P0 fun d ar v H1 R1 k1 r1 e1 P1 => ?_
  cases e1
  refine P1 v H1 R1.ret (fun _ h => h) (r1.cl.weak fun a z => .inl z)
def gRetN : G := fun s => some (.rt .non s.ar)
theorem ds_retN : DS X E (.Return none pos) tRetN gRetN := ⟨ps_retN, fun fr ow s σ H Dn o R e P => by
  cases e
  exact P .non H R.ret (fun _ h => h) rfl⟩
/-- ahead of a block all is held by all -/
def gFz (g : G) : G := fun s => g s.fz
theorem dss_fz {t : TS} {g : G} {sts : List Stmt} (h : DSs X E sts t g) : DSs X E sts t (gFz g) := ⟨h.pe, fun fr ow s σ H Dn o R e P => h.td fr _ s.fz σ H Dn o R.fz e (P.step ⟨R.fz, Stp.fz, fun _ h => h⟩)⟩
end
end DL
set_option Elab.async false
set_option linter.all false
set_option maxRecDepth 100000
/-! DP: a def by its body; pairs of stores; attributes stored; chains of comparisons -/
namespace DL
open PySem L2 PySem.Spec PyProof.Rows

/-! ### a def by its body -/
def mirOf (g : G) (n L : Nat) : Mir := fun ds ar => if ds.length = n then match g ⟨ds.map .va ++ List.replicate (L - n) .no, ar⟩ with
  | some (.rt d ar') => some (.ok d ar')
  | some (.nx s) => some (.ok .non s.ar)
  | _ => none
  else none
theorem F_rep {fr : Frm} {L : Nat} {a : Addr} (z : fr.F (List.replicate L none) a) : fr.C a := by
  rcases z with z | z
  · exact z
  · rw [List.mem_replicate] at z
    cases z.2
theorem rl_start {K : PySem.W.Frag} {ban : Addr → Prop} {N : List Str} {ds : List D} {vs : List V} {ar : Ar} {H : Hp} (hn : ds.length ≤ N.length) (hr : RepL K H (banA ban (ar.map (·.1))) ds vs)
    (hm : ∀ p ∈ ar, MOk K H (banA ban (ar.map (·.1))) p.1 p.2) (hb : ∀ a, banA ban (ar.map (·.1)) a → H a ≠ none) (hd : (ar.map (·.1)).Nodup) :
    Rl K { ban := ban, ars := ar.map (·.1), H0 := H, tr := fun _ => False } (List.replicate N.length none) ⟨ds.map .va ++ List.replicate (N.length - ds.length) .no, ar⟩ (start N vs) H := by
  have hl := hr.len
  refine ⟨by simp [L2.start, hl], by simp; omega, fun i x hx => ?_, fun i j p h1 h2 => ?_, fun p hp => ?_, fun a h => hb a h, fun a o h _ => h, rfl, fun p hp => (hm p hp).keep (fun a o n z => ⟨z, fun w => n (F_rep w)⟩) fun o z => z, hd, fun a h => h.elim⟩
  · have ho : ((List.replicate N.length (none : Option Addr))[i]?).join = none := by
      rw [List.getElem?_replicate]; split <;> rfl
    rw [ho]
    by_cases hi : i < ds.length
    · have hx : (ds.map Sl.va ++ List.replicate (N.length - ds.length) Sl.no)[i]? = some x := hx
      rw [List.getElem?_append_left (by simpa using hi), List.getElem?_map, List.getElem?_eq_getElem hi] at hx
      cases hx
      obtain ⟨v, hv, rv⟩ := hr.get (List.getElem?_eq_getElem hi)
      refine ⟨rfl, v, ?_, rv.weak fun a z => F_rep z⟩
      unfold L2.start
      rw [List.getElem?_append_left (by simpa [hl] using hi), List.getElem?_map, hv]
      rfl
    · have hx : (ds.map Sl.va ++ List.replicate (N.length - ds.length) Sl.no)[i]? = some x := hx
      rw [List.getElem?_append_right (by simpa using hi), List.getElem?_replicate] at hx
      split at hx
      · cases hx; rfl
      · cases hx
  · rw [List.getElem?_replicate] at h1
    split at h1 <;> cases h1
  · rw [List.mem_replicate] at hp
    cases hp.2
section
variable {P : Program} {w : World} {K : PySem.W.Frag} {mg : Str → Option Value} {base : Heap}
theorem fn_ok {x qual : Str} {st : Stmt} {f : Addr} {fd : FuncData} {N ps : List Str} {k : Nat} {g : G} (F : L2.Fun K x qual st f fd) (Sc : FnScope N ps (defScope st))
    (hb : ∀ (cdv : Value) (A : Around) (outer : List Env) (s : Shared) (H : Hp) (E : XK), Room k (A.deeper (envOfC qual (defScope st) s.heap.objs.size f cdv)) →
      ∃ t, DSs (cxOf L2.CX0 P w K mg base N qual (defScope st) f cdv A outer s H E).nox L2.E0 (defBody st) t g) : FnOk P w K mg base L2.CX0 (k + 1) f fd ps (spD K ps.length (mirOf g ps.length N.length)) := by
  refine F.ok Sc spD_len fun cdv A outer s H vs Q E hr h => ?_
  obtain ⟨ban, ds, ar, r, hl, hm, hrep, har, hbn, hnd, hk⟩ := h
  obtain ⟨t, ht⟩ := hb cdv A outer s H E hr
  refine ⟨t, ht.pe, ?_⟩
  have hpl : ps.length ≤ N.length := by have := congrArg List.length Sc.pre; rw [List.length_take] at this; omega
  have R := rl_start (N := N) (by omega) hrep har hbn hnd
  unfold mirOf at hm
  rw [if_pos hl, ← hl] at hm
  cases z : g ⟨ds.map .va ++ List.replicate (N.length - ds.length) .no, ar⟩ with
  | none => rw [z] at hm; cases hm
  | some o =>
    rw [z] at hm
    refine ht.td _ _ _ _ H _ o R z ?_
    cases o with
    | rt d ar' =>
      cases hm
      exact fun v H' rt gr rv => hk v H' (fun a o h n => rt.same a o h n) rt.ara rt.ar rv
    | nx s' =>
      cases hm
      intro ow' σ' H' af
      have rt := af.rl.ret
      exact hk .non H' (fun a o h n => rt.same a o h n) rt.ara rt.ar rfl
    | bk s' => cases hm
    | ct s' => cases hm
    | er C ns xs ar' => cases hm
/-- a def that may be called by its name -/
structure Fd (P : Program) (w : World) (K : PySem.W.Frag) (mg : Str → Option Value) (base : Heap) (k : Nat) (x : Str) (n : Nat) (mir : Mir) : Prop where
  ex : ∃ (f : Addr) (fd : FuncData) (ps : List Str), FnOk P w K mg base L2.CX0 k f fd ps (spD K n mir) ∧ mg x = some (.ref f) ∧ PySem.W.keepIn K (.ref f) = true ∧ Binds K fd ps []
theorem Fd.fn {X : Cx} {E : XK} {j k n : Nat} {x : Str} {mir : Mir} (h : Fd X.prog X.w X.K X.mg X.base k x n mir) (hr : Room j X.A) (hk : k ≤ j := by decide) : Fn X L2.CX0 E x n mir := by
  obtain ⟨f, fd, ps, h1, h2, h3, h4⟩ := h.ex
  exact ⟨k, f, fd, ps, h1, hr.mono hk, h2, h3, h4, fun _ _ _ _ _ _ _ h => h.elim⟩
theorem fd_of {x : Str} {st : Stmt} {f : Addr} {fd : FuncData} {N ps : List Str} {k n L : Nat} {g : G} (F : L2.Fun K x x st f fd) (hm : mg x = some (.ref f)) (b : Binds K fd ps []) (Sc : FnScope N ps (defScope st)) (hn : ps.length = n) (hL : N.length = L)
    (hb : ∀ (cdv : Value) (A : Around) (outer : List Env) (s : Shared) (H : Hp) (E : XK), Room k (A.deeper (envOfC x (defScope st) s.heap.objs.size f cdv)) →
      ∃ t, DSs (cxOf L2.CX0 P w K mg base N x (defScope st) f cdv A outer s H E).nox L2.E0 (defBody st) t g) : Fd P w K mg base (k + 1) x n (mirOf g n L) := by
  subst hn hL
  exact ⟨f, fd, ps, fn_ok F Sc hb, hm, F.kp, b⟩
end

section
variable {X : Cx} {E : XK} {q : Bool} {st : Stmt} {rest : List Stmt} {e a b c o tg iter elt value : Expr} {es ifs : List Expr} {pos p p1 apos cpos pos' : Pos}
/-! ### name = [..] on one line -/
theorem ds_setLc {i : Nat} {y : Str} {py : Pos} {scope : Scope} {own : List (Str × Nat)} {w : TI} {g : TG} {tt : TT} {te : TE} {T : Tg} {fi : M (List D)} {ft : M Bool} {fe : M D} (hc : X.calm = true) (hN : X.N.Nodup) (hi : DIt X E q tg iter w fi) (ok : BlkOk X.N X.env.scope scope own)
    (hg : ∀ (s : Shared) (H : Hp) (C : Addr) (cl : List (Str × Addr)) (fp : List Addr), DG (X.blk s H scope (compEnvC scope cl C X.env) fp) tg g T)
    (ht : ∀ (s : Shared) (H : Hp) (C : Addr) (cl : List (Str × Addr)) (fp : List Addr), DTs (X.blk s H scope (compEnvC scope cl C X.env) fp) XF ifs tt ft)
    (he : ∀ (s : Shared) (H : Hp) (C : Addr) (cl : List (Str × Addr)) (fp : List Addr), DE (X.blk s H scope (compEnvC scope cl C X.env) fp) XF true elt te fe)
    (hy : X.N[i]? = some y := by rfl) (hyl : X.env.scope.names.lookup y = some .local := by rfl)
    (hsw : swapsWith (.ListComp elt [⟨tg, iter, ifs, 0⟩] scope pos) (some (.Name y py)) pos'.line X.env = pure true := by exact sw_true rfl rfl rfl (by decide +kernel))
    (hix : (T.ix.all fun j => (own.map (·.2)).contains j) = true := by decide) (hs : ∀ x, foldedSetIterable iter X.env x = pure x := by intro _; rfl) :
    DS X E (.Assign [.Name y py] (.ListComp elt [⟨tg, iter, ifs, 0⟩] scope pos) pos') (tAsg (tLc w g tt te (own.map (·.2))) (gName i)) (gBind (mLst (mLc (own.map (·.2)) T fi ft fe)) (kPut (.nm i))) :=
  ⟨ps_setLc hc hN hy hyl hsw hi.pe ok (fun s H C cl fp => (hg s H C cl fp).pe) (fun s H C cl fp => (ht s H C cl fp).pe) (fun s H C cl fp => (he s H C cl fp).pe) hs,
    asg_td (df_lc (pos := pos) hc hN hi ok hg ht he hix hs).de.td (dg_name (X := X) (pos := pos) hN hy (.inl hyl) (.inr hyl)).td⟩
theorem ds_ownLc {i : Nat} {y : Str} {py : Pos} {scope : Scope} {own : List (Str × Nat)} {w : TI} {g : TG} {tt : TT} {te : TE} {T : Tg} {fi : M (List D)} {ft : M Bool} {fe : M D} (hc : X.calm = true) (hN : X.N.Nodup) (hi : DIt X E q tg iter w fi) (ok : BlkOk X.N X.env.scope scope own)
    (hg : ∀ (s : Shared) (H : Hp) (C : Addr) (cl : List (Str × Addr)) (fp : List Addr), DG (X.blk s H scope (compEnvC scope cl C X.env) fp) tg g T)
    (ht : ∀ (s : Shared) (H : Hp) (C : Addr) (cl : List (Str × Addr)) (fp : List Addr), DTs (X.blk s H scope (compEnvC scope cl C X.env) fp) XF ifs tt ft)
    (he : ∀ (s : Shared) (H : Hp) (C : Addr) (cl : List (Str × Addr)) (fp : List Addr), DE (X.blk s H scope (compEnvC scope cl C X.env) fp) XF true elt te fe)
    (hy : X.N[i]? = some y := by rfl) (hyl : X.env.scope.names.lookup y = some .local := by rfl)
    (hsw : swapsWith (.ListComp elt [⟨tg, iter, ifs, 0⟩] scope pos) (some (.Name y py)) pos'.line X.env = pure true := by exact sw_true rfl rfl rfl (by decide +kernel))
    (hix : (T.ix.all fun j => (own.map (·.2)).contains j) = true := by decide) (hs : ∀ x, foldedSetIterable iter X.env x = pure x := by intro _; rfl) :
    DS X E (.Assign [.Name y py] (.ListComp elt [⟨tg, iter, ifs, 0⟩] scope pos) pos') (tAsg (tLc w g tt te (own.map (·.2))) (gName i)) (gBind (mLc (own.map (·.2)) T fi ft fe) (kOwn i)) :=
  ⟨ps_setLc hc hN hy hyl hsw hi.pe ok (fun s H C cl fp => (hg s H C cl fp).pe) (fun s H C cl fp => (ht s H C cl fp).pe) (fun s H C cl fp => (he s H C cl fp).pe) hs,
    own_td (df_lc (pos := pos) hc hN hi ok hg ht he hix hs).td⟩
/-! ### chains -/
theorem Pst.kp {K : PySem.W.Frag} {fr : Frm} {ow : Ow} {s : S} {σ : L2.St} {H H1 : Hp} {α β : Type} {rel : Rel α β} {Q : β → Hp → Prop} {r : R α} (P : Pst K fr ow s σ H rel Q E r) (k : Keep fr.ars H H1) : Pst K fr ow s σ H1 rel Q E r := by
  cases r with
  | ok a' ar' => exact fun v' H' R' k' r' => P v' H' R' (k.trans k') r'
  | er C ns xs ar' => exact fun dx fs H' R' k' r' => P dx fs H' R' (k.trans k') r'
theorem td_chain {K : PySem.W.Frag} {r r' : R2} {q1 q2 q3 : Bool} {g g' : D → D → Option D} {ta tb tc : TE} {f1 f2 f3 : M D} (hr : V2 K r q1 q2 false g) (hr' : V2 K r' q2 q3 q g') (h1 : TDg K (rD K q1) E ta f1) (h2 : TDg K (rD K q2) E tb f2) (h3 : TDg K (rD K q3) E tc f3) :
    TDg K (rD K q) E (tChain r r' ta tb tc) (mChain g g' f1 f2 f3) := by
  intro fr ow s σ H Q r0 R e P
  refine Pst.bind (t := ta) h1 R e P fun d1 ar1 v1 H1 R1 k1 r1 e1 P1 => ?_
  refine Pst.bind (t := tb) h2 R1 e1 P1 fun d2 ar2 v2 H2 R2 k2 r2 e2 P2 => ?_
  cases z : g d1 d2 with
  | none => simp only [bindM, liftM, z, Option.map] at e2; cases e2
  | some d =>
    refine hr fr ow _ σ H2 d1 d2 v1 v2 _ d R2 (RepQ.kp r1 k2) r2 z fun v H3 ex rv => ?_
    simp only [bindM, liftM, z, Option.map] at e2
    have R3 := R2.ext ex
    have P3 := Pst.kp P2 (Keep.ext ex)
    cases d with
    | bl k =>
      refine ⟨k, rv.bl, ?_⟩
      cases k with
      | true =>
        rw [if_pos rfl]
        refine Pst.bind (t := tc) h3 R3 e2 P3 fun d3 ar3 v3 H4 R4 k4 r4 e4 P4 => ?_
        obtain ⟨d, e5, rfl⟩ := liftM_some e4
        exact hr' fr ow _ σ H4 d2 d3 v2 v3 _ d R4 (RepQ.kp (RepQ.kp r2 (Keep.ext ex)) k4) r4 e5 fun v H5 ex5 rv5 => P4 v H5 (R4.ext ex5) (Keep.ext ex5) rv5
      | false =>
        rw [if_neg Bool.false_ne_true]
        cases e2
        exact P3 (.bl false) H3 R3 Keep.refl (.inl rfl)
    | _ => cases e2
end
end DL
set_option Elab.async false
set_option linter.all false
set_option maxRecDepth 100000
/-! DQ: pairs of stores; attributes of an object that changes; dicts that change -/
namespace DL
open PySem L2 PySem.Spec PyProof.Rows
section
variable {X : Cx} {E : XK} {q : Bool} {st : Stmt} {rest : List Stmt} {e a b c o tg iter elt value : Expr} {es ifs : List Expr} {pos p p1 apos cpos pos' px py pz pt pt2 : Pos}
/-! ### a, b = x, y -/
def put2 (i j : Nat) (d1 d2 : D) : S → Option Out := fun s => (s.put i d1).bind fun s1 => (s1.put j d2).map .nx
def gPar (i j : Nat) (f1 f2 : M D) : G := gBind f1 fun d1 => gBind f2 fun d2 => put2 i j d1 d2
theorem Rl.put2 {K : PySem.W.Frag} {fr : Frm} {ow : Ow} {s s' : S} {σ : L2.St} {H : Hp} {i j : Nat} {d1 d2 : D} {v1 v2 : V} {o : Out} (R : Rl K fr ow s σ H) (h1 : Rep K H (fr.F ow) d1 v1) (h2 : Rep K H (fr.F ow) d2 v2) (e : put2 i j d1 d2 s = some o) :
    ∃ s' ow', o = .nx s' ∧ Af K fr ow H s' ow' ((σ.set i (some v1)).set j (some v2)) H := by
  unfold DL.put2 at e
  cases z : s.put i d1 with
  | none => rw [z] at e; cases e
  | some s1 =>
    rw [z] at e
    obtain ⟨_, rfl⟩ := put_some z
    dsimp only [Option.bind_some] at e
    cases y : S.put { s with sl := s.sl.set i (.va d1) } j d2 with
    | none => rw [y] at e; cases e
    | some s2 =>
      rw [y] at e
      obtain ⟨_, rfl⟩ := put_some y
      cases e
      refine ⟨_, _, rfl, (R.put h1).put (h2.weak fun a z => F_set z), ⟨fun a o h _ => h, fun a _ z => F_set (F_set z)⟩, fun a h => h⟩
theorem ds_par {i j : Nat} {x y : Str} {t u : TE} {f1 f2 : M D} {kt k2} (hc : X.calm = true) (hN : X.N.Nodup) (ha : DE X E true a t f1) (hb : DE X E true b u f2) (hi : X.N[i]? = some x := by rfl) (hj : X.N[j]? = some y := by rfl) (hij : i ≠ j := by decide)
    (hx : X.env.scope.names.lookup x = some .local := by rfl) (hy : X.env.scope.names.lookup y = some .local := by rfl)
    (hw : swappedStores [.Tuple [.Name x px, .Name y py] kt pt] (.Tuple [a, b] k2 pt2) X.env = pure (some [x, y]) := by rfl)
    (hs : swapsWithSole [.Tuple [.Name x px, .Name y py] kt pt] (.Tuple [a, b] k2 pt2) pos.line X.env = pure false := by rfl) (hs1 : starEach [a, b] X.env = (false, eval a X.env) :: starEach [b] X.env := by rfl) (hs2 : starEach [b] X.env = (false, eval b X.env) :: starEach [] X.env := by rfl) :
    DS X E (.Assign [.Tuple [.Name x px, .Name y py] kt pt] (.Tuple [a, b] k2 pt2) pos) (tPar i j (tCons t (tCons u tNil))) (gPar i j f1 f2) := by
  refine ⟨ps_par hc hN hi hj hij hx hy (pa_cons ha.pe (pa_cons hb.pe pa_nil hs2) hs1) hw hs, fun fr ow s σ H Dn o R e P => ?_⟩
  refine tb_bind (t := t) ha.td R e P fun d1 ar v1 H1 R1 k1 r1 e1 P1 => ?_
  refine tb_bind (t := u) hb.td R1 e1 P1 fun d2 ar2 v2 H2 R2 k2 r2 e2 P2 => ?_
  obtain ⟨s', ow', rfl, af⟩ := R2.put2 (s' := s) (r1.cl.kp k2) r2.cl e2
  exact ⟨v1, v2, rfl, P2 ow' _ H2 af⟩
def gPar3 (i j l : Nat) (f1 f2 f3 : M D) : G := gBind f1 fun d1 => gBind f2 fun d2 => gBind f3 fun d3 => fun s => (s.put i d1).bind fun s1 => (s1.put j d2).bind fun s2 => (s2.put l d3).map .nx
theorem ds_par3 {i j l : Nat} {x y z : Str} {t u v : TE} {f1 f2 f3 : M D} {kt k2} (hc : X.calm = true) (hN : X.N.Nodup) (ha : DE X E true a t f1) (hb : DE X E true b u f2) (hd : DE X E true c v f3) (hi : X.N[i]? = some x := by rfl) (hj : X.N[j]? = some y := by rfl) (hl : X.N[l]? = some z := by rfl) (hij : i ≠ j := by decide) (hil : i ≠ l := by decide) (hjl : j ≠ l := by decide)
    (hx : X.env.scope.names.lookup x = some .local := by rfl) (hy : X.env.scope.names.lookup y = some .local := by rfl) (hz : X.env.scope.names.lookup z = some .local := by rfl)
    (hw : swappedStores [.Tuple [.Name x px, .Name y py, .Name z pz] kt pt] (.Tuple [a, b, c] k2 pt2) X.env = pure (some [x, y, z]) := by rfl)
    (hs : swapsWithSole [.Tuple [.Name x px, .Name y py, .Name z pz] kt pt] (.Tuple [a, b, c] k2 pt2) pos.line X.env = pure false := by rfl) (hs1 : starEach [a, b, c] X.env = (false, eval a X.env) :: starEach [b, c] X.env := by rfl) (hs2 : starEach [b, c] X.env = (false, eval b X.env) :: starEach [c] X.env := by rfl) (hs3 : starEach [c] X.env = (false, eval c X.env) :: starEach [] X.env := by rfl) :
    DS X E (.Assign [.Tuple [.Name x px, .Name y py, .Name z pz] kt pt] (.Tuple [a, b, c] k2 pt2) pos) (tPar3 i j l (tCons t (tCons u (tCons v tNil)))) (gPar3 i j l f1 f2 f3) := by
  refine ⟨ps_par3 hc hN hi hj hl hij hil hjl hx hy hz (pa_cons ha.pe (pa_cons hb.pe (pa_cons hd.pe pa_nil hs3) hs2) hs1) hw hs, fun fr ow s σ H Dn o R e P => ?_⟩
  refine tb_bind (t := t) ha.td R e P fun d1 ar v1 H1 R1 k1 r1 e1 P1 => ?_
  refine tb_bind (t := u) hb.td R1 e1 P1 fun d2 ar2 v2 H2 R2 k2 r2 e2 P2 => ?_
  refine tb_bind (t := v) hd.td R2 e2 P2 fun d3 ar3 v3 H3 R3 k3 r3 e3 P3 => ?_
  refine ⟨v1, v2, v3, rfl, ?_⟩
  generalize hs0 : ((((s.wa ar).wa ar2).wa ar3 : S)) = s0 at R3 e3
  cases z : s0.put i d1 with
  | none => rw [z] at e3; cases e3
  | some s1 =>
    rw [z] at e3
    obtain ⟨_, rfl⟩ := put_some z
    dsimp only [Option.bind_some] at e3
    cases y : S.put { s0 with sl := s0.sl.set i (.va d1) } j d2 with
    | none => rw [y] at e3; cases e3
    | some s2 =>
      rw [y] at e3
      obtain ⟨_, rfl⟩ := put_some y
      dsimp only [Option.bind_some] at e3
      cases x : S.put { s0 with sl := (s0.sl.set i (.va d1)).set j (.va d2) } l d3 with
      | none => rw [x] at e3; cases e3
      | some s4 =>
        rw [x] at e3
        obtain ⟨_, rfl⟩ := put_some x
        cases e3
        exact P3 _ _ H3 ⟨((R3.put ((r1.cl.kp k2).kp k3)).put ((r2.cl.kp k3).weak fun a z => F_set z)).put (r3.cl.weak fun a z => F_set (F_set z)), ⟨fun a o h _ => h, fun a _ z => F_set (F_set (F_set z))⟩, fun a h => h⟩
theorem nn {α : Type} {o : Option α} (h : ¬ o ≠ none) : o = none := Classical.not_not.mp h
theorem rep_past {K : PySem.W.Frag} {fr : Frm} {ow : Ow} {H1 H2 : Hp} {p : Addr} {d : D} {v : V} (h : Rep K H1 (fr.F ow) d v) (k : Keep fr.ars H1 H2) (hp : H1 p = none) : Rep K H2 ((fr.plus p).F ow) d v :=
  h.keep fun a o n e => ⟨k a o e fun z => n (.inl (.inr z)), fun z => by
    rcases Frm.plusF.mp z with z | z
    · exact n z
    · rw [z, hp] at e; cases e⟩
theorem repL_past {K : PySem.W.Frag} {fr : Frm} {ow : Ow} {H1 H2 : Hp} {p : Addr} {d : List D} {v : List V} (h : RepL K H1 (fr.F ow) d v) (k : Keep fr.ars H1 H2) (hp : H1 p = none) : RepL K H2 ((fr.plus p).F ow) d v :=
  h.keep fun a o n e => ⟨k a o e fun z => n (.inl (.inr z)), fun z => by
    rcases Frm.plusF.mp z with z | z
    · exact n z
    · rw [z, hp] at e; cases e⟩
/-- the first a value, the second a list that its name alone holds -/
def gParVO (i j : Nat) (f1 : M D) (f2 : M (List D)) : G := gBind f1 fun d1 => gBind f2 fun xs s => (s.put i d1).bind fun s1 => kOwn j xs s1
theorem parVO_gen {K : PySem.W.Frag} {fr : Frm} {ow : Ow} {s : S} {σ : L2.St} {H : Hp} {Dn : Ends} {o : Out} {i j : Nat} {t u : TE} {f1 : M D} {f2 : M (List D)} (h1 : TDg K (rD K true) E t f1) (h2 : TDg K (rF K) E u f2) (R : Rl K fr ow s σ H) (e : gParVO i j f1 f2 s = some o) (P : POut K fr ow H Dn E o) {Q : List V → Hp → Prop}
    (hQ : ∀ v w s' ow' H2, o = .nx s' → Af K fr ow H s' ow' ((σ.set i (some v)).set j (some w)) H2 → Q [v, w] H2) : tCons t (tCons u tNil) σ H Q := by
  refine tb_bind (t := t) h1 R e P fun d1 ar v1 H1 R1 k1 r1 e1 P1 => ?_
  have Rt : Rl K { fr with tr := fun a => H1 a ≠ none } ow (s.wa ar) σ H1 := R1.tr _ fun a h => h
  unfold gBind at e1
  cases z : f2 (s.wa ar) with
  | none => rw [z] at e1; cases e1
  | some r =>
    rw [z] at e1
    cases r with
    | er C ns xs ar2 =>
      obtain rfl : Out.er C ns xs ar2 = o := Option.some.inj e1
      exact h2 fr ow _ σ H1 _ _ R1 z (er_out P1)
    | ok xs ar2 =>
      refine h2 { fr with tr := fun a => H1 a ≠ none } ow _ σ H1 _ _ Rt z fun v H2 R2 k2 r2 => ?_
      obtain ⟨p, vs, rfl, nF, h0, hp, hl, hr, Rp, hf⟩ := r2
      have hf : H1 p = none := nn hf
      dsimp only at e1
      generalize hs0 : ((s.wa ar).wa ar2 : S) = s0 at Rp e1
      have e : (s0.put i d1).bind (fun s1 => kOwn j xs s1) = some o := e1
      cases y : s0.put i d1 with
      | none => rw [y] at e; cases e
      | some s1 =>
        rw [y] at e
        obtain ⟨_, rfl⟩ := put_some y
        have e : kOwn j xs { s0 with sl := s0.sl.set i (.va d1) } = some o := e
        unfold kOwn at e
        split at e
        · rename_i hi
          cases e
          have k2' : Keep fr.ars H1 H2 := k2
          have hg : Grow H1 H2 := Keep.grow (fr := { fr with tr := fun a => H1 a ≠ none }) k2 R2
          have Rq := Rp.put (i := i) (rep_past (fr := fr) r1.cl k2' hf)
          have R3 := (Rq.own (fr := { fr with tr := fun a => H1 a ≠ none }) hi (fun z => nF (F_set z)) h0 hp hl (hr.weak fun a z => z.imp (fun w => F_set w) id)).tr fr.tr fun a h => hg a (R1.trk a h)
          exact hQ v1 (.ref p) _ _ H2 rfl ((Af.ofK R1 k1).trans ⟨R3, ⟨fun a o h n => k2' a o h fun z => n (.inl (.inr z)), fun a ha z => by
            rcases F_own z with z | z
            · exact F_set z
            · rw [z] at ha; exact absurd hf ha⟩, hg⟩)
        · cases e
theorem parVO_td {K : PySem.W.Frag} {i j : Nat} {t u : TE} {f1 : M D} {f2 : M (List D)} (h1 : TDg K (rD K true) E t f1) (h2 : TDg K (rF K) E u f2) : TS1 K E (tPar i j (tCons t (tCons u tNil))) (gParVO i j f1 f2) := by
  intro fr ow s σ H Dn o R e P
  refine parVO_gen (i := i) (j := j) h1 h2 R e P fun v w s' ow' H2 eo af => ⟨v, w, rfl, ?_⟩
  subst eo
  exact P _ _ _ af
/-- the same, with names that inner blocks see: the pair is laid, then taken apart -/
theorem tupVO_td {K : PySem.W.Frag} {i j : Nat} {t u : TE} {f1 : M D} {f2 : M (List D)} (h1 : TDg K (rD K true) E t f1) (h2 : TDg K (rF K) E u f2) : TS1 K E (tAsg (tTup (tCons t (tCons u tNil))) (gTup K 2 (gCons (gName i) (gCons (gName j) L2.gNil)))) (gParVO i j f1 f2) := by
  intro fr ow s σ H Dn o R e P
  show tCons t (tCons u tNil) σ H (fun xs H1 => xs.length ≤ sizeLine ∧ ∀ p, H1 p = none → gTup K 2 (gCons (gName i) (gCons (gName j) L2.gNil)) (.ref p) σ (upd H1 p (.tup xs)) Dn.nx)
  refine parVO_gen (i := i) (j := j) h1 h2 R e P fun v w s' ow' H2 eo af => ⟨(by show 2 ≤ sizeLine; rw [sizeLine_eq]; decide), fun p hp => ?_⟩
  subst eo
  have ex : Ext H2 (upd H2 p (.tup [v, w])) := Ext.upd hp
  refine ⟨p, [v, w], rfl, SqT.of upd_same, rfl, v, [w], rfl, w, [], rfl, rfl, P _ _ _ (af.trans (Af.ofK (af.rl.ext ex) (Keep.ext ex)))⟩
def gParOO (i j : Nat) (f1 f2 : M (List D)) : G := gBind f1 fun xs => gBind f2 fun ys s => if i < s.sl.length ∧ j < s.sl.length then some (.nx { s with sl := (s.sl.set j (.ol ys)).set i (.ol xs) }) else none
theorem parOO_td {K : PySem.W.Frag} {i j : Nat} {t u : TE} {f1 f2 : M (List D)} (hij : i ≠ j) (h1 : TDg K (rF K) E t f1) (h2 : TDg K (rF K) E u f2) : TS1 K E (tPar i j (tCons t (tCons u tNil))) (gParOO i j f1 f2) := by
  intro fr ow s σ H Dn o R e P
  have Rt : Rl K { fr with tr := fun a => H a ≠ none } ow s σ H := R.tr _ fun a h => h
  unfold gParOO gBind at e
  cases z : f1 s with
  | none => rw [z] at e; cases e
  | some r =>
    rw [z] at e
    cases r with
    | er C ns xs ar2 =>
      obtain rfl : Out.er C ns xs ar2 = o := Option.some.inj e
      exact h1 fr ow _ σ H _ _ R z (er_out P)
    | ok xs ar =>
      refine h1 { fr with tr := fun a => H a ≠ none } ow _ σ H _ _ Rt z fun v H1 R1 k1 r1 => ?_
      obtain ⟨p1, vs1, rfl, nF1, h01, hp1, hl1, hr1, Rp1, hf1⟩ := r1
      have hf1 : H p1 = none := nn hf1
      have k1' : Keep fr.ars H H1 := k1
      dsimp only at e
      have Rq : Rl K { fr.plus p1 with tr := fun a => H1 a ≠ none } ow (s.wa ar) σ H1 := Rl.tr (fr := { fr with tr := fun a => H a ≠ none }.plus p1) Rp1 (fun a => H1 a ≠ none) fun a h => h
      cases y : f2 (s.wa ar) with
      | none => rw [y] at e; cases e
      | some r2 =>
        rw [y] at e
        cases r2 with
        | er C ns ys ar2 =>
          obtain rfl : Out.er C ns ys ar2 = o := Option.some.inj e
          exact h2 fr ow _ σ H1 _ _ (R1.tr fr.tr fun a h => (Keep.grow (fr := { fr with tr := fun a => H a ≠ none }) k1 R1) a (R.trk a h)) y (er_out (P.step (Af.ofK (fr := fr) (R1.tr fr.tr fun a h => (Keep.grow (fr := { fr with tr := fun a => H a ≠ none }) k1 R1) a (R.trk a h)) k1')))
        | ok ys ar2 =>
          refine h2 { fr.plus p1 with tr := fun a => H1 a ≠ none } ow _ σ H1 _ _ Rq y fun v H2 R2 k2 r2 => ?_
          obtain ⟨p2, vs2, rfl, nF2, h02, hp2, hl2, hr2, Rp2, hf2⟩ := r2
          have hf2 : H1 p2 = none := nn hf2
          have k2' : Keep fr.ars H1 H2 := k2
          have np1 : p1 ∉ fr.ars := fun z => nF1 (.inl (.inr z))
          have hp1' : H2 p1 = some (.lst vs1) := k2' p1 _ hp1 np1
          have n12 : p1 ≠ p2 := fun z => by rw [← z, hp1] at hf2; cases hf2
          have nF2' : ¬ fr.F ow p2 := fun z => nF2 (Frm.plusF.mpr (.inl z))
          dsimp only at e
          split at e
          · rename_i hi
            cases e
            have hg1 : Grow H H1 := Keep.grow (fr := { fr with tr := fun a => H a ≠ none }) k1 R1
            have hg2 : Grow H1 H2 := Keep.grow (fr := { fr.plus p1 with tr := fun a => H1 a ≠ none }) k2 R2
            have Ra := Rp2.own (fr := { fr.plus p1 with tr := fun a => H1 a ≠ none }) (i := j) hi.2 nF2 h02 hp2 hl2 hr2
            have Rb := (Rl.own (fr := { fr with tr := fun a => H1 a ≠ none }) (i := i) (p := p1) (xs := xs) (vs := vs1) Ra (by simpa using hi.1) (fun z => by
              rcases F_own z with z | z
              · exact nF1 z
              · exact n12 z) h01 hp1' hl1 (hr1.keep fun a u n h => ⟨k2' a u h fun z => n (.inl (.inl (.inr z))), fun z => by
                rcases z with z | z
                · rcases F_own z with z | z
                  · exact n (.inl z)
                  · rw [z, hf2] at h; cases h
                · exact n (.inr z)⟩)).tr fr.tr fun a h => hg2 a (hg1 a (R.trk a h))
            refine ⟨.ref p1, .ref p2, rfl, ?_⟩
            rw [List.set_comm _ _ hij]
            exact P _ _ H2 ⟨Rb, ⟨fun a o h n => k2' a o (k1' a o h fun z => n (.inl (.inr z))) fun z => n (.inl (.inr z)), fun a ha z => by
              rcases F_own z with z | z
              · rcases F_own z with z | z
                · exact z
                · rw [z] at ha; exact absurd hf2 (hg1 _ ha)
              · rw [z] at ha; exact absurd hf1 ha⟩, fun a h => hg2 a (hg1 a h)⟩
          · cases e
theorem ds_parOO {i j : Nat} {x y : Str} {t u : TE} {f1 f2 : M (List D)} {kt k2} (hc : X.calm = true) (hN : X.N.Nodup) (ha : DF X E a t f1) (hb : DF X E b u f2) (hi : X.N[i]? = some x := by rfl) (hj : X.N[j]? = some y := by rfl) (hij : i ≠ j := by decide)
    (hx : X.env.scope.names.lookup x = some .local := by rfl) (hy : X.env.scope.names.lookup y = some .local := by rfl)
    (hw : swappedStores [.Tuple [.Name x px, .Name y py] kt pt] (.Tuple [a, b] k2 pt2) X.env = pure (some [x, y]) := by rfl)
    (hs : swapsWithSole [.Tuple [.Name x px, .Name y py] kt pt] (.Tuple [a, b] k2 pt2) pos.line X.env = pure false := by rfl) (hs1 : starEach [a, b] X.env = (false, eval a X.env) :: starEach [b] X.env := by rfl) (hs2 : starEach [b] X.env = (false, eval b X.env) :: starEach [] X.env := by rfl) :
    DS X E (.Assign [.Tuple [.Name x px, .Name y py] kt pt] (.Tuple [a, b] k2 pt2) pos) (tPar i j (tCons t (tCons u tNil))) (gParOO i j f1 f2) :=
  ⟨ps_par hc hN hi hj hij hx hy (pa_cons ha.pe (pa_cons hb.pe pa_nil hs2) hs1) hw hs, parOO_td hij ha.td hb.td⟩
theorem ds_parVO {i j : Nat} {x y : Str} {t u : TE} {f1 : M D} {f2 : M (List D)} {kt k2} (hc : X.calm = true) (hN : X.N.Nodup) (ha : DE X E true a t f1) (hb : DF X E b u f2) (hi : X.N[i]? = some x := by rfl) (hj : X.N[j]? = some y := by rfl) (hij : i ≠ j := by decide)
    (hx : X.env.scope.names.lookup x = some .local := by rfl) (hy : X.env.scope.names.lookup y = some .local := by rfl)
    (hw : swappedStores [.Tuple [.Name x px, .Name y py] kt pt] (.Tuple [a, b] k2 pt2) X.env = pure (some [x, y]) := by rfl)
    (hs : swapsWithSole [.Tuple [.Name x px, .Name y py] kt pt] (.Tuple [a, b] k2 pt2) pos.line X.env = pure false := by rfl) (hs1 : starEach [a, b] X.env = (false, eval a X.env) :: starEach [b] X.env := by rfl) (hs2 : starEach [b] X.env = (false, eval b X.env) :: starEach [] X.env := by rfl) :
    DS X E (.Assign [.Tuple [.Name x px, .Name y py] kt pt] (.Tuple [a, b] k2 pt2) pos) (tPar i j (tCons t (tCons u tNil))) (gParVO i j f1 f2) := by
  refine ⟨ps_par hc hN hi hj hij hx hy (pa_cons ha.pe (pa_cons hb.pe pa_nil hs2) hs1) hw hs, ?_⟩
  exact parVO_td ha.td hb.td
theorem ds_tupVO {i j : Nat} {x y : Str} {t u : TE} {f1 : M D} {f2 : M (List D)} {kt k2} (hc : X.calm = true) (hN : X.N.Nodup) (ha : DE X E true a t f1) (hb : DF X E b u f2) (hi : X.N[i]? = some x := by rfl) (hj : X.N[j]? = some y := by rfl)
    (hx : Loc X.env.scope x := by first | exact Or.inl rfl | exact Or.inr rfl) (hy : Loc X.env.scope y := by first | exact Or.inl rfl | exact Or.inr rfl)
    (hfx : X.fn x = true ∨ X.env.scope.names.lookup x = some .local := by first | exact .inl rfl | exact .inr rfl) (hfy : X.fn y = true ∨ X.env.scope.names.lookup y = some .local := by first | exact .inl rfl | exact .inr rfl)
    (hs : swapsWithSole [.Tuple [.Name x px, .Name y py] kt pt] (.Tuple [a, b] k2 pt2) pos.line X.env = pure false := by rfl) (hw : swappedStores [.Tuple [.Name x px, .Name y py] kt pt] (.Tuple [a, b] k2 pt2) X.env = pure none := by rfl)
    (h1 : (assignEach [.Tuple [.Name x px, .Name y py] kt pt] X.env).map (·.2) = [assign (.Tuple [.Name x px, .Name y py] kt pt) X.env] := by rfl)
    (hs1 : starEach [a, b] X.env = (false, eval a X.env) :: starEach [b] X.env := by rfl) (hs2 : starEach [b] X.env = (false, eval b X.env) :: starEach [] X.env := by rfl) :
    DS X E (.Assign [.Tuple [.Name x px, .Name y py] kt pt] (.Tuple [a, b] k2 pt2) pos) (tAsg (tTup (tCons t (tCons u tNil))) (gTup X.K 2 (gCons (gName i) (gCons (gName j) L2.gNil)))) (gParVO i j f1 f2) :=
  ⟨ps_asg (pe_tup (pa_cons ha.pe (pa_cons hb.pe pa_nil hs2) hs1)) (pg_tup hc (pgs_cons (pg_name hN hi hx hfx) (pgs_cons (pg_name hN hj hy hfy) pgs_nil))) hs hw h1, tupVO_td ha.td hb.td⟩
end
end DL
set_option Elab.async false
set_option linter.all false
set_option maxRecDepth 100000
/-! DR: objects that change and are shared; dicts -/
namespace DL
open PySem L2 PySem.Spec PyProof.Rows
/-! ### dicts as plain data -/
def putD {κ : Type} [DecidableEq κ] (ks : List κ) (xs : List D) (k : κ) (d : D) : List κ × List D :=
  if kHas ks k = true then (ks, List.zipWith (fun j x => if j = k then d else x) ks xs) else (ks ++ [k], xs ++ [d])
theorem rep_put {κ : Type} [DecidableEq κ] {K : PySem.W.Frag} {H : Hp} {B : Addr → Prop} {kvs : List (κ × V)} {ks : List κ} {xs : List D} {k : κ} {d : D} {v : V} (e : kvs.map (·.1) = ks) (h : RepL K H B xs (kvs.map (·.2))) (hd : Rep K H B d v) :
    (putK kvs k v).map (·.1) = (putD ks xs k d).1 ∧ RepL K H B (putD ks xs k d).2 ((putK kvs k v).map (·.2)) := by
  have e0 : (kvs.any fun kv => decide (kv.1 = k)) = kHas ks k := by
    subst e
    unfold kHas
    rw [List.any_map]
    rfl
  unfold putK putD
  rw [e0]
  by_cases hk : kHas ks k = true
  · rw [if_pos hk, if_pos hk]
    clear hk e0
    induction kvs generalizing ks xs with
    | nil =>
      subst e
      cases xs with
      | nil => exact ⟨rfl, rfl⟩
      | cons x xs => obtain ⟨_, _, z, _⟩ := h; cases z
    | cons p kvs ih =>
      subst e
      cases xs with
      | nil => cases h
      | cons x xs =>
        obtain ⟨v', r, e, h1, h2⟩ := h
        have e1 : p.2 = v' := (List.cons.inj e).1
        have e2 : kvs.map (·.2) = r := (List.cons.inj e).2
        subst e1 e2
        obtain ⟨i1, i2⟩ := ih rfl h2
        refine ⟨?_, ?_⟩
        · rw [List.map_cons, List.map_cons, i1]
          show _ = p.1 :: kvs.map (·.1)
          by_cases hp : p.1 = k
          · rw [if_pos hp]
          · rw [if_neg hp]
        · rw [List.map_cons, List.map_cons, List.map_cons, List.zipWith_cons_cons]
          refine RepL.cons ?_ i2
          by_cases hp : p.1 = k
          · rw [if_pos hp, if_pos hp]; exact hd
          · rw [if_neg hp, if_neg hp]; exact h1
  · rw [if_neg hk, if_neg hk]
    refine ⟨by rw [List.map_append, e]; rfl, ?_⟩
    rw [List.map_append]
    exact h.app (RepL.cons hd RepL.nil)
def mergeD {κ : Type} [DecidableEq κ] : List (κ × D) → List κ × List D → List κ × List D
  | [], p => p
  | (k, d) :: r, p => mergeD r (putD p.1 p.2 k d)
theorem rep_merge {K : PySem.W.Frag} {H : Hp} {B : Addr → Prop} : ∀ {ds : List (Key × D)} {more kvs : List (Key × V)} {ks : List Key} {xs : List D}, kvs.map (·.1) = ks → RepL K H B xs (kvs.map (·.2)) → more.map (·.1) = ds.map (·.1) → RepL K H B (ds.map (·.2)) (more.map (·.2)) →
    (mergeK kvs more).map (·.1) = (mergeD ds (ks, xs)).1 ∧ RepL K H B (mergeD ds (ks, xs)).2 ((mergeK kvs more).map (·.2))
  | [], more, kvs, ks, xs, e, h, e1, h1 => by
    cases more with
    | nil => exact ⟨e, h⟩
    | cons p r => cases e1
  | (k, d) :: ds, more, kvs, ks, xs, e, h, e1, h1 => by
    cases more with
    | nil => cases e1
    | cons p r =>
      obtain ⟨v, w, e2, h2, h3⟩ := h1
      have e3 : p.2 = v := (List.cons.inj e2).1
      have e4 : r.map (·.2) = w := (List.cons.inj e2).2
      have e5 : p.1 = k := (List.cons.inj e1).1
      subst e3 e4 e5
      have q := rep_put (k := p.1) e h h2
      exact rep_merge (ds := ds) (more := r) (kvs := putK kvs p.1 p.2) q.1 q.2 (List.cons.inj e1).2 h3
theorem mergeD_len {κ : Type} [DecidableEq κ] : ∀ {ds : List (κ × D)} {p : List κ × List D}, (mergeD ds p).2.length ≤ p.2.length + ds.length
  | [], p => Nat.le_add_right _ _
  | (k, d) :: ds, p => by
    have h := mergeD_len (ds := ds) (p := putD p.1 p.2 k d)
    have h2 : (putD p.1 p.2 k d).2.length ≤ p.2.length + 1 := by
      unfold putD
      split
      · rw [List.length_zipWith]; omega
      · rw [List.length_append]; exact Nat.le_refl _
    show (mergeD ds (putD p.1 p.2 k d)).2.length ≤ _
    rw [List.length_cons]; omega

/-! ### what is shared and changes -/
def arSet (ar : Ar) (a : Addr) (m : MO) : Ar := ar.map fun p => if p.1 = a then (a, m) else p
theorem arSet_keys {ar : Ar} {a : Addr} {m : MO} : (arSet ar a m).map (·.1) = ar.map (·.1) := by
  unfold arSet
  rw [List.map_map]
  congr 1
  funext p
  show (if p.1 = a then (a, m) else p).1 = p.1
  split
  · rename_i h; exact h.symm
  · rfl
theorem Rl.updA {K : PySem.W.Frag} {fr : Frm} {ow : Ow} {s : S} {σ : L2.St} {H : Hp} {a : Addr} {m m' : MO} {o : HO} (R : Rl K fr ow s σ H) (hl : s.ar.lookup a = some m) (hm : MOk K (upd H a o) (fr.F ow) a m') : Rl K fr ow (s.wa (arSet s.ar a m')) σ (upd H a o) ∧ Keep fr.ars H (upd H a o) := by
  have ha : a ∈ fr.ars := by rw [← R.ara]; exact List.mem_map_of_mem (ar_at hl)
  have k : Keep fr.ars H (upd H a o) := fun b u h n => by
    rw [upd_ne fun z => n (by rw [z]; exact ha)]
    exact h
  refine ⟨R.after k (by rw [arSet_keys]; exact R.ara) fun p hp => ?_, k⟩
  obtain ⟨p0, hp0, rfl⟩ := List.mem_map.mp hp
  show MOk K _ _ (if p0.1 = a then (a, m') else p0).1 (if p0.1 = a then (a, m') else p0).2
  by_cases hn : p0.1 = a
  · rw [if_pos hn]; exact hm
  · rw [if_neg hn]
    refine (R.ar p0 hp0).keep (keepF k) fun u hu => ?_
    rw [upd_ne hn]
    exact hu
section
variable {X : Cx} {E : XK} {q : Bool} {st : Stmt} {rest : List Stmt} {e a b c o i tg iter elt value : Expr} {es ifs : List Expr} {pos p p1 apos cpos pos' : Pos}
def kIxA (d k : D) (s : S) : Option (R D) := match d with
  | .adr a => match s.ar.lookup a with
    | some (.dk ks xs) => k.key.bind fun k => (kvAt ks xs k).map fun d => .ok d s.ar
    | _ => none
  | _ => none
def mIxA (f fi : M D) : M D := bindM f fun d => bindM fi fun k s => kIxA d k s
theorem ar_lookD {s : S} {a : Addr} {ks : List Key} {xs : List D} {K : PySem.W.Frag} {fr : Frm} {ow : Ow} {σ : L2.St} {H : Hp} (R : Rl K fr ow s σ H) (h : s.ar.lookup a = some (.dk ks xs)) : xs.length ≤ sizeLine ∧ ∃ kvs, H a = some (.dK kvs) ∧ kvs.map (·.1) = ks ∧ RepL K H (fr.F ow) xs (kvs.map (·.2)) := R.ar _ (ar_at h)
/-- d[k], d shared -/
theorem de_ixA {f fi : M D} (hu : X.A.units + 64 < cLine) (ho : DE X E false o t f) (hi : DE X E false i u fi) (hs : NoSl i := by intro _ _; rfl) : DE X E q (.Subscript o i pos) (tDGet t u) (mIxA f fi) := by
  refine ⟨pe_dget (by omega) ho.pe hi.pe hs, fun fr ow s σ H Q r R e P => ?_⟩
  refine Pst.bind (t := t) ho.td R e P fun d ar v H1 R1 k1 r1 e1 P1 => ?_
  refine Pst.bind (t := u) hi.td R1 e1 P1 fun k ar2 w H2 R2 k2 r2 e2 P2 => ?_
  unfold kIxA at e2
  cases d with
  | adr a =>
    dsimp only at e2
    cases z : List.lookup a ar2 with
    | none => rw [z] at e2; cases e2
    | some mo =>
      rw [z] at e2
      cases mo with
      | dk ks xs =>
        obtain ⟨_, kvs, hp, hk, hr⟩ := ar_lookD R2 z
        dsimp only at e2
        cases y : k.key with
        | none => rw [y] at e2; cases e2
        | some kk =>
          rw [y] at e2
          dsimp only [Option.bind_some] at e2
          have kv := kvAt_val kk hk hr
          cases x : kvAt ks xs kk with
          | none => rw [x] at e2; cases e2
          | some dd =>
            rw [x] at e2 kv
            cases e2
            obtain ⟨vv, hv, rv⟩ := kv
            rw [key_v r2 y]
            refine ⟨a, vv, r1.adr, .inl ⟨kvs, kk, .inl hp, rfl, hv.symm⟩, P2 vv H2 R2 Keep.refl (.inl rv)⟩
      | _ => cases e2
  | _ => cases e2
/-- d[k] = v, d shared -/
def kPutA (d k v : D) (s : S) : Option Out := match d with
  | .adr a => match s.ar.lookup a with
    | some (.dk ks xs) => k.key.bind fun k => if xs.length < LIM then some (.nx (s.wa (arSet s.ar a (.dk (putD ks xs k v).1 (putD ks xs k v).2)))) else none
    | _ => none
  | _ => none
def gPutA (fv f fi : M D) : G := gBind fv fun v => gBind f fun d => gBind fi fun k => kPutA d k v
theorem putD_len {κ : Type} [DecidableEq κ] {ks : List κ} {xs : List D} {k : κ} {d : D} : (putD ks xs k d).2.length ≤ xs.length + 1 := mergeD_len (ds := [(k, d)]) (p := (ks, xs))
theorem ds_putA {tv to ti : TE} {fv f fi : M D} (hu : X.A.units + 64 < cLine) (ho : DE X E false o to f) (hi : DE X E false i ti fi) (hv : DE X E true value tv fv) (hs : swapsWith value (some (.Subscript o i pos')) pos.line X.env = pure false := by rfl) :
    DS X E (.Assign [.Subscript o i pos'] value pos) (sDPut to ti tv) (gPutA fv f fi) := by
  refine ⟨ps_dput (by omega) ho.pe hi.pe hv.pe hs, fun fr ow s σ H Dn out R e P => ?_⟩
  refine tb_bind (t := tv) hv.td R e P fun v arv vv Hv Rv kv rv ev Pv => ?_
  refine tb_bind (t := to) ho.td Rv ev Pv fun d ar dv H1 R1 k1 r1 e1 P1 => ?_
  refine tb_bind (t := ti) hi.td R1 e1 P1 fun k ar2 w H2 R2 k2 r2 e2 P2 => ?_
  unfold kPutA at e2
  cases d with
  | adr a =>
    dsimp only at e2
    cases z : List.lookup a ar2 with
    | none => rw [z] at e2; cases e2
    | some mo =>
      rw [z] at e2
      cases mo with
      | dk ks xs =>
        obtain ⟨hl, kvs, hp, hk, hr⟩ := ar_lookD R2 z
        dsimp only at e2
        cases y : k.key with
        | none => rw [y] at e2; cases e2
        | some kk =>
          rw [y] at e2
          dsimp only [Option.bind_some] at e2
          split at e2
          · rename_i hlim
            cases e2
            have hlen : kvs.length = xs.length := by have := hr.len; simpa using this
            have hz : xs.length < sizeLine := Nat.lt_of_lt_of_le hlim (by rw [sizeLine_eq]; decide)
            rw [key_v r2 y]
            have ha : a ∈ fr.ars := by rw [← R2.ara]; exact List.mem_map_of_mem (ar_at z)
            have rp := rep_put (k := kk) hk hr ((rv.cl.kp k1).kp k2)
            have kk2 : ∀ b u, ¬ fr.F ow b → H2 b = some u → upd H2 a (.dK (putK kvs kk vv)) b = some u ∧ ¬ fr.F ow b := fun b u n h => ⟨by
              rw [upd_ne fun z => n (by rw [z]; exact .inl (.inr ha))]
              exact h, n⟩
            obtain ⟨Rn, kn⟩ := R2.updA (m' := .dk (putD ks xs kk v).1 (putD ks xs kk v).2) z ⟨by have := putD_len (ks := ks) (xs := xs) (k := kk) (d := v); omega, _, upd_same, rp.1, rp.2.keep kk2⟩
            exact ⟨a, _, r1.adr, .inl ⟨kvs, kk, hp, rfl, by rw [hlen]; exact hz, rfl⟩, P2 ow σ _ (Af.ofK Rn kn)⟩
          · cases e2
      | _ => cases e2
  | _ => cases e2
/-! ### e.f = value, e an object that is being made -/
def putFD (f : Str) (d : D) : List Str → List D → List Str × List D
  | g :: ns, x :: xs => if g = f then (g :: ns, d :: xs) else (g :: (putFD f d ns xs).1, x :: (putFD f d ns xs).2)
  | _, _ => ([f], [d])
theorem rep_putF {K : PySem.W.Frag} {H : Hp} {B : Addr → Prop} {f : Str} {d : D} {v : V} (hd : Rep K H B d v) : ∀ {fs : List (Str × V)} {ns : List Str} {xs : List D}, fs.map (·.1) = ns → RepL K H B xs (fs.map (·.2)) →
    (putF f v fs).map (·.1) = (putFD f d ns xs).1 ∧ RepL K H B (putFD f d ns xs).2 ((putF f v fs).map (·.2))
  | [], ns, xs, e, h => by
    subst e
    cases xs with
    | nil => exact ⟨rfl, RepL.cons hd RepL.nil⟩
    | cons x xs => obtain ⟨_, _, z, _⟩ := h; cases z
  | (g, w) :: fs, ns, xs, e, h => by
    subst e
    cases xs with
    | nil => cases h
    | cons x xs =>
      obtain ⟨v', r, e, h1, h2⟩ := h
      have e1 : w = v' := (List.cons.inj e).1
      have e2 : fs.map (·.2) = r := (List.cons.inj e).2
      subst e1 e2
      have ih := rep_putF (f := f) hd (fs := fs) rfl h2
      show ((if g = f then (g, v) :: fs else (g, w) :: putF f v fs).map (·.1)) = (if g = f then (g :: fs.map (·.1), d :: xs) else (g :: (putFD f d (fs.map (·.1)) xs).1, x :: (putFD f d (fs.map (·.1)) xs).2)).1 ∧ RepL K H B (if g = f then (g :: fs.map (·.1), d :: xs) else (g :: (putFD f d (fs.map (·.1)) xs).1, x :: (putFD f d (fs.map (·.1)) xs).2)).2 ((if g = f then (g, v) :: fs else (g, w) :: putF f v fs).map (·.2))
      by_cases hg : g = f
      · rw [if_pos hg, if_pos hg]
        exact ⟨rfl, RepL.cons hd h2⟩
      · rw [if_neg hg, if_neg hg]
        exact ⟨by rw [List.map_cons, ih.1], RepL.cons h1 ih.2⟩
def kFld (C : Addr) (f : Str) (v d : D) (s : S) : Option Out := match d with
  | .adr a => match s.ar.lookup a with
    | some (.ins C' ns xs) => if C' = C ∧ xs.length < 1000 then some (.nx (s.wa (arSet s.ar a (.ins C (putFD f v ns xs).1 (putFD f v ns xs).2)))) else none
    | _ => none
  | _ => none
def gFld (C : Addr) (f : Str) (fv fo : M D) : G := gBind fv fun v => gBind fo fun d => kFld C f v d
theorem ds_fld {C : Addr} {f : Str} {tv to : TE} {fv fo : M D} (cl : Cls X.K C) (na : NoAttr X.K C f) (ho : DE X E false o to fo) (hv : DE X E true value tv fv) (hs : swapsWith value (some (.Attribute o f pos')) pos.line X.env = pure false := by rfl) :
    DS X E (.Assign [.Attribute o f pos'] value pos) (sFld X.K to tv f) (gFld C f fv fo) := by
  refine ⟨ps_fld ho.pe hv.pe hs, fun fr ow s σ H Dn out R e P => ?_⟩
  refine tb_bind (t := tv) hv.td R e P fun v arv vv Hv Rv kv rv ev Pv => ?_
  refine tb_bind (t := to) ho.td Rv ev Pv fun d ar dv H1 R1 k1 r1 e1 P1 => ?_
  unfold kFld at e1
  cases d with
  | adr a =>
    dsimp only at e1
    cases z : List.lookup a ar with
    | none => rw [z] at e1; cases e1
    | some mo =>
      rw [z] at e1
      cases mo with
      | ins C' ns xs =>
        dsimp only at e1
        split at e1
        · rename_i hC
          cases e1
          obtain ⟨rfl, hlen⟩ := hC
          obtain ⟨dx, fs, hp, hn, hr⟩ := R1.ar _ (ar_at z)
          have ha : a ∈ fr.ars := by rw [← R1.ara]; exact List.mem_map_of_mem (ar_at z)
          have rp := rep_putF (f := f) (rv.cl.kp k1) hn hr
          have kk2 : ∀ b u, ¬ fr.F ow b → H1 b = some u → upd H1 a (.ins C' dx (putF f vv fs)) b = some u ∧ ¬ fr.F ow b := fun b u n h => ⟨by
            rw [upd_ne fun z => n (by rw [z]; exact .inl (.inr ha))]
            exact h, n⟩
          obtain ⟨Rn, kn⟩ := R1.updA (m' := .ins C' (putFD f v ns xs).1 (putFD f v ns xs).2) z ⟨dx, _, upd_same, rp.1, rp.2.keep kk2⟩
          have hfl : fs.length = xs.length := by have := hr.len; simpa using this
          exact ⟨a, C', dx, fs, r1.adr, hp, cl, na, by rw [hfl]; exact hlen, P1 ow σ _ (Af.ofK Rn kn)⟩
        · cases e1
      | _ => cases e1
  | _ => cases e1
/-! ### displays of dicts -/
def rP (K : PySem.W.Frag) : Rel (List (Key × D)) (List (V × V)) := fun fr ow _ _ H ds ps => ∃ kvs : List (Key × V), ps = kvs.map (fun kv => (kV kv.1, kv.2)) ∧ kvs.map (·.1) = ds.map (·.1) ∧ RepL K H (fr.F ow) (ds.map (·.2)) (kvs.map (·.2))
structure DPs (X : Cx) (E : XK) (pos : Pos) (keys : List (Option Expr)) (values : List Expr) (trs : List (TE × TE)) (f : M (List (Key × D))) : Prop where
  pe : PPs X pos keys values trs
  td : TDg X.K (rP X.K) E (tPairs trs) f
def fPNil : M (List (Key × D)) := retM []
def fPCons (fk fv : M D) (r : M (List (Key × D))) : M (List (Key × D)) := bindM fk fun k => bindM fv fun v => bindM r fun r => liftM (k.key.map fun k => (k, v) :: r)
theorem dps_nil : DPs X E pos [] [] [] fPNil := ⟨pps_nil, fun fr ow s σ H Q r R e P => by
  cases e
  exact P [] H R Keep.refl ⟨[], rfl, rfl, rfl⟩⟩
theorem dps_cons {k v : Expr} {ks : List (Option Expr)} {vs : List Expr} {tk tv : TE} {trs : List (TE × TE)} {fk fv : M D} {r : M (List (Key × D))} (hk : DE X E false k tk fk) (hv : DE X E true v tv fv) (hr : DPs X E pos ks vs trs r) : DPs X E pos (some k :: ks) (v :: vs) ((tk, tv) :: trs) (fPCons fk fv r) := by
  refine ⟨pps_cons hk.pe hv.pe hr.pe, fun fr ow s σ H Q r0 R e P => ?_⟩
  refine Pst.bind (t := tk) hk.td R e P fun k ar kv H1 R1 k1 r1 e1 P1 => ?_
  refine Pst.bind (t := tv) hv.td R1 e1 P1 fun d ar2 dv H2 R2 k2 r2 e2 P2 => ?_
  refine Pst.bind (t := tPairs trs) hr.td R2 e2 P2 fun ds ar3 ps H3 R3 k3 r3 e3 P3 => ?_
  obtain ⟨x, e4, rfl⟩ := liftM_some e3
  cases y : k.key with
  | none => rw [y] at e4; cases e4
  | some kk =>
    rw [y] at e4
    cases e4
    obtain ⟨kvs, rfl, h1, h2⟩ := r3
    exact P3 _ H3 R3 Keep.refl ⟨(kk, dv) :: kvs, by rw [key_v r1 y]; rfl, by rw [List.map_cons, List.map_cons, h1], RepL.cons (r2.cl.kp k3) h2⟩
def mDisp (f : M (List (Key × D))) : M D := bindM f fun ds => liftM (if ds.length ≤ 15 then some (.dk (mergeD ds ([], [])).1 (mergeD ds ([], [])).2) else none)
theorem de_disp {keys : List (Option Expr)} {values : List Expr} {trs : List (TE × TE)} {f : M (List (Key × D))} (h : DPs X E pos keys values trs f) (hall : keys.all (·.isSome) = true := by rfl) (hl : keys.length = values.length := by rfl) (h0 : keys ≠ [] := by intro h; cases h)
    (h15 : keys.length ≤ 15 := by decide) : DE X E q (.Dict keys values pos) (tDisp trs) (mDisp f) := by
  refine ⟨pe_disp h.pe hall hl h0 h15, fun fr ow s σ H Q r R e P p hp => ?_⟩
  have hnF : ¬ fr.F ow p := R.fresh hp
  have h00 : fr.H0 p = none := R.fresh0 hp
  have Rp := R.plus (o := .dK []) hp
  unfold mDisp bindM at e
  cases z : f s with
  | none => rw [z] at e; cases e
  | some r1 =>
    rw [z] at e
    cases r1 with
    | er C ns xs ar =>
      obtain rfl : DL.R.er C ns xs ar = r := Option.some.inj e
      exact h.td (fr.plus p) ow s σ _ _ _ Rp z fun dx fs H' R' k' hd hn hr => P dx fs H' R'.less ((Keep.ext (Ext.upd hp)).trans k') hd hn (hr.weak fun a z => Frm.plusF.mpr (.inl z))
    | ok ds ar =>
      refine h.td (fr.plus p) ow s σ _ _ _ Rp z fun ps H2 R2 k2 r2 => ?_
      obtain ⟨kvs, rfl, h1, h2⟩ := r2
      obtain ⟨x, e4, rfl⟩ := liftM_some e
      split at e4
      · rename_i hl15
        cases e4
        have hk15 : kvs.length ≤ 15 := by
          have := congrArg List.length h1
          simp only [List.length_map] at this
          omega
        have hp2 : H2 p = some (.dK []) := k2 p _ upd_same fun z => hnF (.inl (.inr z))
        refine ⟨hp2, kvs, rfl, hk15, ?_⟩
        have na : p ∉ fr.ars := fun z => hnF (.inl (.inr z))
        have Rn := R2.updB (p := p) (o := .dK (mergeK [] kvs)) (.inr rfl) h00 na
        have rm := rep_merge (kvs := []) (ks := []) (xs := []) rfl RepL.nil h1 (h2.updB (p := p) (o := .dK (mergeK [] kvs)) (Frm.plusF.mpr (.inr rfl)))
        have kk : Keep fr.ars H (upd H2 p (.dK (mergeK [] kvs))) := fun b u hb n => by
          have hbp : b ≠ p := fun z => by rw [z, hp] at hb; cases hb
          rw [upd_ne hbp]
          exact k2 b u (by rw [upd_ne hbp]; exact hb) n
        refine P _ _ Rn.less kk (.inl ⟨p, _, rfl, ?_, ⟨hnF, upd_same⟩, rm.1, rm.2.weak fun a z => Frm.plusF.mpr (.inl z)⟩)
        have := mergeD_len (ds := ds) (p := (([], []) : List Key × List D))
        have h3 : (mergeD ds (([], []) : List Key × List D)).2.length ≤ 0 + ds.length := this
        rw [sizeLine_eq]; omega
      · cases e4
/-! ### dict(pairs), keys ints and texts -/
def pairsOf : List D → Option (List (Key × D))
  | [] => some []
  | .tup [k, x] :: r => match k.key, pairsOf r with
    | some k, some ps => some ((k, x) :: ps)
    | _, _ => none
  | _ :: _ => none
def gDict : List D → Option D
  | [.lst ds] => (pairsOf ds).bind fun ps => if ps.length ≤ LIM then some (.dk (mergeD ps ([], [])).1 (mergeD ps ([], [])).2) else none
  | _ => none
theorem pairs_rep {K : PySem.W.Frag} {H : Hp} {B : Addr → Prop} : ∀ {ds : List D} {vs : List V} {ps : List (Key × D)}, RepL K H B ds vs → pairsOf ds = some ps →
    ∃ (as : List Addr) (kvs : List (Key × V)), vs = as.map V.ref ∧ Paired (fun p kv => SqT K H p [kV kv.1, kv.2]) as kvs ∧ kvs.map (·.1) = ps.map (·.1) ∧ RepL K H B (ps.map (·.2)) (kvs.map (·.2))
  | [], vs, ps, h, e => by
    cases e
    cases h
    exact ⟨[], [], rfl, .nil, rfl, rfl⟩
  | d :: ds, vs, ps, h, e => by
    obtain ⟨v, r, rfl, h1, h2⟩ := h
    cases d with
    | tup zs =>
      match zs, e, h1 with
      | [k, x], e, h1 =>
        unfold pairsOf at e
        cases z : k.key with
        | none => rw [z] at e; cases e
        | some kk =>
          cases z2 : pairsOf ds with
          | none => rw [z, z2] at e; cases e
          | some ps' =>
            rw [z, z2] at e
            cases e
            obtain ⟨as, kvs, rfl, q1, q2, q3⟩ := pairs_rep h2 z2
            obtain ⟨a, ws, rfl, _, ⟨_, ha⟩, hr⟩ := h1
            obtain ⟨w1, r1, rfl, hk, hr1⟩ := hr
            obtain ⟨w2, r2, rfl, hx, hr2⟩ := hr1
            cases hr2
            have ek : w1 = kV kk := by
              cases k with
              | int i => cases z; exact hk
              | str i => cases z; exact hk
              | _ => cases z
            subst ek
            exact ⟨a :: as, (kk, w2) :: kvs, rfl, .cons (SqT.of ha) q1, by rw [List.map_cons, List.map_cons, q2], RepL.cons hx q3⟩
      | [], e, _ => cases e
      | [_], e, _ => cases e
      | _ :: _ :: _ :: _, e, _ => cases e
    | _ => cases e
abbrev rDictP (K : PySem.W.Frag) : List V → Hp → VK → Prop := fun xs H Q => ∃ (a : Addr) (ps : List Addr) (kvs : List (Key × V)), xs = [.ref a] ∧ SqL K H a (ps.map V.ref) ∧ Paired (fun p kv => SqT K H p [kV kv.1, kv.2]) ps kvs ∧
    ∀ p, H p = none → Q (.ref p) (upd H p (.dK (mergeK [] kvs)))
theorem v_dict {K : PySem.W.Frag} : VN K (rDictP K) true q gDict := by
  intro fr ow s σ H ds vs Q d R r e k
  unfold gDict at e
  split at e
  · rename_i zs
    obtain ⟨v, rfl, h1⟩ := RepQL.one r
    cases z : pairsOf zs with
    | none => rw [z] at e; cases e
    | some ps =>
      rw [z] at e
      dsimp only [Option.bind_some] at e
      split at e
      · rename_i hlim
        cases e
        obtain ⟨a, ws, rfl, hc, hl, ha, hr⟩ := h1.lst
        obtain ⟨as, kvs, rfl, q1, q2, q3⟩ := pairs_rep hr z
        refine ⟨a, as, kvs, rfl, SqL.of ha, q1, fun p hp => ?_⟩
        have rm := rep_merge (kvs := []) (ks := []) (xs := []) rfl RepL.nil q2 (q3.new (p := p) (o := .dK (mergeK [] kvs)) hp)
        refine k _ _ (Ext.upd hp) (.inl ⟨p, _, rfl, ?_, ⟨R.fresh hp, upd_same⟩, rm.1, rm.2.weak fun a z => .inl z⟩)
        have h3 : (mergeD ps (([], []) : List Key × List D)).2.length ≤ 0 + ps.length := mergeD_len
        exact lim_line (by omega)
      · cases e
  · cases e
end
end DL
set_option Elab.async false
set_option linter.all false
set_option maxRecDepth 100000
/-! DU: dicts with keys that are tuples, conversions of ranges, more of tuples -/
namespace DL
open PySem L2 PySem.Spec PyProof.Rows
/-! ### dict(pairs), keys tuples of ints and texts -/
def mergeT (kvs more : List (List Key × V)) : List (List Key × V) := more.foldl (fun acc kv => putK acc kv.1 kv.2) kvs
theorem KT_merge {H : Hp} : ∀ {more : List (List Key × V)} {rs : List (List Key × Addr × Value)} {kvs : List (List Key × V)} {ys : List (List Key × Addr × Value)}, KT H more rs → KT H kvs ys → KT H (mergeT kvs more) (storedAllH ys rs) := by
  intro more rs kvs ys r
  unfold KT at r
  induction r generalizing kvs ys with
  | nil => intro q; exact q
  | @cons p q ps qs h t ih =>
    intro r0
    have e : KT H (putK kvs p.1 p.2) (storedH ys q.1 q.2.1 q.2.2) := by
      have := KT.put r0 p.1 h.2.1 h.2.2
      rw [← h.1]; exact this
    exact ih e
theorem length_mergeT : ∀ (more kvs : List (List Key × V)), (mergeT kvs more).length ≤ kvs.length + more.length
  | [], kvs => Nat.le_refl _
  | p :: r, kvs => by
    have h1 := length_mergeT r (putK kvs p.1 p.2)
    have h2 := length_putK kvs p.1 p.2
    show (mergeT (putK kvs p.1 p.2) r).length ≤ _
    rw [List.length_cons]; omega
abbrev PrT (K : PySem.W.Frag) (H : Hp) : List Addr → List (List Key × V × Addr) → Prop := Paired fun p x => SqT K H p [.ref x.2.2, x.2.1] ∧ H x.2.2 = some (.tup (x.1.map kV))
theorem pairs_ofT {X : Cx} {pins : List (Addr × Obj)} {σ : L2.St} {H : Hp} {s : Shared} (I : Inv X pins σ H s) : ∀ {ps : List Addr} {kbs : List (List Key × V × Addr)}, PrT X.K H ps kbs →
    ∃ prs : List (List Key × Addr × Value), KT H (kbs.map fun x => (x.1, x.2.1)) prs ∧ prs.length = ps.length ∧ ∀ (j : Nat) (q : List Key × Addr × Value), prs[j]? = some q → ∃ b : Addr, ps[j]? = some b ∧ IsTup s.heap b #[.ref q.2.1, q.2.2]
  | _, _, .nil => ⟨[], .nil, rfl, fun j q e => by simp at e⟩
  | _, _, .cons (a := p) (b := x) h t => by
    obtain ⟨prs, r, hl, hp⟩ := pairs_ofT I t
    obtain ⟨its, rv, ht, _⟩ := I.tuple h.1
    obtain ⟨u, y, ei, ru, ry⟩ := vals2 rv
    subst ei
    obtain rfl : u = Value.ref x.2.2 := ru
    refine ⟨(x.1, x.2.2, y) :: prs, .cons ⟨rfl, h.2, ry⟩ r, by rw [List.length_cons, List.length_cons, hl], fun j q e => ?_⟩
    cases j with
    | zero =>
      have e' : (x.1, x.2.2, y) = q := Option.some.inj e
      subst e'
      exact ⟨p, rfl, ht⟩
    | succ j =>
      obtain ⟨b, e1, e2⟩ := hp j q (by simpa using e)
      exact ⟨b, by simpa using e1, e2⟩
abbrev rDictT (K : PySem.W.Frag) : List V → Hp → VK → Prop := fun xs H Q => ∃ (a : Addr) (ps : List Addr) (kbs : List (List Key × V × Addr)), xs = [.ref a] ∧ SqL K H a (ps.map V.ref) ∧ PrT K H ps kbs ∧
    ∀ p, H p = none → Q (.ref p) (upd H p (.dT (mergeT [] (kbs.map fun x => (x.1, x.2.1)))))
theorem call_dictT {X : Cx} (hcalm : X.calm = true) (hu : X.A.units + 64 < cLine) : CallR X (.type "dict") (rDictT X.K) := by
  intro pins s σ H xs us Q I r q
  obtain ⟨a, ps, kbs, ex, hq, hp, q⟩ := q
  subst ex
  obtain ⟨u, eu, rx⟩ := vals1 r
  subst eu
  cases rx
  obtain ⟨its, rv, pl, hz⟩ := I.list hq
  have ei := refs_at rv
  subst ei
  rw [List.length_map] at hz
  obtain ⟨prs, rel, hl, hpr⟩ := pairs_ofT I hp
  obtain ⟨o, n, ho, hc, hd, hdat⟩ := pl
  have his : ∀ x ∈ prs, (tupleKind (mixKind X.prog X.w)).is s.heap x.1 x.2.1 := by
    have all : ∀ {l : List (List Key × V)} {m : List (List Key × Addr × Value)}, KT H l m → ∀ x ∈ m, (tupleKind (mixKind X.prog X.w)).is s.heap x.1 x.2.1 := by
      intro l m q
      induction q with
      | nil => intro x hx; exact nomatch hx
      | @cons p q ps qs hq t ih =>
        intro x hx
        rcases List.mem_cons.mp hx with e | hx
        · subst e
          exact key_of I.hok (by rw [← hq.1]; exact hq.2.1)
        · exact ih x hx
    exact all rel
  have hroom : (tupleKind (mixKind X.prog X.w)).room X.A.in1.in1 := by
    show X.A.units + 1 + 1 < cLine
    omega
  refine call_dict_pairsH (knd := tupleKind (mixKind X.prog X.w)) (ps := prs) (PairArg.list a (ps.map Value.ref).toArray (fun j => (ps[j]?).getD 0) (prs.map fun q => (Value.ref q.2.1, q.2.2))) (I.ok.hd hcalm) hroom
    ⟨⟨o, n, ho, hc, hd, hdat⟩, by simp [hl], fun j k v e => ?_⟩ ⟨by simp, fun i key v e => ?_⟩ (fun h' hk x hx => ?_) (by simp only [List.length_map]; omega) fun h' tk hd' hk => ?_
  · rw [List.getElem?_map] at e
    cases z : prs[j]? with
    | none => rw [z] at e; cases e
    | some q =>
      rw [z] at e
      cases e
      obtain ⟨b, e1, e2⟩ := hpr j q z
      have eb : (ps[j]?).getD 0 = b := by rw [e1]; rfl
      show (List.map Value.ref ps).toArray[j]? = some (Value.ref ((ps[j]?).getD 0)) ∧ PairAt s.heap ((ps[j]?).getD 0) _ _
      rw [eb]
      exact ⟨by simp [e1], .inl e2⟩
  · have e : (prs.map fun q => (Value.ref q.2.1, q.2.2))[i]? = some (key, v) := e
    rw [List.getElem?_map] at e
    cases z : prs[i]? with
    | none => rw [z] at e; cases e
    | some q =>
      rw [z] at e
      cases e
      exact ⟨q.1, q.2.1, rfl, rfl⟩
  · exact tupleKind_stays.stays (fun b o vs n hb _ => hk b o (Nat.ne_of_lt (Heap.lt_size hb)) (fun z => nomatch z) hb) (his x hx)
  · have hm : (s.heap.objs.size == sysModules) = false := beq_eq_false_iff_ne.mpr (Nat.ne_of_gt I.big)
    have hlen : (mergeT [] (kbs.map fun x => (x.1, x.2.1))).length ≤ sizeLine := by
      refine Nat.le_trans (length_mergeT _ []) ?_
      have := rel.length
      rw [List.length_nil, Nat.zero_add, this, hl]
      exact hz
    have hn := I.hok.fresh (Nat.le_refl s.heap.objs.size)
    obtain ⟨q', es, ep, hq', h2, h3, h4, _, h5⟩ := hd'
    refine ⟨.ref s.heap.objs.size, upd H s.heap.objs.size (.dT (mergeT [] (kbs.map fun x => (x.1, x.2.1)))), I.laid (t' := tk) (fun b o e => hk b o (fun z => nomatch z) e) (Nat.le_refl _) ⟨hlen, hm, _, (KT_merge rel .nil).keeps fun c ys ec => ?_, q', es, ep, hq', h2, h3, h4, h5⟩, rfl, q _ hn⟩
    rw [upd_ne (ne_of_none ec hn)]
    exact ec
theorem rep_mergeT {K : PySem.W.Frag} {H : Hp} {B : Addr → Prop} : ∀ {ds : List (List Key × D)} {more kvs : List (List Key × V)} {ks : List (List Key)} {xs : List D}, kvs.map (·.1) = ks → RepL K H B xs (kvs.map (·.2)) → more.map (·.1) = ds.map (·.1) → RepL K H B (ds.map (·.2)) (more.map (·.2)) →
    (mergeT kvs more).map (·.1) = (mergeD ds (ks, xs)).1 ∧ RepL K H B (mergeD ds (ks, xs)).2 ((mergeT kvs more).map (·.2))
  | [], more, kvs, ks, xs, e, h, e1, h1 => by
    cases more with
    | nil => exact ⟨e, h⟩
    | cons p r => cases e1
  | (k, d) :: ds, more, kvs, ks, xs, e, h, e1, h1 => by
    cases more with
    | nil => cases e1
    | cons p r =>
      obtain ⟨v, w, e2, h2, h3⟩ := h1
      have e3 : p.2 = v := (List.cons.inj e2).1
      have e4 : r.map (·.2) = w := (List.cons.inj e2).2
      have e5 : p.1 = k := (List.cons.inj e1).1
      subst e3 e4 e5
      have q := rep_put (k := p.1) e h h2
      exact rep_mergeT (ds := ds) (more := r) (kvs := putK kvs p.1 p.2) q.1 q.2 (List.cons.inj e1).2 h3
def pairsT : List D → Option (List (List Key × D))
  | [] => some []
  | .tup [.tup k, x] :: r => match keysOf k, pairsT r with
    | some k, some ps => some ((k, x) :: ps)
    | _, _ => none
  | _ :: _ => none
def gDictT : List D → Option D
  | [.lst ds] => (pairsT ds).bind fun ps => if ps.length ≤ LIM then some (.dt (mergeD ps ([], [])).1 (mergeD ps ([], [])).2) else none
  | _ => none
theorem pairs_repT {K : PySem.W.Frag} {H : Hp} {B : Addr → Prop} : ∀ {ds : List D} {vs : List V} {ps : List (List Key × D)}, RepL K H B ds vs → pairsT ds = some ps →
    ∃ (as : List Addr) (kbs : List (List Key × V × Addr)), vs = as.map V.ref ∧ PrT K H as kbs ∧ (kbs.map fun x => (x.1, x.2.1)).map (·.1) = ps.map (·.1) ∧ RepL K H B (ps.map (·.2)) ((kbs.map fun x => (x.1, x.2.1)).map (·.2))
  | [], vs, ps, h, e => by
    cases e
    cases h
    exact ⟨[], [], rfl, .nil, rfl, rfl⟩
  | d :: ds, vs, ps, h, e => by
    obtain ⟨v, r, rfl, h1, h2⟩ := h
    cases d with
    | tup zs =>
      match zs, e, h1 with
      | [k, x], e, h1 =>
        cases k with
        | tup kl =>
          unfold pairsT at e
          cases z : keysOf kl with
          | none => rw [z] at e; cases e
          | some kk =>
            cases z2 : pairsT ds with
            | none => rw [z, z2] at e; cases e
            | some ps' =>
              rw [z, z2] at e
              cases e
              obtain ⟨as, kvs, rfl, q1, q2, q3⟩ := pairs_repT h2 z2
              obtain ⟨a, ws, rfl, _, ⟨_, ha⟩, hr⟩ := h1
              obtain ⟨w1, r1, rfl, hk, hr1⟩ := hr
              obtain ⟨w2, r2, rfl, hx, hr2⟩ := hr1
              cases hr2
              obtain ⟨b, us, rfl, _, ⟨_, hb⟩, hkr⟩ := hk
              have eu := keys_v hkr z
              subst eu
              exact ⟨a :: as, (kk, w2, b) :: kvs, rfl, .cons ⟨SqT.of ha, hb⟩ q1, by rw [List.map_cons, List.map_cons, List.map_cons, q2], RepL.cons hx q3⟩
        | _ => cases e
      | [], e, _ => cases e
      | [x], e, _ => cases x <;> cases e
      | x :: _ :: _ :: _, e, _ => cases x <;> cases e
    | _ => cases e
theorem repQL_of {K : PySem.W.Frag} {fr : Frm} {ow : Ow} {q : Bool} {H : Hp} : ∀ {ds : List D} {vs : List V}, RepL K H (fr.F ow) ds vs → RepQL K fr ow q H ds vs
  | [], _, h => h
  | d :: ds, _, h => by
    obtain ⟨v, r, e, h1, h2⟩ := h
    exact ⟨v, r, e, .inl h1, repQL_of h2⟩
section
variable {X : Cx} {E : XK} {q q1 q2 : Bool} {st : Stmt} {rest : List Stmt} {e a b c o i tg iter elt value : Expr} {es ifs : List Expr} {pos p p1 apos cpos pos' : Pos}
theorem v_dictT {K : PySem.W.Frag} : VN K (rDictT K) true q gDictT := by
  intro fr ow s σ H ds vs Q d R r e k
  unfold gDictT at e
  split at e
  · rename_i zs
    obtain ⟨v, rfl, h1⟩ := RepQL.one r
    cases z : pairsT zs with
    | none => rw [z] at e; cases e
    | some ps =>
      rw [z] at e
      dsimp only [Option.bind_some] at e
      split at e
      · rename_i hlim
        cases e
        obtain ⟨a, ws, rfl, hc, hl, ha, hr⟩ := h1.lst
        obtain ⟨as, kvs, rfl, q1, q2, q3⟩ := pairs_repT hr z
        refine ⟨a, as, kvs, rfl, SqL.of ha, q1, fun p hp => ?_⟩
        have rm := rep_mergeT (kvs := []) (ks := []) (xs := []) rfl RepL.nil q2 (q3.new (p := p) (o := .dT (mergeT [] (kvs.map fun x => (x.1, x.2.1)))) hp)
        refine k _ _ (Ext.upd hp) (.inl ⟨p, _, rfl, ?_, ⟨R.fresh hp, upd_same⟩, rm.1, rm.2.weak fun a z => .inl z⟩)
        have h3 : (mergeD ps (([], []) : List (List Key) × List D)).2.length ≤ 0 + ps.length := mergeD_len
        exact lim_line (by omega)
      · cases e
  · cases e
/-! ### d.get(k) -/
def gGet (d k : D) : Option D := match d with
  | .dk ks xs => k.key.map fun k => (kvAt ks xs k).getD .non
  | .dt ks xs => match k with
    | .tup l => (keysOf l).map fun l => (kvAt ks xs l).getD .non
    | _ => none
  | _ => none
def isDk : D → Bool
  | .dk _ _ => true
  | .dt _ _ => true
  | _ => false
def mGet (f g : M D) : M D := bindM f fun d => if isDk d = true then bindM g fun k => liftM (gGet d k) else fun _ => none
theorem de_get {f g : M D} {td ty : TE} (hu : X.A.units + 64 < cLine) (ho : DE X E false o td f) (he : DE X E false e ty g) (m : M1 X o "get" apos e cpos := by exact ⟨rfl, rfl, rfl, rfl⟩) : DE X E q (.Call (.Attribute o "get" apos) [e] [] cpos) (tDGet1 td ty) (mGet f g) := by
  refine ⟨pe_dget1 (by omega) ho.pe he.pe m, fun fr ow s σ H Q r R e P => ?_⟩
  refine Pst.bind (t := td) ho.td R e P fun d ar v H1 R1 k1 r1 e1 P1 => ?_
  by_cases hd : isDk d = true
  · rw [if_pos hd] at e1
    cases d with
    | dk ks xs =>
      obtain ⟨p, kvs, rfl, hC, _, hp, _⟩ := r1.dk
      refine ⟨p, rfl, .inl ⟨kvs, .inl hp⟩, ?_⟩
      refine Pst.bind (t := ty) he.td R1 e1 P1 fun k ar2 w H2 R2 k2 r2 e2 P2 => ?_
      obtain ⟨x, e3, rfl⟩ := liftM_some e2
      obtain ⟨p', kvs', ep, _, _, hp', hk', hr'⟩ := RepQ.dk (RepQ.kp r1 k2)
      cases ep
      cases z : k.key with
      | none => simp only [gGet, z, Option.map] at e3; cases e3
      | some kk =>
        simp only [gGet, z, Option.map] at e3
        cases e3
        rw [key_v r2 z]
        refine ⟨valV kvs' kk, .inl ⟨kvs', kk, .inl hp', rfl, rfl⟩, ?_⟩
        have kv := kvAt_val kk hk' hr'
        cases y : kvAt ks xs kk with
        | none =>
          rw [y] at kv P2
          have kv : valV kvs' kk = none := kv
          rw [kv]
          exact P2 .non H2 R2 Keep.refl (.inl rfl)
        | some dd =>
          rw [y] at kv P2
          obtain ⟨vv, hv, rv⟩ := kv
          rw [hv]
          exact P2 vv H2 R2 Keep.refl (.inl rv)
    | dt ks xs =>
      obtain ⟨p, kvs, rfl, _, hp, _⟩ := r1.dt
      refine ⟨p, rfl, .inr ⟨kvs, .inl hp⟩, ?_⟩
      refine Pst.bind (t := ty) he.td R1 e1 P1 fun k ar2 w H2 R2 k2 r2 e2 P2 => ?_
      obtain ⟨x, e3, rfl⟩ := liftM_some e2
      obtain ⟨p', kvs', ep, _, hp', hk', hr', _⟩ := RepQ.dt (RepQ.kp r1 k2)
      cases ep
      cases k with
      | tup l =>
        cases z : keysOf l with
        | none => simp only [gGet, z, Option.map] at e3; cases e3
        | some kk =>
          simp only [gGet, z, Option.map] at e3
          cases e3
          obtain ⟨b, us, rfl, _, hb, hbr, _⟩ := RepQ.tup r2
          have eu := keys_v hbr z
          subst eu
          refine ⟨valV kvs' kk, .inr ⟨kvs', kk, b, .inl hp', rfl, hb, rfl⟩, ?_⟩
          have kv := kvAt_val kk hk' hr'
          cases y : kvAt ks xs kk with
          | none =>
            rw [y] at kv P2
            have kv : valV kvs' kk = none := kv
            rw [kv]
            exact P2 .non H2 R2 Keep.refl (.inl rfl)
          | some dd =>
            rw [y] at kv P2
            obtain ⟨vv, hv, rv⟩ := kv
            rw [hv]
            exact P2 vv H2 R2 Keep.refl (.inl rv)
      | _ => cases e3
    | _ => cases hd
  · rw [if_neg hd] at e1; cases e1
/-! ### list(range(..)), tuple(range(..)) -/
structure DRg (X : Cx) (E : XK) (e : Expr) (t : L2.St → Hp → (Int → Int → Hp → Prop) → Prop) (f : M (Int × Int)) : Prop where
  pe : PRg X e t
  td : ∀ fr ow s σ H (Q : Int → Int → Hp → Prop) r, Rl X.K fr ow s σ H → f s = some r → Pst X.K fr ow s σ H (fun _ _ _ _ _ (p : Int × Int) v => v = p) (fun p H => Q p.1 p.2 H) E r → t σ H Q
def fRg1 (f : M D) : M (Int × Int) := bindM f fun d => liftM (match d with
  | .int n => some (0, n)
  | _ => none)
theorem drg_1 {p pos : Pos} {ta : TE} {f : M D} (hg : Gl X "range") (hm : X.mg "range" = none) (ha : DE X E false a ta f) (na : starEach [a] X.env = (false, eval a X.env) :: starEach [] X.env := by rfl) : DRg X E (.Call (.Name "range" p) [a] [] pos) (tRg1 ta) (fRg1 f) := by
  refine ⟨prg_1 hg hm ha.pe na, fun fr ow s σ H Q r R e P => ?_⟩
  refine Pst.bind (t := ta) ha.td R e P fun d ar v H1 R1 k1 r1 e1 P1 => ?_
  obtain ⟨x, e2, rfl⟩ := liftM_some e1
  cases d with
  | int n =>
    cases e2
    exact ⟨n, RepQ.int r1, P1 (0, n) H1 R1 Keep.refl rfl⟩
  | _ => cases e2
def rgD (a b : Int) : List D := (List.range (b - a).toNat).map fun i => D.int (a + (i : Nat))
def rgOk (a b : Int) : Bool := decide (-(2 ^ 62) ≤ a) && decide (a < 2 ^ 62) && decide (-(2 ^ 62) ≤ b) && decide (b < 2 ^ 62) && decide ((b - a).toNat ≤ LIM)
theorem rgOk_of {a b : Int} (h : rgOk a b = true) : RgOk a b ∧ (b - a).toNat ≤ LIM := by
  unfold rgOk at h
  simp only [Bool.and_eq_true, decide_eq_true_eq] at h
  obtain ⟨⟨⟨⟨h1, h2⟩, h3⟩, h4⟩, h5⟩ := h
  exact ⟨⟨h1, h2, h3, h4, Nat.le_trans h5 (by decide)⟩, h5⟩
theorem rgD_rep {K : PySem.W.Frag} {H : Hp} {B : Addr → Prop} {a b : Int} : RepL K H B (rgD a b) (rgV a b) := by
  have h := RepL.ofInts (K := K) (H := H) (B := B) ((List.range (b - a).toNat).map fun i : Nat => a + (i : Nat))
  rw [List.map_map, List.map_map] at h
  exact h
def fRgL (f : M (Int × Int)) : M (List D) := bindM f fun p => liftM (if rgOk p.1 p.2 = true then some (rgD p.1 p.2) else none)
theorem df_listRg {p pos : Pos} {te} {f : M (Int × Int)} (hc : X.calm = true) (hg : Gl X "list") (hm : X.mg "list" = none) (he : DRg X E e te f) (na : starEach [e] X.env = (false, eval e X.env) :: starEach [] X.env := by rfl) : DF X E (.Call (.Name "list" p) [e] [] pos) (tLstRg te) (fRgL f) := by
  refine ⟨pe_listRg hc hg hm he.pe na, fun fr ow s σ H Q r R e P => ?_⟩
  unfold fRgL bindM at e
  cases z : f s with
  | none => rw [z] at e; cases e
  | some r1 =>
    rw [z] at e
    refine he.td fr ow s σ H _ r1 R z ?_
    cases r1 with
    | er C ns xs ar =>
      cases e
      exact P
    | ok x ar =>
      intro x' H1 R1 k1 ex
      subst ex
      obtain ⟨d, e2, rfl⟩ := liftM_some e
      split at e2
      · rename_i hok
        cases e2
        obtain ⟨h1, h2⟩ := rgOk_of hok
        refine ⟨h1, fun q hq => P _ _ (R1.ext (Ext.upd hq)) (k1.trans (Keep.ext (Ext.upd hq))) (rF_new R1 hq rgD_rep (by unfold rgD; rw [List.length_map, List.length_range]; exact lim_line h2))⟩
      · cases e2
def mRgT (f : M (Int × Int)) : M D := bindM f fun p => liftM (if rgOk p.1 p.2 = true then some (.tup (rgD p.1 p.2)) else none)
theorem de_tupRg {p pos : Pos} {te} {f : M (Int × Int)} (hc : X.calm = true) (hg : Gl X "tuple") (hm : X.mg "tuple" = none) (he : DRg X E e te f) (na : starEach [e] X.env = (false, eval e X.env) :: starEach [] X.env := by rfl) : DE X E q (.Call (.Name "tuple" p) [e] [] pos) (tTupRg te) (mRgT f) := by
  refine ⟨pe_tupRg hc hg hm he.pe na, fun fr ow s σ H Q r R e P => ?_⟩
  unfold mRgT bindM at e
  cases z : f s with
  | none => rw [z] at e; cases e
  | some r1 =>
    rw [z] at e
    refine he.td fr ow s σ H _ r1 R z ?_
    cases r1 with
    | er C ns xs ar =>
      cases e
      exact P
    | ok x ar =>
      intro x' H1 R1 k1 ex
      subst ex
      obtain ⟨d, e2, rfl⟩ := liftM_some e
      split at e2
      · rename_i hok
        cases e2
        obtain ⟨h1, h2⟩ := rgOk_of hok
        refine ⟨h1, fun q hq => P _ _ (R1.ext (Ext.upd hq)) (k1.trans (Keep.ext (Ext.upd hq))) (.inl (Rep.tupNew R1 hq rgD_rep (by unfold rgD; rw [List.length_map, List.length_range]; exact lim_line h2)))⟩
      · cases e2
/-! ### tuple * int -/
theorem tuple_mulW1 (l : Addr) (items : Array Value) (n : Nat) (dd : Option Addr) (sl : Array (Option Value)) (u : Tok) :
    Meets (Builtin.«tuple.__mul__» ⟨[.ref l, .int 1 u], []⟩) (fun _ R s => s.heap.get? l = some { cls := .type "tuple", dict := dd, data := .seq items n, slots := sl } ∧ R (.ok (.ret (Value.ref l))) s) :=
  .of_wp fun prog w A R s h => by
    obtain ⟨hp, g, d, tk, os⟩ := s
    obtain ⟨hl, h⟩ := h
    have f1 := AutoSeq1.idx_int
    wp_walk using wpAny_loadPart' hl
    exact ⟨_, rfl, h⟩
theorem flat_one {α : Type} (xs : List α) : (List.replicate (1 : Int).toNat xs).flatten = xs := by simp
theorem ints_at : ∀ {its : List Value} {ns : List Int}, IntsAre its ns → ∀ {i : Nat} {v : Value}, its[i]? = some v → ∃ m t, v = .int m t := by
  intro its ns h
  induction h with
  | nil => intro i v h; simp at h
  | cons m t _ ih =>
    intro i v h
    cases i with
    | zero => exact ⟨m, t, (Option.some.inj h).symm⟩
    | succ i => exact ih (i := i) (by simpa using h)
def rRepT1 (K : PySem.W.Frag) : R2 := fun x y H Q => ∃ l xs, x = .ref l ∧ y = .int 1 ∧ SqT K H l xs ∧ Q (.ref l) H
theorem op_repT1 : OpR X (binaryOp .Mult) (rRepT1 X.K) := by
  intro pins s σ H x y v u Q I rx ry h
  obtain ⟨l, xs, rfl, rfl, hT, q⟩ := h
  cases rx
  obtain ⟨t, rfl⟩ := ry
  obtain ⟨its, r, ⟨⟨cls, dd, data, sl⟩, ho, hc, n, hd⟩, hs⟩ := I.tuple hT
  simp only at hc hd
  subst hc hd
  refine wpAny_binaryOp_repeat_ref (T := "tuple") (U := "int") (by decide) ⟨_, ho, rfl⟩ (fun s' => typeIs_int s' 1 t) noFill_tuple_mul PySem.F.fills_int_mul PySem.F.slot_int_rmul repeat_tuple PySem.F.slot_int_index.lookup
    (call_meets PySem.F.slot_int_rmul (typeIs_int s 1 t) PySem.F.entry_int_rmul (PySem.F.args_int_rmul_2 _ _) (int_rmul_tuple 1 t l its.toArray n dd sl)
      ⟨ho, rfl, ⟨_, ho, rfl⟩, call_meets PySem.F.slot_tuple_mul ⟨_, ho, rfl⟩ PySem.F.entry_tuple_mul (PySem.F.args_tuple_mul_2 _ _) (tuple_mulW1 l its.toArray n dd sl t) ⟨ho, ?_⟩⟩)
  exact ⟨.ref l, H, I, rfl, q⟩
abbrev rMulT (K : PySem.W.Frag) : R2 := fun x y H Q => rRepT K x y H Q ∨ rRepT1 K x y H Q
theorem op_mulT : OpR X (binaryOp .Mult) (rMulT X.K) := op_repT.or op_repT1
def gMulT (a b : D) : Option D := match a, b with
  | .tup xs, .int k => if (!xs.isEmpty && decide (1 ≤ k) && decide (k ≤ 1000) && decide (xs.length ≤ 1000)) = true then some (.tup (List.replicate k.toNat xs).flatten) else none
  | _, _ => none
theorem v_mulT {K : PySem.W.Frag} : V2 K (rMulT K) q1 q2 q gMulT := by
  intro fr ow s σ H d1 d2 v1 v2 Q d R r1 r2 e k
  unfold gMulT at e
  split at e
  · rename_i xs n
    split at e
    · rename_i hc
      cases e
      simp only [Bool.and_eq_true, decide_eq_true_eq, Bool.not_eq_true', List.isEmpty_eq_false_iff] at hc
      obtain ⟨⟨⟨h1, h2⟩, h3⟩, h4⟩ := hc
      obtain ⟨p, vs, rfl, _, hp, hr, hR⟩ := r1.tup
      rw [r2.int]
      by_cases hn : n = 1
      · subst hn
        refine .inr ⟨p, vs, rfl, rfl, SqT.of hp, k _ H (fun _ _ z => z) (.inl ?_)⟩
        rw [flat_one]
        exact hR
      · refine .inl ⟨p, n, vs, rfl, rfl, SqT.of hp, ?_, by omega, h3, by rw [hr.len]; exact h4, fun T hT => ?_⟩
        · intro z
          subst z
          have := hr.len
          exact h1 (List.eq_nil_of_length_eq_zero this.symm)
        · refine k _ _ (Ext.upd hT) (.inl (Rep.tupNew R hT (hr.rep _) ?_))
          rw [PyProof.Rows.lm_len_rep_flat, sizeLine_eq]
          have a1 : n.toNat * xs.length ≤ 1000 * 1000 := Nat.mul_le_mul (by omega) h4
          omega
    · cases e
  · cases e
/-! ### max of a tuple of ints -/
def rMaxT (K : PySem.W.Frag) : List V → Hp → VK → Prop := fun vs H Q => ∃ (a : Addr) (n : Int) (ns : List Int), vs = [V.ref a] ∧ SqT K H a ((n :: ns).map V.int) ∧ Q (.int (maxL (n :: ns))) H
theorem maxOf_maxL (n : Int) (ns : List Int) : PySem.W.maxOf n ns = maxL (n :: ns) := by
  unfold maxL PySem.W.maxOf
  rw [List.headD_cons, List.foldl_cons, if_neg (by omega)]
  congr 1
  funext m y
  show (if decide (m < y) = true then y else m) = if y > m then y else m
  by_cases h : m < y
  · rw [if_pos (decide_eq_true h), if_pos h]
  · rw [if_neg (by simpa using h), if_neg h]
theorem cr_maxT (hc : X.calm = true) (hu : X.A.units + 64 < cLine) : CallR X (.builtin "max") (rMaxT X.K) := by
  intro pins s σ H vs us Q I r h
  obtain ⟨a, n, ns, rfl, hs, q⟩ := h
  obtain ⟨its, rv, hl, _⟩ := I.tuple hs
  rw [Vals.ref1 r]
  have hi : IntsAre its (n :: ns) := rv.ints
  refine PySem.W.max_tuple_datum (x := n) (xs := ns) (I.ok.hd hc) (vs := its.toArray) hl (PySem.W.HoldAll.of_ints hi) (by show X.A.units + 1 + 0 < cLine; omega) fun i v h' tk hv hh hk => ?_
  have hv2 : ∃ m t, v = .int m t := ints_at hi (i := i) (by simpa using hv)
  obtain ⟨m, t, rfl⟩ := hv2
  obtain ⟨as, rd⟩ := hh
  have em : m = PySem.W.maxOf n ns := by
    have rd : Reads h' (.int m t) (.int (PySem.W.maxOf n ns)) as := rd
    cases rd
    rfl
  rw [em, maxOf_maxL]
  exact ⟨.int _, H, I.kept hk, ⟨_, rfl⟩, q⟩
def gMaxT : List D → Option D
  | [.tup xs] => match intsOf xs with
    | some (n :: ns) => some (.int (maxL (n :: ns)))
    | _ => none
  | _ => none
theorem v_maxT {K : PySem.W.Frag} : VN K (rMaxT K) q1 q gMaxT := by
  intro fr ow s σ H ds vs Q d R r e k
  unfold gMaxT at e
  split at e
  · split at e
    · rename_i xs n ns hx
      cases e
      obtain ⟨v, rfl, h1⟩ := RepQL.one r
      obtain ⟨p, ws, rfl, _, hp, hr, _⟩ := h1.tup
      rw [intsOf_eq hx] at hr
      rw [hr.ints] at hp
      exact ⟨p, n, ns, rfl, SqT.of hp, k _ H (fun _ _ z => z) (.inl rfl)⟩
    · cases e
  · cases e
/-! ### *e in a display -/
def fStar (f : M D) (g : M (List D)) : M (List D) := bindM f fun d => match d with
  | .lst xs => bindM g fun ds => retM (xs ++ ds)
  | .tup xs => bindM g fun ds => retM (xs ++ ds)
  | _ => fun _ => none
theorem da_star {te : TE} {t : TA} {f : M D} {g : M (List D)} (he : DE X E true e te f) (hr : DA X E true es t g) (hs : starEach (.Starred e p :: es) X.env = (true, eval e X.env) :: starEach es X.env := by rfl) : DA X E true (.Starred e p :: es) (StX.tStar X.K te t) (fStar f g) := by
  refine ⟨StX.pa_star he.pe hr.pe hs, fun fr ow s σ H Q r R e P => ?_⟩
  refine Pst.bind (t := te) he.td R e P fun d ar v H1 R1 k1 r1 e1 P1 => ?_
  cases d with
  | lst xs =>
    obtain ⟨a, vs, rfl, _, _, hp, hx⟩ := RepQ.lst r1
    refine ⟨a, vs, rfl, .inr (SqL.of hp), ?_⟩
    refine Pst.bind (t := t) hr.td R1 e1 P1 fun ds ar2 ws H2 R2 k2 r2 e2 P2 => ?_
    cases e2
    have h3 : RepL X.K H2 (fr.F ow) (xs ++ ds) (vs ++ ws) := (hx.kp k2).app (RepQL.cl r2)
    exact P2 _ H2 R2 Keep.refl (repQL_of h3)
  | tup xs =>
    obtain ⟨a, vs, rfl, _, hp, hx, _⟩ := RepQ.tup r1
    refine ⟨a, vs, rfl, .inl (SqT.of hp), ?_⟩
    refine Pst.bind (t := t) hr.td R1 e1 P1 fun ds ar2 ws H2 R2 k2 r2 e2 P2 => ?_
    cases e2
    have h3 : RepL X.K H2 (fr.F ow) (xs ++ ds) (vs ++ ws) := (hx.kp k2).app (RepQL.cl r2)
    exact P2 _ H2 R2 Keep.refl (repQL_of h3)
  | _ => cases e1
end
end DL
set_option Elab.async false
set_option linter.all false
set_option maxRecDepth 100000
/-! DV: sorted pairs, dicts that a name alone holds, a list's item taken and put; short names for the printer -/
namespace DL
open PySem L2 PySem.Spec PyProof.Rows
/-! ### sorted of pairs of ints -/
def pairI : D → Option (Int × Int)
  | .tup [.int i, .int j] => some (i, j)
  | _ => none
def pairsI : List D → Option (List (Int × Int))
  | [] => some []
  | d :: ds => match pairI d, pairsI ds with
    | some p, some ps => some (p :: ps)
    | _, _ => none
def dPair (p : Int × Int) : D := .tup [.int p.1, .int p.2]
theorem pairI_eq {d : D} {p : Int × Int} (h : pairI d = some p) : d = dPair p := by
  unfold pairI at h
  split at h
  · cases h; rfl
  · cases h
theorem pairsI_eq : ∀ {ds : List D} {ps : List (Int × Int)}, pairsI ds = some ps → ds = ps.map dPair
  | [], ps, h => by cases h; rfl
  | d :: ds, ps, h => by
    unfold pairsI at h
    cases z : pairI d with
    | none => rw [z] at h; cases h
    | some p =>
      cases z2 : pairsI ds with
      | none => rw [z, z2] at h; cases h
      | some ps' =>
        rw [z, z2] at h
        cases h
        rw [List.map_cons, ← pairI_eq z, ← pairsI_eq z2]
def lexLe (p q : Int × Int) : Bool := decide (p.1 < q.1) || (decide (p.1 = q.1) && decide (p.2 ≤ q.2))
theorem lexLe_iff {p q : Int × Int} : lexLe p q = true ↔ p.1 < q.1 ∨ (p.1 = q.1 ∧ p.2 ≤ q.2) := by simp [lexLe]
def gSortP : List D → Option (List D)
  | [.lst xs] => (pairsI xs).map fun ps => (ps.mergeSort lexLe).map dPair
  | _ => none
theorem sortedP_eq {ns ns' : List (Int × Int)} (p : ns'.Perm ns) (s : ns'.Pairwise fun a b => lexLe a b = true) : ns' = ns.mergeSort lexLe := by
  have h1 : (ns.mergeSort lexLe).Pairwise (fun a b => lexLe a b = true) := List.pairwise_mergeSort (fun a b c h1 h2 => by simp only [lexLe_iff] at *; omega) (fun a b => by
    by_cases h : lexLe a b = true
    · rw [h]; rfl
    · have : lexLe b a = true := by simp only [lexLe_iff] at *; omega
      rw [this]; simp) ns
  exact List.Perm.eq_of_pairwise (le := fun a b => lexLe a b = true) (fun a b _ _ h1 h2 => by
    simp only [lexLe_iff] at h1 h2
    exact Prod.ext (by omega) (by omega)) s h1 (p.trans (List.mergeSort_perm ns _).symm)
def kOf (H : Hp) : V → Int × Int
  | .ref t => match H t with
    | some (.tup [.int i, .int j]) => (i, j)
    | _ => (0, 0)
  | _ => (0, 0)
theorem rep_pairK {K : PySem.W.Frag} {H : Hp} {B : Addr → Prop} {p : Int × Int} {v : V} (h : Rep K H B (dPair p) v) : kOf H v = p ∧ ∃ t, v = .ref t ∧ H t = some (.tup [.int p.1, .int p.2]) := by
  obtain ⟨a, vs, rfl, _, ⟨_, ha⟩, hr⟩ := h
  obtain ⟨w1, r1, rfl, h1, hr1⟩ := hr
  obtain ⟨w2, r2, rfl, h2, hr2⟩ := hr1
  cases hr2
  have e1 : w1 = .int p.1 := h1
  have e2 : w2 = .int p.2 := h2
  subst e1 e2
  refine ⟨?_, a, rfl, ha⟩
  simp only [kOf, ha]
theorem reps_pairK {K : PySem.W.Frag} {H : Hp} {B : Addr → Prop} : ∀ {ps : List (Int × Int)} {vs : List V}, RepL K H B (ps.map dPair) vs → vs.map (kOf H) = ps ∧ ∀ x ∈ vs, ∃ t, x = .ref t ∧ H t = some (.tup [.int (kOf H x).1, .int (kOf H x).2])
  | [], vs, h => by
    cases h
    exact ⟨rfl, fun x hx => nomatch hx⟩
  | p :: ps, vs, h => by
    obtain ⟨v, r, rfl, h1, h2⟩ := h
    obtain ⟨e, t, e2, ht⟩ := rep_pairK h1
    obtain ⟨i1, i2⟩ := reps_pairK h2
    refine ⟨by rw [List.map_cons, e, i1], fun x hx => ?_⟩
    rcases List.mem_cons.mp hx with rfl | hx
    · rw [e]; exact ⟨t, e2, ht⟩
    · exact i2 x hx
theorem reps_back {K : PySem.W.Frag} {H : Hp} {B : Addr → Prop} : ∀ {es : List D} {vs : List V}, (∀ e ∈ es, ∃ p, e = dPair p) → RepL K H B es vs → es = (vs.map (kOf H)).map dPair
  | [], vs, _, h => by
    cases h; rfl
  | e :: es, vs, he, h => by
    obtain ⟨v, r, rfl, h1, h2⟩ := h
    obtain ⟨p, rfl⟩ := he e List.mem_cons_self
    rw [List.map_cons, List.map_cons, (rep_pairK h1).1, ← reps_back (fun e h => he e (List.mem_cons_of_mem _ h)) h2]
section
variable {X : Cx} {E : XK} {q q1 q2 : Bool} {st : Stmt} {rest : List Stmt} {e a b c o i tg iter elt value : Expr} {es ifs : List Expr} {pos p p1 p2 apos cpos pos' : Pos}
theorem vf_sortP {K : PySem.W.Frag} : VNF K (rSortedPO K) q1 gSortP := by
  intro fr ow s σ H ds vs Q d R r e k
  unfold gSortP at e
  split at e
  · rename_i xs
    cases z : pairsI xs with
    | none => rw [z] at e; cases e
    | some ps =>
      rw [z] at e
      cases e
      have hx := pairsI_eq z
      subst hx
      obtain ⟨v, rfl, h⟩ := r.one
      obtain ⟨p, vs, rfl, _, hl, h1, l1⟩ := h.lst
      obtain ⟨e1, e2⟩ := reps_pairK l1
      refine ⟨p, vs, kOf H, rfl, SqL.of h1, e2, fun ys a hs hb n => ?_⟩
      obtain ⟨es, re, pe⟩ := l1.perm hb.perm.symm
      have hes := reps_back (fun e he => by
        obtain ⟨p, _, ep⟩ := List.mem_map.mp (pe.symm.mem_iff.mp he)
        exact ⟨p, ep.symm⟩) re
      have hperm : (ys.map (kOf H)).Perm ps := by
        have := hb.perm.map (kOf H)
        rwa [e1] at this
      have hsort : (ys.map (kOf H)).Pairwise fun a b => lexLe a b = true := by
        rw [List.pairwise_map]
        refine hs.imp fun {x y} h => ?_
        have h2 := SrtO.lexB_no.mp h
        rw [lexLe_iff]
        omega
      have e9 : (ps.mergeSort lexLe).map dPair = es := by rw [← sortedP_eq hperm hsort, ← hes]
      refine k (.ref a) _ (Ext.upd n) ?_
      show rF K fr ow s σ (upd H a (.lst ys)) ((ps.mergeSort lexLe).map dPair) (V.ref a)
      rw [e9]
      refine rF_new R n re ?_
      rw [← pe.length_eq]
      exact hl
  · cases e
/-! ### a dict that a name alone holds -/
theorem Rl.ownD {K : PySem.W.Frag} {fr : Frm} {ow : Ow} {s : S} {σ : L2.St} {H : Hp} {i : Nat} {p : Addr} {ks : List Key} {xs : List D} {kvs : List (Key × V)} (R : Rl K (fr.plus p) ow s σ H) (hi : i < s.sl.length) (nF : ¬ fr.F ow p) (h0 : fr.H0 p = none) (hp : H p = some (.dK kvs)) (hl : xs.length ≤ sizeLine) (hk : kvs.map (·.1) = ks) (hr : RepL K H (fun a => fr.F ow a ∨ a = p) xs (kvs.map (·.2))) :
    Rl K fr (ow.set i (some p)) { s with sl := s.sl.set i (.od ks xs) } (σ.set i (some (.ref p))) H := by
  have hF : ∀ a, fr.F (ow.set i (some p)) a → (fr.plus p).F ow a := fun a z => Frm.plusF.mpr (F_own z)
  have kk : ∀ a u, ¬ (fr.plus p).F ow a → H a = some u → H a = some u ∧ ¬ fr.F (ow.set i (some p)) a := fun a u na e => ⟨e, fun z => na (hF a z)⟩
  refine ⟨by simp [R.ls], by simp [R.lo], fun j x hj => ?_, fun j k y h1 h2 => ?_, fun y hy => ?_, fun a z => R.ban a ?_, R.same, R.ara, fun y hy => (R.ar y hy).keep kk fun u q => q, R.nd, R.trk⟩
  · by_cases e : i = j
    · subst e
      have hx : x = .od ks xs := by
        have : (s.sl.set i (.od ks xs))[i]? = some x := hj
        rw [List.getElem?_set_self hi] at this
        exact (Option.some.inj this).symm
      subst hx
      rw [join_set_self (by rw [R.ls]; exact hi), join_set_self (by rw [R.lo]; exact hi)]
      exact ⟨p, kvs, rfl, rfl, hl, hp, hk, hr.weak fun a z => Frm.plusF.mp (hF a z)⟩
    · rw [List.getElem?_set_ne e, List.getElem?_set_ne e]
      have hj' : s.sl[j]? = some x := by
        have : (s.sl.set i (.od ks xs))[j]? = some x := hj
        rwa [List.getElem?_set_ne e] at this
      exact (R.slot j x hj').keep kk fun y u _ q => q
  · have g : ∀ {m : Nat} {y : Addr}, (ow.set i (some p))[m]? = some (some y) → (m = i ∧ y = p) ∨ (m ≠ i ∧ ow[m]? = some (some y)) := fun {m y} h => by
      by_cases e : i = m
      · subst e
        rw [List.getElem?_set] at h
        split at h
        · split at h
          · exact .inl ⟨rfl, (Option.some.inj (Option.some.inj h)).symm⟩
          · cases h
        · rename_i hn; exact absurd rfl hn
      · rw [List.getElem?_set_ne e] at h
        exact .inr ⟨fun z => e z.symm, h⟩
    rcases g h1 with ⟨rfl, rfl⟩ | ⟨n1, h1'⟩ <;> rcases g h2 with ⟨rfl, e2⟩ | ⟨n2, h2'⟩
    · rfl
    · exact absurd (.inr (List.mem_of_getElem? h2')) nF
    · exact absurd (.inr (List.mem_of_getElem? (by rw [e2] at h1'; exact h1'))) nF
    · exact R.inj j k y h1' h2'
  · obtain ⟨j, hj⟩ := List.getElem?_of_mem hy
    by_cases e : i = j
    · subst e
      rw [List.getElem?_set] at hj
      split at hj
      · split at hj
        · have : p = y := Option.some.inj (Option.some.inj hj)
          subst this
          exact ⟨h0, fun z => nF (.inl z)⟩
        · cases hj
      · rename_i hn; exact absurd rfl hn
    · rw [List.getElem?_set_ne e] at hj
      have := R.owf y (List.mem_of_getElem? hj)
      exact ⟨this.1, fun z => this.2 (z.elim (fun z => .inl (.inl z)) .inr)⟩
  · exact z.elim (fun z => .inl (.inl z)) .inr
/-- name = {} -/
def gOwnD0 (i : Nat) : G := fun s => if i < s.sl.length then some (.nx { s with sl := s.sl.set i (.od [] []) }) else none
theorem ds_ownD0 {i : Nat} {x : Str} (hN : X.N.Nodup) (hi : X.N[i]? = some x := by rfl) (hx : Loc X.env.scope x := by first | exact Or.inl rfl | exact Or.inr rfl) (hs : swapsWith (.Dict [] [] p) (some (.Name x pos')) pos.line X.env = pure false := by rfl)
    (hf : X.fn x = true ∨ X.env.scope.names.lookup x = some .local := by first | exact .inl rfl | exact .inr rfl) : DS X E (.Assign [.Name x pos'] (.Dict [] [] p) pos) (tAsg tDNewK (gName i)) (gOwnD0 i) := by
  refine ⟨ps_set hN hi hx pe_dnewK hs hf, fun fr ow s σ H Dn o R e P T hT => ?_⟩
  unfold gOwnD0 at e
  split at e
  · rename_i hi
    cases e
    have ex : Ext H (upd H T (.dK [])) := Ext.upd hT
    have Rn := (R.plus (o := .dK []) hT).ownD (i := i) (ks := []) (xs := []) (kvs := []) hi (R.fresh hT) (R.fresh0 hT) upd_same (Nat.zero_le _) rfl RepL.nil
    refine P _ _ _ ⟨Rn, ⟨fun a o h _ => ex a o h, fun a ha z => ?_⟩, fun a h => ?_⟩
    · rcases F_own z with z | z
      · exact z
      · rw [z, hT] at ha; exact absurd rfl ha
    · cases y : H a with
      | none => exact absurd y h
      | some u => rw [ex a u y]; simp
  · cases e
theorem own_atD {K : PySem.W.Frag} {fr : Frm} {ow : Ow} {s : S} {σ : L2.St} {H : Hp} {i : Nat} {ks : List Key} {xs : List D} (R : Rl K fr ow s σ H) (h : s.sl[i]? = some (.od ks xs)) : ∃ p kvs, i < s.sl.length ∧ (ow[i]?).join = some p ∧ (σ[i]?).join = some (.ref p) ∧ σ[i]? = some (some (.ref p)) ∧ xs.length ≤ sizeLine ∧ H p = some (.dK kvs) ∧ kvs.map (·.1) = ks ∧ RepL K H (fr.F ow) xs (kvs.map (·.2)) ∧ fr.F ow p := by
  obtain ⟨p, kvs, h1, h2, h3, h4, h5, h6⟩ := R.slot i _ h
  have hl : i < s.sl.length := (List.getElem?_eq_some_iff.mp h).1
  have h2' : σ[i]? = some (some (.ref p)) := by
    cases y : σ[i]? with
    | none => rw [y] at h2; cases h2
    | some u => rw [y] at h2; exact congrArg some h2
  refine ⟨p, kvs, hl, h1, h2, h2', h3, h4, h5, h6, .inr ?_⟩
  cases y : ow[i]? with
  | none => rw [y] at h1; cases h1
  | some u => rw [y] at h1; exact List.mem_of_getElem? (y.trans (congrArg some h1))
theorem Rl.updOD {K : PySem.W.Frag} {fr : Frm} {ow : Ow} {s : S} {σ : L2.St} {H : Hp} {i : Nat} {p : Addr} {ks : List Key} {xs : List D} {kvs : List (Key × V)} (R : Rl K fr ow s σ H) (hi : i < s.sl.length) (ho : (ow[i]?).join = some p) (hσ : (σ[i]?).join = some (.ref p)) (hl : xs.length ≤ sizeLine) (hk : kvs.map (·.1) = ks) (hr : RepL K H (fr.F ow) xs (kvs.map (·.2))) :
    Rl K fr ow { s with sl := s.sl.set i (.od ks xs) } σ (upd H p (.dK kvs)) := by
  have hm : ow[i]? = some (some p) := by
    cases y : ow[i]? with
    | none => rw [y] at ho; cases ho
    | some u => rw [y] at ho; exact congrArg some ho
  have hpm : some p ∈ ow := List.mem_of_getElem? hm
  have hF : fr.F ow p := .inr hpm
  have kk : ∀ a u, ¬ fr.F ow a → H a = some u → upd H p (.dK kvs) a = some u ∧ ¬ fr.F ow a := fun a u na e => ⟨by
    rw [upd_ne fun z => na (by rw [z]; exact hF)]
    exact e, na⟩
  refine ⟨by simp [R.ls], by simp [R.lo], fun j x hj => ?_, R.inj, R.owf, fun a z w => ?_, fun a u h na => ?_, R.ara, fun y hy => (R.ar y hy).keep kk fun u q => ?_, R.nd, fun a z w => ?_⟩
  · by_cases e : i = j
    · subst e
      have hx : x = .od ks xs := by
        have : (s.sl.set i (.od ks xs))[i]? = some x := hj
        rw [List.getElem?_set_self hi] at this
        exact (Option.some.inj this).symm
      subst hx
      exact ⟨p, kvs, ho, hσ, hl, upd_same, hk, hr.keep kk⟩
    · have hj' : s.sl[j]? = some x := by
        have : (s.sl.set i (.od ks xs))[j]? = some x := hj
        rwa [List.getElem?_set_ne e] at this
      refine (R.slot j x hj').keep kk fun y u hy hu => ?_
      rw [upd_ne fun z => e (R.inj i j p hm (by
        cases w : ow[j]? with
        | none => rw [w] at hy; cases hy
        | some u => rw [w] at hy; rw [← z]; exact congrArg some hy))]
      exact hu
  · by_cases e : a = p
    · rw [e, upd_same] at w; cases w
    · rw [upd_ne e] at w; exact R.ban a z w
  · rw [upd_ne fun z => by rw [z, (R.owf p hpm).1] at h; cases h]
    exact R.same a u h na
  · rw [upd_ne fun z => (R.owf p hpm).2 (.inr (by rw [← z, ← R.ara]; exact List.mem_map_of_mem hy))]
    exact q
  · by_cases e : a = p
    · rw [e, upd_same] at w; cases w
    · rw [upd_ne e] at w; exact R.trk a z w
/-- d[k] = e, d a dict that the name alone holds -/
def kSetD (i : Nat) (d kd : D) : S → Option Out := fun s => match s.sl[i]? with
  | some (.od ks xs) => kd.key.bind fun k => if xs.length < LIM then some (.nx { s with sl := s.sl.set i (.od (putD ks xs k d).1 (putD ks xs k d).2) }) else none
  | _ => none
def gSetD (i : Nat) (f fj : M D) : G := fun s => match s.sl[i]? with
  | some (.od _ _) => gBind f (fun d => gBind fj (fun kd => kSetD i d kd)) s
  | _ => none
theorem ds_setD {x : Str} {te tj : TE} {f fj : M D} {j : Expr} (i : Nat) (hu : X.A.units + 64 < cLine) (he : DE X E true e te f) (hj : DE X E true j tj fj) (hi : X.N[i]? = some x := by rfl) (hv : Vis X.env.scope x := by first | exact Or.inl rfl | exact Or.inr (Or.inl rfl)) (hd : (x == ("__debug__" : Str)) = false := by decide) (hcd : (x == ("__classdict__" : Str)) = false := by decide)
    (hs : swapsWith e (some (.Subscript (.Name x p) j p1)) pos.line X.env = pure false := by rfl) :
    DS X E (.Assign [.Subscript (.Name x p) j p1] e pos) (sDPut (tVar i) tj te) (gSetD i f fj) := by
  refine ⟨ps_dput (by omega) (pe_var hi hv hd hcd) hj.pe he.pe hs, fun fr ow s σ H Dn o R e P => ?_⟩
  unfold gSetD at e
  split at e
  · rename_i ks0 xs0 hx0
    obtain ⟨p, kvs0, _, _, _, hσ, _⟩ := own_atD R hx0
    refine tb_bind (t := te) he.td R e P fun d ar v H1 R1 k1 r1 e1 P1 => ?_
    refine ⟨.ref p, hσ, ?_⟩
    refine tb_bind (t := tj) hj.td R1 e1 P1 fun jd ar2 jv H2 R2 k2 r2 e2 P2 => ?_
    unfold kSetD at e2
    split at e2
    · rename_i ks xs hx
      obtain ⟨p', kvs, hi', h1, h2, hσ', hl, hp', hk, hr, hF⟩ := own_atD R2 hx
      rw [hσ] at hσ'
      cases hσ'
      cases z : jd.key with
      | none => rw [z] at e2; cases e2
      | some k =>
        rw [z] at e2
        dsimp only [Option.bind_some] at e2
        split at e2
        · rename_i hlim
          cases e2
          have hlen : kvs.length = xs.length := by have := hr.len; simpa using this
          have hz : xs.length < sizeLine := Nat.lt_of_lt_of_le hlim (by rw [sizeLine_eq]; decide)
          have rp := rep_put (k := k) hk hr (r1.cl.kp k2)
          have Rn := R2.updOD hi' h1 h2 (ks := (putD ks xs k d).1) (xs := (putD ks xs k d).2) (kvs := putK kvs k v) (by have := putD_len (ks := ks) (xs := xs) (k := k) (d := d); omega) rp.1 rp.2
          rw [key_v r2 z]
          exact ⟨p, _, rfl, .inl ⟨kvs, k, hp', rfl, by rw [hlen]; exact hz, rfl⟩, P2 ow σ _ (af_upd Rn hF)⟩
        · cases e2
    · cases e2
  · cases e
/-! ### y.append(x.pop(e)) -/
def kPop (i : Nat) (jd : D) : S → Option (D × S) := fun s => match jd with
  | .int j => match s.sl[i]? with
    | some (.ol xs) => (ixN xs.length j).bind fun n => (xs[n]?).map fun d => (d, { s with sl := s.sl.set i (.ol (xs.eraseIdx n)) })
    | _ => none
  | _ => none
def kAppPop (i j : Nat) (jd : D) : S → Option Out := fun s => (kPop j jd s).bind fun p => match p.2.sl[i]? with
  | some (.ol ys) => if ys.length < LIM then some (.nx { p.2 with sl := p.2.sl.set i (.ol (ys ++ [p.1])) }) else none
  | _ => none
def gAppPop (i j : Nat) (f : M D) : G := fun s => match s.sl[i]?, s.sl[j]? with
  | some (.ol _), some (.ol _) => gBind f (fun jd => kAppPop i j jd) s
  | _, _ => none
theorem RepL.erase {K : PySem.W.Frag} {H : Hp} {B : Addr → Prop} : ∀ {ds : List D} {vs : List V} (i : Nat), RepL K H B ds vs → RepL K H B (ds.eraseIdx i) (vs.eraseIdx i)
  | [], _, _, h => by cases h; rfl
  | d :: ds, _, 0, h => by
    obtain ⟨v, r, rfl, _, h2⟩ := h
    exact h2
  | d :: ds, _, i + 1, h => by
    obtain ⟨v, r, rfl, h1, h2⟩ := h
    exact ⟨v, _, rfl, h1, RepL.erase i h2⟩
theorem ixN_bound {n : Nat} {i : Int} {j : Nat} (h : ixN n i = some j) (hn : n ≤ sizeLine) : -(2 ^ 63) ≤ i ∧ i < 2 ^ 63 := by
  obtain ⟨_, _, h1, h2⟩ := ixN_seq h
  rw [sizeLine_eq] at hn
  omega
theorem ds_appPop {x y : Str} {te : TE} {f : M D} {ap2 cp2 : Pos} (i j : Nat) (hij : i ≠ j) (he : DE X E true e te f) (hi : X.N[i]? = some y := by rfl) (hj : X.N[j]? = some x := by rfl) (hv : Vis X.env.scope y := by first | exact Or.inl rfl | exact Or.inr (Or.inl rfl)) (hv2 : Vis X.env.scope x := by first | exact Or.inl rfl | exact Or.inr (Or.inl rfl)) (hd : (y == ("__debug__" : Str)) = false := by decide) (hcd : (y == ("__classdict__" : Str)) = false := by decide) (hd2 : (x == ("__debug__" : Str)) = false := by decide) (hcd2 : (x == ("__classdict__" : Str)) = false := by decide)
    (hb1 : attributeBase (.Name y p) "append" X.env (eval (.Name y p) X.env) = eval (.Name y p) X.env := by rfl) (hb2 : attributeBase (.Name x p1) "pop" X.env (eval (.Name x p1) X.env) = eval (.Name x p1) X.env := by rfl)
    (hf1 : ((backTo cpos (starEach [.Call (.Attribute (.Name x p1) "pop" ap2) [e] [] cp2] X.env)).all (fun x => !x.1) && (backToKw cpos (keywordEach [] X.env)).all (fun x => x.1.isSome)
      && decide (([.Call (.Attribute (.Name x p1) "pop" ap2) [e] [] cp2] : List Expr).length + ([] : List Keyword).length + (if ([] : List Keyword).isEmpty then 0 else 1) < 30)) = true := by rfl)
    (hf2 : ((backTo cp2 (starEach [e] X.env)).all (fun x => !x.1) && (backToKw cp2 (keywordEach [] X.env)).all (fun x => x.1.isSome)
      && decide (([e] : List Expr).length + ([] : List Keyword).length + (if ([] : List Keyword).isEmpty then 0 else 1) < 30)) = true := by rfl)
    (hl1 : (apos.endLine == cpos.line) = true := by rfl) (hl2 : (ap2.endLine == cp2.line) = true := by rfl)
    (hs1 : starEach [.Call (.Attribute (.Name x p1) "pop" ap2) [e] [] cp2] X.env = (false, eval (.Call (.Attribute (.Name x p1) "pop" ap2) [e] [] cp2) X.env) :: starEach [] X.env := by rfl) (hs2 : starEach [e] X.env = (false, eval e X.env) :: starEach [] X.env := by rfl)
    (hp1 : (backTo cpos (starEach [] X.env)).any (·.1) = false := by rfl) (hp2 : (backTo cp2 (starEach [] X.env)).any (·.1) = false := by rfl)
    (hsw : swapsWith (.Call (.Attribute (.Name y p) "append" apos) [.Call (.Attribute (.Name x p1) "pop" ap2) [e] [] cp2] [] cpos) none pos.line X.env = pure false := by rfl) :
    DS X E (.Expr (.Call (.Attribute (.Name y p) "append" apos) [.Call (.Attribute (.Name x p1) "pop" ap2) [e] [] cp2] [] cpos) pos) (tDrop (tBM X.K "list" rAppend (tVar i) (tCons (tBM X.K "list" rPopAt (tVar j) (tCons te tNil)) tNil))) (gAppPop i j f) := by
  refine ⟨ps_expr (pe_bm PySem.F.plainAttrs_list PySem.F.slot_list_append PySem.F.type_list_append mt_append (pe_var hi hv hd hcd) (pa_cons (pe_bm PySem.F.plainAttrs_list PySem.F.slot_list_pop PySem.F.type_list_pop mt_popAt (pe_var hj hv2 hd2 hcd2) (pa_cons he.pe pa_nil hs2) hb2 hf2 hl2 hs2 hp2) pa_nil hs1) hb1 hf1 hl1 hs1 hp1) hsw, fun fr ow s σ H Dn o R e P => ?_⟩
  unfold gAppPop at e
  split at e
  · rename_i ys0 xs0 hy0 hx0
    obtain ⟨p, vs0, _, _, _, hσ, _, hp, _⟩ := own_at R hy0
    obtain ⟨p', vs0', _, _, _, hσ', _, hp', _⟩ := own_at R hx0
    refine ⟨.ref p, hσ, .inl ⟨rfl, vs0, SqL.of hp⟩, .ref p', hσ', .inl ⟨rfl, vs0', SqL.of hp'⟩, ?_⟩
    refine tb_bind (t := te) he.td R e P fun d ar v H1 R1 k1 r1 e1 P1 => ?_
    unfold kAppPop at e1
    cases z : kPop j d (s.wa ar) with
    | none => rw [z] at e1; cases e1
    | some pr =>
      rw [z] at e1
      unfold kPop at z
      cases d with
      | int jn =>
        dsimp only at z
        cases y1 : s.sl[j]? with
        | none => rw [y1] at z; cases z
        | some sl1 =>
          rw [y1] at z
          cases sl1 with
          | ol xs =>
            dsimp only at z
            cases y2 : ixN xs.length jn with
            | none => rw [y2] at z; cases z
            | some n =>
              rw [y2] at z
              dsimp only [Option.bind_some] at z
              cases y3 : xs[n]? with
              | none => rw [y3] at z; cases z
              | some dd =>
                rw [y3] at z
                cases z
                dsimp only [Option.bind_some] at e1
                rw [List.getElem?_set_ne (Ne.symm hij)] at e1
                cases y4 : s.sl[i]? with
                | none => rw [y4] at e1; cases e1
                | some sl2 =>
                  rw [y4] at e1
                  cases sl2 with
                  | ol ys =>
                    dsimp only at e1
                    split at e1
                    · rename_i hlim
                      cases e1
                      obtain ⟨q', vx, hi', h1, h2, hσ2, hl, hq', hr, hF, hC⟩ := own_at R1 y1
                      rw [hσ'] at hσ2
                      cases hσ2
                      obtain ⟨vd, hvd, rd⟩ := hr.get y3
                      have hlen := hr.len
                      have hle : (xs.eraseIdx n).length ≤ sizeLine := Nat.le_trans (List.length_eraseIdx_le xs n) hl
                      have Rp := R1.updO hi' h1 h2 (xs := xs.eraseIdx n) (vs := vx.eraseIdx n) hle (hr.erase n)
                      have afp := af_upd Rp hF
                      have kkp : ∀ b u, ¬ fr.F ow b → H1 b = some u → upd H1 p' (.lst (vx.eraseIdx n)) b = some u ∧ ¬ fr.F ow b := fun b u nb hb => ⟨by
                        rw [upd_ne fun z => nb (by rw [z]; exact hF)]
                        exact hb, nb⟩
                      have rd2 : Rep X.K (upd H1 p' (.lst (vx.eraseIdx n))) (fr.F ow) dd vd := rd.keep kkp
                      have hy5 : ({ (s.wa ar) with sl := s.sl.set j (.ol (xs.eraseIdx n)) } : S).sl[i]? = some (.ol ys) := by
                        show (s.sl.set j (.ol (xs.eraseIdx n)))[i]? = _
                        rw [List.getElem?_set_ne (Ne.symm hij)]
                        exact y4
                      obtain ⟨q2, vy, hi2, g1, g2, hσ3, hl2, hq2, hr2, hF2, hC2⟩ := own_at Rp hy5
                      rw [hσ] at hσ3
                      cases hσ3
                      have hz : ys.length < sizeLine := Nat.lt_of_lt_of_le hlim (by rw [sizeLine_eq]; decide)
                      have Rn := Rp.updO hi2 g1 g2 (xs := ys ++ [dd]) (vs := vy ++ [vd]) (by rw [List.length_append]; exact hz) (hr2.app (RepL.cons rd2 RepL.nil))
                      obtain ⟨b1, b2⟩ := ixN_bound y2 hl
                      refine ⟨p', vx, jn, n, vd, rfl, by rw [RepQ.int r1], hq', b1, b2, ?_, hvd, p, vy, vd, rfl, rfl, hq2, by rw [hr2.len]; exact hz, P1 ow σ _ (afp.trans (af_upd Rn hF2))⟩
                      rw [hlen]
                      exact (ixN_seq y2).1
                    · cases e1
                  | _ => cases e1
          | _ => cases z
      | _ => cases z
  · cases e
/-! ### short names -/
theorem dc_globI {x : Str} {i : Int} (hg : Gl X x) (hm : ∃ t, X.mg x = some (.int i t)) (hd : (x == ("__debug__" : Str)) = false := by decide) : DE X E q (.Name x pos) (tC (.int i)) (fC (.int i)) := by
  obtain ⟨t, hm⟩ := hm
  exact dc_glob hg hm ⟨t, rfl⟩ (fun _ _ => rfl) hd
theorem dc_cls {x : Str} {C : Addr} (hg : Gl X x) (hm : X.mg x = some (.ref C)) (hd : (x == ("__debug__" : Str)) = false := by decide) : DE X E q (.Name x pos) (tC (.ref C)) (fC (.adr C)) := dc_glob hg hm rfl (fun _ _ => rfl) hd
theorem dc_ty {x : Str} {T : String} (hg : Gl X x) (hm : X.mg x = none) (hv : bootBuiltins x = some (.type T)) (hn : x ≠ "__name__" := by decide) (hd : (x == ("__debug__" : Str)) = false := by decide) : DE X E q (.Name x pos) (tC (.ty T)) (fC (.ty T)) := dc_bltn hg hm hv rfl (fun _ _ => rfl) hn hd
theorem de_isi {C : Addr} {f : M (List D)} (F : IsiF X.K C) (hg : Gl X "isinstance") (hm : X.mg "isinstance" = none) (ha : DA X E false (e :: es) t f)
    (he : starEach (e :: es) X.env = (false, eval e X.env) :: starEach es X.env := by rfl) (hpl : (backTo pos (starEach es X.env)).any (·.1) = false := by rfl) : DE X E q (.Call (.Name "isinstance" p) (e :: es) [] pos) (tCB (rIsi X.K) t) (mCB (gIsi C) f) :=
  de_callB call_isi (v_isi F) hg hm (by decide +kernel) ha (by decide) (by decide) he hpl
end
end DL
set_option Elab.async false
set_option linter.all false
set_option maxRecDepth 100000
/-! DX: chains; classes -/
namespace DL
open PySem L2 PySem.Spec PyProof.Rows
/-! ### readings by short names -/
abbrev xSub : R2 := rI0 fun i j => .int (i - j)
abbrev xMul : R2 := L2.rI CMul fun i j => .int (i * j)
abbrev xMod : R2 := L2.rI (fun _ j => 0 < j) fun i j => .int (i % j)
abbrev xFdiv : R2 := L2.rI CDiv fun i j => .int (i / j)
abbrev xPow : R2 := L2.rI CPow fun i j => .int (i ^ j.toNat)
abbrev xLt : R2 := rI0 fun i j => .bl (decide (i < j))
abbrev xLe : R2 := rI0 fun i j => .bl (decide (i ≤ j))
abbrev xGt : R2 := rI0 fun i j => .bl (decide (j < i))
abbrev xGe : R2 := rI0 fun i j => .bl (decide (j ≤ i))
abbrev xNeg : V → Hp → VK → Prop := rU fun i => .int (-i)
abbrev xInt : List V → Hp → VK → Prop := fun xs H Q => (∃ i, xs = [.int i] ∧ Q (.int i) H) ∨ ∃ k, xs = [.bl k] ∧ Q (.int (if k then 1 else 0)) H
abbrev xTuple (K : PySem.W.Frag) : List V → Hp → VK → Prop := fun xs H Q => ∃ p ys, xs = [.ref p] ∧ ((SqL K H p ys ∧ ∀ l, H l = none → Q (.ref l) (upd H l (.tup ys))) ∨ (SqT K H p ys ∧ Q (.ref p) H))
abbrev xList (K : PySem.W.Frag) : List V → Hp → VK → Prop := fun xs H Q => ∃ p ys, xs = [.ref p] ∧ (SqL K H p ys ∨ SqT K H p ys) ∧ ∀ l, H l = none → Q (.ref l) (upd H l (.lst ys))
abbrev tTru (K : PySem.W.Frag) (t : TE) : TT := fun σ H Q => t σ H fun x H' => ∃ k, TruV K x H' k ∧ Q k H'
section
variable {X : Cx} {E : XK} {q q1 q2 q3 : Bool} {a b c : Expr} {pos : Pos} {ta tb tc : TE}
theorem de_chain {op op' : CmpOp} {r r' : R2} {g g' : D → D → Option D} {f1 f2 f3 : M D} (ho : OpR X (compareOp op) r) (hr : V2 X.K r q1 q2 false g) (ho' : OpR X (compareOp op') r') (hr' : V2 X.K r' q2 q3 q g') (ha : DE X E q1 a ta f1) (hb : DE X E q2 b tb f2) (hc : DE X E q3 c tc f3)
    (hm : lastMarks [op, op'] [b, c] = false := by with_unfolding_all rfl) : DE X E q (.Compare a [op, op'] [b, c] pos) (tChain r r' ta tb tc) (mChain g g' f1 f2 f3) :=
  ⟨pe_chain ho ho' ha.pe hb.pe hc.pe hm, td_chain hr hr' ha.td hb.td hc.td⟩
theorem dt_chain {op op' : CmpOp} {r r' : R2} {g g' : D → D → Option D} {f1 f2 f3 : M D} (ho : OpR X (compareOp op) r) (hr : V2 X.K r q1 q2 false g) (ho' : OpR X (compareOp op') r') (hr' : V2 X.K r' q2 q3 false g') (ha : DE X E q1 a ta f1) (hb : DE X E q2 b tb f2) (hc : DE X E q3 c tc f3)
    (hm : lastMarks [op, op'] [b, c] = false := by with_unfolding_all rfl) : DT X E (.Compare a [op, op'] [b, c] pos) (tTest (tChain r r' ta tb tc)) (mB (mChain g g' f1 f2 f3)) :=
  ⟨pt_chain ho ho' ha.pe hb.pe hc.pe hm, td_test (td_chain hr hr' ha.td hb.td hc.td)⟩
end
/-- the def promises nothing: where a recursion's fuel ends -/
theorem fd_none {P : Program} {w : World} {K : PySem.W.Frag} {mg : Str → Option Value} {base : Heap} {x qual : Str} {st : Stmt} {f : Addr} {fd : FuncData} {ps : List Str} {k n : Nat} (F : L2.Fun K x qual st f fd) (hm : mg x = some (.ref f)) (b : Binds K fd ps []) (hn : ps.length = n) : Fd P w K mg base k x n (fun _ _ => none) := by
  subst hn
  exact ⟨f, fd, ps, ⟨spD_len, fun A outer s H args us vs Q E _ _ _ _ h => by
    obtain ⟨_, _, _, _, _, hm, _⟩ := h
    cases hm⟩, hm, F.kp, b⟩
/-- a class whose instances never change behind their making -/
structure Cd (P : Program) (w : World) (K : PySem.W.Frag) (mg : Str → Option Value) (base : Heap) (k : Nat) (x : Str) (C : Addr) (n : Nat) (mir : Mir) (mk : List D → Option (List Str × List D)) : Prop where
  ex : ∃ (f : Addr) (fd : FuncData) (ps : List Str), FnOk P w K mg base L2.CX0 k f fd ps (spD K (n + 1) mir) ∧ Mk K C f ∧ mg x = some (.ref C) ∧ Binds K fd ps []
  mkm : ∀ (y : Addr) ds ns xs, ds.length = n → mk ds = some (ns, xs) → mir (.adr y :: ds) [(y, .ins C [] [])] = some (.ok .non [(y, .ins C ns xs)])
open Classical in
/-- what __init__ leaves of a new instance, wherever it stands -/
noncomputable def mkOf (C : Addr) (mir : Mir) (ds : List D) : Option (List Str × List D) := if h : ∃ p : List Str × List D, ∀ y : Addr, mir (.adr y :: ds) [(y, .ins C [] [])] = some (.ok .non [(y, .ins C p.1 p.2)]) then some h.choose else none
theorem mkOf_ok {C : Addr} {mir : Mir} : ∀ (y : Addr) (ds : List D) ns xs, mkOf C mir ds = some (ns, xs) → mir (.adr y :: ds) [(y, .ins C [] [])] = some (.ok .non [(y, .ins C ns xs)]) := by
  intro y ds ns xs h
  unfold mkOf at h
  split at h
  · rename_i hp
    have := hp.choose_spec y
    rw [Option.some.inj h] at this
    exact this
  · cases h
theorem mkOf_eq {C : Addr} {mir : Mir} {ds : List D} {ns : List Str} {xs : List D} (h : ∀ y : Addr, mir (.adr y :: ds) [(y, .ins C [] [])] = some (.ok .non [(y, .ins C ns xs)])) : mkOf C mir ds = some (ns, xs) := by
  have hp : ∃ p : List Str × List D, ∀ y : Addr, mir (.adr y :: ds) [(y, .ins C [] [])] = some (.ok .non [(y, .ins C p.1 p.2)]) := ⟨(ns, xs), h⟩
  unfold mkOf
  rw [dif_pos hp]
  have h1 := hp.choose_spec 0
  rw [h 0] at h1
  have h2 : ns = hp.choose.1 ∧ xs = hp.choose.2 := by
    injection h1 with h1
    injection h1 with _ h1
    injection h1 with h1 _
    injection h1 with _ h1
    injection h1 with _ h3 h4
    exact ⟨h3, h4⟩
  rw [h2.1, h2.2]
theorem Cd.cn {X : Cx} {E : XK} {j k n : Nat} {x : Str} {C : Addr} {mir : Mir} {mk : List D → Option (List Str × List D)} (h : Cd X.prog X.w X.K X.mg X.base k x C n mir mk) (hr : Room j X.A) (hk : k + 1 ≤ j := by decide) : Cn X L2.CX0 E x C n mir mk := by
  obtain ⟨f, fd, ps, h1, h2, h3, h4⟩ := h.ex
  exact ⟨k, f, fd, ps, h1, hr.mono hk, h2, h3, h4, (fun _ _ _ _ _ _ _ h => h.elim), h.mkm⟩
end DL
set_option Elab.async false
set_option linter.all false
set_option maxRecDepth 100000
/-! DY: slices, join, pop, constants of the module, dict comprehensions -/
namespace DL
open PySem L2 PySem.Spec PyProof.Rows DLk
section
variable {X : Cx} {E : XK} {q q1 q2 : Bool} {st : Stmt} {rest : List Stmt} {e a b c o i tg iter elt value : Expr} {es ifs : List Expr} {pos p p1 p2 apos cpos pos' : Pos}
/-! ### slices -/
structure DO (X : Cx) (E : XK) (e : Option Expr) (t : TO) (f : M (Option Int)) : Prop where
  pe : PO X e t
  td : TDg X.K (fun _ _ _ _ _ (a : Option Int) v => v = a) E t f
def fNoPart : M (Option Int) := retM none
def fPart (f : M D) : M (Option Int) := bindM f fun d => liftM (match d with
  | .int i => some (some i)
  | _ => none)
theorem do_none : DO X E none tNoPart fNoPart := ⟨po_none, fun fr ow s σ H Q r R e P => by
  cases e
  exact P none H R Keep.refl rfl⟩
theorem do_some {te : TE} {f : M D} (h : DE X E false e te f) : DO X E (some e) (tPart te) (fPart f) := by
  refine ⟨po_some h.pe, fun fr ow s σ H Q r R e P => ?_⟩
  refine Pst.bind (t := te) h.td R e P fun d ar v H1 R1 k1 r1 e1 P1 => ?_
  obtain ⟨x, e2, rfl⟩ := liftM_some e1
  cases d with
  | int i =>
    cases e2
    exact ⟨i, RepQ.int r1, P1 (some i) H1 R1 Keep.refl rfl⟩
  | _ => cases e2
abbrev rSl3 (K : PySem.W.Frag) : V → Option Int → Option Int → Hp → VK → Prop := fun x lo hi H Q => (rSlL K x lo hi H Q ∨ rSlA K x lo hi H Q) ∨ rSlS x lo hi H Q
theorem sl_3 : SlR X (rSl3 X.K) := (sl_list.or sl_tupA).or sl_str
def cutD (xs : List D) (lo hi : Option Int) : List D := (xs.drop (HT.sIx xs.length 0 lo)).take (HT.sIx xs.length xs.length hi - HT.sIx xs.length 0 lo)
def gSl (d : D) (lo hi : Option Int) : Option D := match d with
  | .lst xs => some (.lst (cutD xs lo hi))
  | .tup xs => some (.tup (cutD xs lo hi))
  | .str z => if z.length ≤ LIM then some (.str (cutS z lo hi)) else none
  | _ => none
def mSl (f : M D) (fl fh : M (Option Int)) : M D := bindM f fun d => bindM fl fun lo => bindM fh fun hi => liftM (gSl d lo hi)
theorem cutD_len (xs : List D) (lo hi : Option Int) : (cutD xs lo hi).length ≤ xs.length := by
  unfold cutD
  rw [List.length_take, List.length_drop]
  omega
theorem cut_rep {K : PySem.W.Frag} {H : Hp} {B : Addr → Prop} {xs : List D} {vs : List V} {lo hi : Option Int} (h : RepL K H B xs vs) : RepL K H B (cutD xs lo hi) (cutV vs lo hi) := by
  unfold cutD cutV
  rw [h.len]
  exact (h.drop _).take _
theorem cut_whole {xs : List D} {lo hi : Option Int} (h : HT.sIx xs.length 0 lo = 0 ∧ HT.sIx xs.length xs.length hi = xs.length) : cutD xs lo hi = xs := by
  unfold cutD
  rw [h.1, h.2]
  simp
theorem de_slice {te : TE} {tl th : TO} {f : M D} {fl fh : M (Option Int)} {lo hi : Option Expr} (he : DE X E false e te f) (hl : DO X E lo tl fl) (hh : DO X E hi th fh) : DE X E q (.Subscript e (.Slice lo hi none p2) pos) (L2.tSl (rSl3 X.K) te tl th) (mSl f fl fh) := by
  refine ⟨pe_slice sl_3 he.pe hl.pe hh.pe, fun fr ow s σ H Q r R e P => ?_⟩
  refine Pst.bind (t := te) he.td R e P fun d ar v H1 R1 k1 r1 e1 P1 => ?_
  refine Pst.bind (t := tl) hl.td R1 e1 P1 fun lo ar2 lo' H2 R2 k2 r2 e2 P2 => ?_
  refine Pst.bind (t := th) hh.td R2 e2 P2 fun hi ar3 hi' H3 R3 k3 r3 e3 P3 => ?_
  obtain rfl : lo' = lo := r2
  obtain rfl : hi' = hi := r3
  obtain ⟨x, e4, rfl⟩ := liftM_some e3
  have r4 := RepQ.kp (RepQ.kp r1 k2) k3
  cases d with
  | lst xs =>
    cases e4
    obtain ⟨a, vs, rfl, _, hlen, hp, hx⟩ := r4.lst
    refine .inl (.inl ⟨a, vs, rfl, SqL.of hp, fun T hT => P3 _ _ (R3.ext (Ext.upd hT)) (Keep.ext (Ext.upd hT)) (.inl ⟨T, _, rfl, Nat.le_trans (cutD_len _ _ _) hlen, ⟨R3.fresh hT, upd_same⟩, ?_⟩)⟩)
    exact ((cut_rep hx).new hT).weak fun a z => .inl z
  | tup xs =>
    cases e4
    obtain ⟨a, vs, rfl, hlen, hp, hx, hR⟩ := r4.tup
    refine .inl (.inr ⟨a, vs, rfl, SqT.of hp, fun hw => ?_, fun _ T hT => ?_⟩)
    · rw [hx.len] at hw
      have P3 := P3 (.ref a) H3 R3 Keep.refl
      rw [cut_whole hw] at P3
      exact P3 (.inl hR)
    · exact P3 _ _ (R3.ext (Ext.upd hT)) (Keep.ext (Ext.upd hT)) (.inl (Rep.tupNew R3 hT (cut_rep hx) (Nat.le_trans (cutD_len _ _ _) hlen)))
  | str z =>
    unfold gSl at e4
    dsimp only at e4
    split at e4
    · rename_i hz
      cases e4
      rw [r4.str]
      exact .inr ⟨z, rfl, lim_line hz, P3 _ H3 R3 Keep.refl (.inl rfl)⟩
    · cases e4
  | _ => cases e4
/-! ### join -/
def strsOf : List D → Option (List Str)
  | [] => some []
  | .str z :: r => (strsOf r).map (z :: ·)
  | _ :: _ => none
theorem strsOf_eq : ∀ {ds : List D} {zs : List Str}, strsOf ds = some zs → ds = zs.map D.str
  | [], zs, h => by cases h; rfl
  | d :: ds, zs, h => by
    cases d with
    | str z =>
      unfold strsOf at h
      cases y : strsOf ds with
      | none => rw [y] at h; cases h
      | some ws =>
        rw [y] at h
        cases h
        rw [List.map_cons, ← strsOf_eq y]
    | _ => cases h
def gJoin (s d : D) : Option D := match s, d with
  | .str a, .lst xs => (strsOf xs).bind fun zs => if (zs.map (·.length)).sum + zs.length * a.length ≤ 16777216 then some (.str (Txt.join a zs)) else none
  | _, _ => none
def isStrD : D → Bool
  | .str _ => true
  | _ => false
def mJoin (f g : M D) : M D := bindM f fun s => if isStrD s = true then bindM g fun d => liftM (gJoin s d) else fun _ => none
abbrev rJoin (K : PySem.W.Frag) : V → List V → Hp → VK → Prop := fun x xs H Q => ∃ a p, ∃ ys : List Str, x = .str a ∧ xs = [.ref p] ∧ (SqL K H p (ys.map V.str) ∨ SqT K H p (ys.map V.str)) ∧
      (ys.map (·.length)).sum + ys.length * a.length ≤ 16777216 ∧ Q (.str (Txt.join a ys)) H
theorem de_join {to te : TE} {f g : M D} (ho : DE X E false o to f) (he : DE X E false e te g) (hs : starEach [e] X.env = [(false, eval e X.env)] := by rfl) (hbase : attributeBase o "join" X.env (eval o X.env) = eval o X.env := by rfl) (hline : (apos.endLine == pos.line) = true := by rfl) :
    DE X E q (.Call (.Attribute o "join" apos) [e] [] pos) (tM1 (rJoin X.K) to te) (mJoin f g) := by
  refine ⟨pe_join ho.pe he.pe hs hbase hline, fun fr ow s σ H Q r R e P => ?_⟩
  refine Pst.bind (t := to) ho.td R e P fun d ar v H1 R1 k1 r1 e1 P1 => ?_
  cases d with
  | str z =>
    have e1 : bindM g (fun d => liftM (gJoin (.str z) d)) (s.wa ar) = some r := e1
    refine ⟨⟨z, RepQ.str r1⟩, ?_⟩
    refine Pst.bind (t := te) he.td R1 e1 P1 fun d2 ar2 v2 H2 R2 k2 r2 e2 P2 => ?_
    obtain ⟨x, e4, rfl⟩ := liftM_some e2
    cases d2 with
    | lst xs =>
      unfold gJoin at e4
      dsimp only at e4
      cases y : strsOf xs with
      | none => rw [y] at e4; cases e4
      | some zs =>
        rw [y] at e4
        dsimp only [Option.bind_some] at e4
        split at e4
        · rename_i hz
          cases e4
          have := strsOf_eq y
          subst this
          obtain ⟨a, vs, rfl, _, _, hp, hx⟩ := RepQ.lst r2
          rw [hx.strs] at hp
          exact ⟨z, a, zs, RepQ.str r1, rfl, .inl (SqL.of hp), hz, P2 _ H2 R2 Keep.refl (.inl rfl)⟩
        · cases e4
    | _ => cases e4
  | _ => cases e1
/-! ### constants of the module -/
theorem dc_globS {x : Str} {z : Str} (hg : Gl X x) (hm : ∃ t, X.mg x = some (.str z t)) (hd : (x == ("__debug__" : Str)) = false := by decide) : DE X E q (.Name x pos) (tC (.str z)) (fC (.str z)) := by
  obtain ⟨t, hm⟩ := hm
  exact dc_glob hg hm ⟨t, rfl⟩ (fun _ _ => rfl) hd
/-- a tuple of texts that the top has written, at a -/
structure WtS (K : PySem.W.Frag) (mg : Str → Option Value) (x : Str) (a : Addr) (zs : List Str) : Prop where
  mg : mg x = some (.ref a)
  wt : WT K a (zs.map V.str)
theorem dc_globW {x : Str} {a : Addr} {zs : List Str} (hg : Gl X x) (h : WtS X.K X.mg x a zs) (hl : zs.length ≤ sizeLine := by decide) (hd : (x == ("__debug__" : Str)) = false := by decide) : DE X E q (.Name x pos) (tC (.ref a)) (fC (.wt (zs.map D.str))) := by
  refine dc_glob hg h.mg rfl (fun H B => ⟨a, zs.map V.str, rfl, by rw [List.length_map]; exact hl, h.wt, ?_⟩) hd
  clear h hl hg
  induction zs with
  | nil => rfl
  | cons z zs ih => exact RepL.cons rfl ih
/-! ### a, b = a list -/
theorem draw_list {prog : Program} {w : World} {A : Around} {E : Value → Shared → Prop} {it t : Addr} {items : Array Value} (hne : t ≠ it) : ∀ (n i : Nat) (s : Shared) (Q : List Value → Shared → Prop), s.heap.IsListIter it t i → s.heap.IsList t items → i + n ≤ items.size →
    (∀ h', h'.IsListIter it t (i + n) → Heap.SameBut it s.heap h' → Q ((items.toList.drop i).take n) { s with heap := h' }) → wpAny (model prog w) A (draw (.ref it) n) Q E s
  | 0, i, s, Q, hit, _, _, hQ => by
    show wpAny _ _ (pure []) Q E s
    exact wpAny_pure (by simpa using hQ s.heap hit (Heap.SameBut.refl ..))
  | n + 1, i, s, Q, hit, ht, hle, hQ => by
    have hlt : i < items.size := by omega
    show wpAny _ _ (pyNext (.ref it) >>= _) Q E s
    refine wpAny_bind (wpAny_pyNext_list_item hit ht (x := items[i]) (by simp [hlt]) fun h₁ hit₁ hs₁ => ?_)
    refine wpAny_bind (wpAny_holding (draw_list hne n (i + 1) _ _ hit₁ (ht.extBut hs₁.extBut hne) (by omega) fun h₂ hit₂ hs₂ => wpAny_pure ?_))
    have hd : items.toList.drop i = items[i] :: items.toList.drop (i + 1) := by simp [List.drop_eq_getElem_cons, hlt]
    have := hQ h₂ (by rw [show i + (n + 1) = i + 1 + n by omega]; exact hit₂) (hs₁.trans hs₂)
    rw [hd, List.take_succ_cons] at this
    exact this
theorem assign_list {prog : Program} {w : World} {A : Around} {E : Value → Shared → Prop} {s : Shared} {env : Env} {elts : List Expr} {x1} {pos : Pos} {t : Addr} {items : Array Value} {Q : Unit → Shared → Prop} (hh : A.handled = none) (ht : s.heap.IsList t items)
    (hn : (assignEach elts env).length = items.size) (hstar : (assignEach elts env).findIdx? (·.1) = none)
    (h : ∀ h', Heap.ExtBut s.heap.objs.size s.heap h' → wpAny (model prog w) A (assignInOrder ((assignEach elts env).map (·.2)) items.toList) Q E { s with heap := h' }) :
    wpAny (model prog w) A (assign (.Tuple elts x1 pos) env (.ref t)) Q E s := by
  have hlt : t ≠ s.heap.objs.size := by obtain ⟨o, ho, _⟩ := ht; exact Nat.ne_of_lt (Heap.lt_size ho)
  rw [assign_Tuple]
  refine wpAny_bind (wpAny_standAt ?_)
  unfold unpack
  rw [hn, hstar]
  refine wpAny_bind (wpAny_holding ?_)
  unfold unpackItems
  refine wpAny_bind ?_
  unfold notIterableAtAll
  refine wpAny_bind (wpAny_specialOf ht.typeIs PySem.F.slot_list_iter.lookup ?_)
  refine wpAny_pure ?_
  simp only [Bool.false_eq_true, if_false]
  refine wpAny_bind (wpAny_holding (wpAny_pyIter_list ht ?_))
  refine wpAny_bind (wpAny_holding (draw_list hlt items.size 0 _ _ ⟨_, Heap.get?_push_size _ rfl, rfl, rfl⟩ (ht.push _) (by omega) fun h₁ hit₁ hs₁ => ?_))
  have hall : List.take items.size (List.drop 0 items.toList) = items.toList := by
    rw [List.drop_zero]; exact List.take_of_length_le (by simp)
  rw [hall]
  rw [if_neg (by simp)]
  have ht₁ : h₁.IsList t items := (ht.push _).extBut hs₁.extBut hlt
  refine wpAny_bind (wpAny_holding (wpAny_pyNext_list_end hh hit₁ ht₁ (by simp) fun h₂ he₂ => ?_))
  simp only [Option.isSome_none, Bool.false_eq_true, if_false]
  refine wpAny_pure (h h₂ fun b o hb e => he₂ b o hb (hs₁.extBut b o hb (Heap.get?_push_of_some _ e)))
def gLst (K : PySem.W.Frag) (n : Nat) (t : TGs) : TG := fun v σ H Q => ∃ a xs, v = .ref a ∧ SqL K H a xs ∧ xs.length = n ∧ t xs σ H Q
theorem pg_lst {k n : Nat} {t : TGs} (hc : X.calm = true) (h : PGs X es t) (hn : (assignEach es X.env).length = n := by rfl) (hst : (assignEach es X.env).findIdx? (·.1) = none := by rfl) : PG X (.Tuple es k pos) (gLst X.K n t) := by
  refine ⟨fun pins s σ H v u Q I r hw => ?_⟩
  obtain ⟨a, xs, e1, hq, hl, hw⟩ := hw
  subst e1
  cases r
  obtain ⟨its, rv, ht, hz⟩ := I.list hq
  refine assign_list (I.ok.hd hc) ht.isList (by simp [hn, ← hl, rv.length]) hst fun h' hx => ?_
  have I1 : Inv X pins σ H { s with heap := h' } := I.kept (t' := s.toks) fun b o e => hx b o (Nat.ne_of_lt (Heap.lt_size e)) e
  exact h.run pins _ σ H xs _ Q I1 (by simpa using rv) hw
theorem dg_lst {k n : Nat} {is : List Nat} {t : TGs} (hc : X.calm = true) (h : DGs X es t is) (hl : is.length = n := by rfl)
    (hn : (assignEach es X.env).length = n := by rfl) (hst : (assignEach es X.env).findIdx? (·.1) = none := by rfl) : DG X (.Tuple es k pos) (gLst X.K n t) (.ls is) := by
  refine ⟨pg_lst hc h.pe hn hst, fun fr ow s σ H d v Q s' R r e kk => ?_⟩
  cases d with
  | lst ds =>
    obtain ⟨a, vs, rfl, _, ⟨_, h1⟩, h2⟩ := r
    have e : putAll is ds s = some s' := e
    exact ⟨a, vs, rfl, SqL.of h1, by rw [h2.len, putAll_len e, hl], h.td fr ow s σ H ds vs Q s' R h2 e kk⟩
  | _ => cases e
/-! ### targets = x.pop() -/
def kPopT (i : Nat) (T : Tg) : S → Option Out := fun s => match s.sl[i]? with
  | some (.ol xs) => (xs[xs.length - 1]?).bind fun d => (setT T d { s with sl := s.sl.set i (.ol xs.dropLast) }).map .nx
  | _ => none
theorem RepL.dropLast {K : PySem.W.Frag} {H : Hp} {B : Addr → Prop} : ∀ {ds : List D} {vs : List V}, RepL K H B ds vs → RepL K H B ds.dropLast vs.dropLast
  | [], _, h => by cases h; rfl
  | [d], _, h => by
    obtain ⟨v, r, rfl, _, h2⟩ := h
    cases h2
    rfl
  | d :: d2 :: ds, _, h => by
    obtain ⟨v, r, rfl, h1, h2⟩ := h
    obtain ⟨v2, r2, rfl, h3, h4⟩ := h2
    exact ⟨v, _, rfl, h1, RepL.dropLast (ds := d2 :: ds) (RepL.cons h3 h4)⟩
theorem ds_asgPop {x : Str} {g : TG} {T : Tg} (i : Nat) (hg : DG X tg g T) (hi : X.N[i]? = some x := by rfl) (hv : Vis X.env.scope x := by first | exact Or.inl rfl | exact Or.inr (Or.inl rfl)) (hd : (x == ("__debug__" : Str)) = false := by decide) (hcd : (x == ("__classdict__" : Str)) = false := by decide)
    (hbase : attributeBase (.Name x p) "pop" X.env (eval (.Name x p) X.env) = eval (.Name x p) X.env := by rfl) (hline : (apos.endLine == cpos.line) = true := by rfl)
    (hs : swapsWithSole [tg] (.Call (.Attribute (.Name x p) "pop" apos) [] [] cpos) pos.line X.env = pure false := by rfl) (hw : swappedStores [tg] (.Call (.Attribute (.Name x p) "pop" apos) [] [] cpos) X.env = pure none := by rfl)
    (h1 : (assignEach [tg] X.env).map (·.2) = [assign tg X.env] := by rfl) : DS X E (.Assign [tg] (.Call (.Attribute (.Name x p) "pop" apos) [] [] cpos) pos) (tAsg (tBM0 X.K "list" rPop (tVar i)) g) (kPopT i T) := by
  refine ⟨ps_asg (pe_bm0 PySem.F.plainAttrs_list PySem.F.slot_list_pop PySem.F.type_list_pop mt_pop (pe_var hi hv hd hcd) hbase hline) hg.pe hs hw h1, fun fr ow s σ H Dn o R e P => ?_⟩
  unfold kPopT at e
  split at e
  · rename_i xs hx
    obtain ⟨p, vs, hi', g1, g2, hσ, hl, hp, hr, hF, hC⟩ := own_at R hx
    cases y : xs[xs.length - 1]? with
    | none => rw [y] at e; cases e
    | some d =>
      rw [y] at e
      dsimp only [Option.bind_some] at e
      cases z : setT T d { s with sl := s.sl.set i (.ol xs.dropLast) } with
      | none => rw [z] at e; cases e
      | some s' =>
        rw [z] at e
        cases e
        obtain ⟨v, hv', rv⟩ := hr.get y
        have Rn := R.updO hi' g1 g2 (xs := xs.dropLast) (vs := vs.dropLast) (by rw [List.length_dropLast]; omega) hr.dropLast
        have kk : ∀ b u, ¬ fr.F ow b → H b = some u → upd H p (.lst vs.dropLast) b = some u ∧ ¬ fr.F ow b := fun b u nb hb => ⟨by
          rw [upd_ne fun z => nb (by rw [z]; exact hF)]
          exact hb, nb⟩
        refine ⟨.ref p, hσ, .inl ⟨rfl, vs, SqL.of hp⟩, p, vs, v, rfl, rfl, hp, by rw [hr.len]; exact hv', ?_⟩
        exact hg.td fr ow _ σ _ d v _ s' Rn (rv.keep kk) z fun σ' ow' R' st' _ => P ow' σ' _ ((af_upd Rn hF).trans ⟨R', st'.stp, fun a h => h⟩)
  · cases e
end
end DL
set_option Elab.async false
set_option linter.all false
set_option maxRecDepth 100000
/-! DZ: dict comprehensions with one for -/
namespace DL
open PySem L2 PySem.Spec PyProof.Rows DLk
section
variable {J : It} {n : Nat} {G : Hp → Prop} {Y : Nat → Hp → V → Hp → Prop}
theorem dc_it (w : Walk J n G Y) {g : TG} {tt : TT} {tk tv : TE} {vs : List Nat} {σ : L2.St} {H1 : Hp} {D : Addr} {Qd : Hp → Prop} (Pv : Nat → Hp → Prop) (h0 : Pv 0 (upd H1 D (.dK []))) (hG : ∀ i H, i ≤ n → Pv i H → G H)
    (hs : ∀ i x H H', i < n → Pv i H → Y i H x H' → g x (L2.wipe σ vs) H' fun σ2 H2 => L2.wipe σ2 vs = L2.wipe σ vs ∧ tt σ2 H2 fun b H3 =>
      if b = true then tk σ2 H3 fun y H4 => tv σ2 H4 fun z H5 => ∃ kvs k, y = kV k ∧ H5 D = some (.dK kvs) ∧ kvs.length < sizeLine ∧ Pv (i + 1) (upd H5 D (.dK (putK kvs k z))) else Pv (i + 1) H3) (hd : ∀ H, Pv n H → Qd H) :
    ∃ W : Nat → Nat → Hp → Prop, (∃ m, W 0 m (upd H1 D (.dK []))) ∧ ∀ i m H, W i m H →
      (J.stop i H ∧ Qd H) ∨ (J.go i H ∧ ∃ Nx : Hp → Prop, (∀ H', Nx H' → ∃ m', m' < m ∧ W (i + 1) m' H') ∧ ∀ x H', J.yld i H x H' → g x (L2.wipe σ vs) H' fun σ2 H2 => L2.wipe σ2 vs = L2.wipe σ vs ∧ tt σ2 H2 fun b H3 =>
        if b = true then tk σ2 H3 fun y H4 => tv σ2 H4 fun z H5 => ∃ kvs k, y = kV k ∧ H5 D = some (.dK kvs) ∧ kvs.length < sizeLine ∧ Nx (upd H5 D (.dK (putK kvs k z))) else Nx H3) := by
  refine ⟨fun i m H => m = n - i ∧ i ≤ n ∧ Pv i H, ⟨n, by simp, Nat.zero_le _, h0⟩, ?_⟩
  rintro i m H ⟨rfl, hi, p⟩
  have q := hG i H hi p
  by_cases hlt : i < n
  · refine .inr ⟨w.goes i H hlt q, Pv (i + 1), fun H' p' => ⟨n - (i + 1), by omega, rfl, hlt, p'⟩, fun x H' y => hs i x H H' hlt p (w.yields i H x H' hlt q y)⟩
  · have e : i = n := by omega
    subst e
    exact .inl ⟨w.stops H q, hd H p⟩
end
def dcF (set : D → S → Option S) (ft : M Bool) (fk fv : M D) (s0 : S) : List D → List Key × List D → Ar → Option ((List Key × List D) × Ar)
  | [], acc, ar => some (acc, ar)
  | x :: xs, acc, ar => (set x (s0.wa ar)).bind fun s1 => match ft s1 with
    | some (.ok true ar1) => match fk (s1.wa ar1) with
      | some (.ok k ar2) => match fv (s1.wa ar2) with
        | some (.ok d ar3) => k.key.bind fun k => dcF set ft fk fv s0 xs (putD acc.1 acc.2 k d) ar3
        | _ => none
      | _ => none
    | some (.ok false ar1) => dcF set ft fk fv s0 xs acc ar1
    | _ => none
def mDc (vs : List Nat) (T : Tg) (fi : M (List D)) (ft : M Bool) (fk fv : M D) : M D := bindM fi fun xs s => if xs.length ≤ LIM then (wipeS vs s).bind fun s0 => (dcF (setT T) ft fk fv s0 xs ([], []) s.ar).map fun p => .ok (.dk p.1.1 p.1.2) p.2 else none
section
variable {X : Cx} {E : XK} {q : Bool} {tg iter kx vx : Expr} {ifs : List Expr} {pos : Pos}
theorem de_dc {scope : Scope} {own : List (Str × Nat)} {w : TI} {g : TG} {tt : TT} {tk tv : TE} {T : Tg} {fi : M (List D)} {ft : M Bool} {fk fv : M D} (hc : X.calm = true) (hN : X.N.Nodup) (hi : DIt X E q tg iter w fi) (ok : BlkOk X.N X.env.scope scope own)
    (hg : ∀ (s : Shared) (H : Hp) (C : Addr) (cl : List (Str × Addr)) (fp : List Addr), DG (X.blk s H scope (compEnvC scope cl C X.env) fp) tg g T)
    (ht : ∀ (s : Shared) (H : Hp) (C : Addr) (cl : List (Str × Addr)) (fp : List Addr), DTs (X.blk s H scope (compEnvC scope cl C X.env) fp) XF ifs tt ft)
    (hk : ∀ (s : Shared) (H : Hp) (C : Addr) (cl : List (Str × Addr)) (fp : List Addr), DE (X.blk s H scope (compEnvC scope cl C X.env) fp) XF false kx tk fk)
    (he : ∀ (s : Shared) (H : Hp) (C : Addr) (cl : List (Str × Addr)) (fp : List Addr), DE (X.blk s H scope (compEnvC scope cl C X.env) fp) XF true vx tv fv)
    (hix : (T.ix.all fun j => (own.map (·.2)).contains j) = true := by decide) (hs : ∀ x, foldedSetIterable iter X.env x = pure x := by intro _; rfl) :
    DE X E q' (.DictComp kx vx [⟨tg, iter, ifs, 0⟩] scope pos) (tDc w g tt tk tv (own.map (·.2))) (mDc (own.map (·.2)) T fi ft fk fv) := by
  refine ⟨pe_dc hc hN hi.pe ok (fun s H C cl fp => (hg s H C cl fp).pe) (fun s H C cl fp => (ht s H C cl fp).pe) (fun s H C cl fp => (hk s H C cl fp).pe) (fun s H C cl fp => (he s H C cl fp).pe) hs, ?_⟩
  have hix' : ∀ j ∈ T.ix, j ∈ own.map (·.2) := fun j hj => by
    have := List.all_eq_true.mp hix j hj
    simpa using this
  generalize hvs : own.map (·.2) = vs at *
  intro fr ow s σ H Q r R0 e0 P
  refine Pst.bind (t := w) hi.td R0 e0 P fun xs ar J H1 R1 k1 r1 e1 P1 => ?_
  by_cases hlim : ¬ xs.length ≤ LIM
  · rw [if_neg hlim] at e1; cases e1
  replace hlim := Decidable.not_not.mp hlim
  rw [if_pos hlim] at e1
  intro Dn hD
  cases hw : wipeS vs (s.wa ar) with
  | none => rw [hw] at e1; cases e1
  | some s0 =>
    rw [hw] at e1
    dsimp only [Option.bind_some] at e1
    cases hlc : dcF (setT T) ft fk fv s0 xs ([], []) (s.wa ar).ar with
    | none => rw [hlc] at e1; cases e1
    | some pr =>
      obtain ⟨accF, arF⟩ := pr
      rw [hlc] at e1
      cases e1
      obtain ⟨G, Y, wk, cl⟩ := r1
      have hnF : ¬ fr.F ow Dn := R1.fresh hD
      have h00 : fr.H0 Dn = none := R1.fresh0 hD
      have hna : Dn ∉ (fr.plus Dn).ars := fun z => hnF (.inl (.inr z))
      have hban : (fr.plus Dn).ban Dn := .inr rfl
      have clo : ∀ {H' : Hp}, Keep fr.ars H1 H' → G H' ∧ ∀ i x H2 d, Y i H' x H2 → (∀ p, H' p = none → ¬ (fr.plus Dn).F ow p) → xs[i]? = some d → Ext H' H2 ∧ Rep X.K H2 ((fr.plus Dn).F ow) d x := fun {H'} kp =>
        cl ((fr.plus Dn).F ow) H' (fun a o h n => kp a o h fun z => n (by
          cases q with
          | true => exact .inl (.inr z)
          | false => exact .inr z)) fun a h z => by
            rcases Frm.plusF.mp z with z | z
            · exact z
            · rw [z] at h; exact absurd hD h
      refine dc_it wk (fun i Hh => ∃ acc ari kvs, dcF (setT T) ft fk fv s0 (xs.drop i) acc ari = some (accF, arF) ∧ Rl X.K (fr.plus Dn) ow ((s.wa ar).wa ari) σ Hh ∧ Hh Dn = some (.dK kvs) ∧ kvs.map (·.1) = acc.1 ∧ RepL X.K Hh ((fr.plus Dn).F ow) acc.2 (kvs.map (·.2)) ∧ acc.2.length ≤ i ∧ Keep fr.ars H1 Hh) ?_ ?_ ?_ ?_
      · exact ⟨([], []), _, [], hlc, R1.plus hD, upd_same, rfl, rfl, Nat.le_refl _, Keep.ext (Ext.upd hD)⟩
      · rintro i Hh _ ⟨acc, ari, kvs, _, _, _, _, _, _, kp⟩
        exact (clo kp).1
      · rintro i x Hh H' hi ⟨acc, ari, kvs, hl, Ri, hDi, hka, hra, hlen, kp⟩ hy
        have hxi : xs[i]? = some xs[i] := List.getElem?_eq_getElem hi
        obtain ⟨ex, rx⟩ := (clo kp).2 i x H' xs[i] hy (fun p hp => Ri.fresh hp) hxi
        have Ri' := Ri.ext ex
        have hdr : xs.drop i = xs[i] :: xs.drop (i + 1) := (List.drop_eq_getElem_cons hi)
        rw [hdr] at hl
        have hl : (setT T xs[i] (s0.wa ari)).bind _ = some (accF, arF) := hl
        cases hset : setT T xs[i] (s0.wa ari) with
        | none => rw [hset] at hl; cases hl
        | some s2 =>
          rw [hset] at hl
          dsimp only [Option.bind_some] at hl
          obtain ⟨Rw, hown⟩ := Rl.wipe Ri' (wipeS_ar ari hw)
          refine (hg ({} : Shared) H' 0 [] []).td (fr.plus Dn) ow (s0.wa ari) (L2.wipe σ vs) H' xs[i] x _ s2 Rw rx hset fun σ2 ow2 R2 st2 ea2 => ⟨st2.wipe hix', ?_⟩
          obtain rfl : ow2 = ow := st2.same fun j hj => hown j (hix' j hj)
          cases hft : ft s2 with
          | none => rw [hft] at hl; cases hl
          | some rt =>
            rw [hft] at hl
            cases rt with
            | er C ns ys ar' => cases hl
            | ok b ar1 =>
              refine (ht ({} : Shared) H' 0 [] []).td (fr.plus Dn) ow2 s2 σ2 H' _ _ R2 hft fun b' H3 R3 k3 eb => ?_
              obtain rfl : b = b' := eb
              have kp3 : Keep fr.ars Hh H3 := (Keep.ext ex).trans k3
              cases b with
              | false =>
                rw [if_neg Bool.false_ne_true]
                have hl : dcF (setT T) ft fk fv s0 (xs.drop (i + 1)) acc ar1 = some (accF, arF) := hl
                exact ⟨acc, ar1, kvs, hl, Ri.move kp3 R3, kp3 Dn _ hDi hna, hka, hra.kp (fr := fr.plus Dn) kp3, Nat.le_succ_of_le hlen, kp.trans kp3⟩
              | true =>
                rw [if_pos rfl]
                dsimp only at hl
                cases hfk : fk (s2.wa ar1) with
                | none => rw [hfk] at hl; cases hl
                | some rk =>
                  rw [hfk] at hl
                  cases rk with
                  | er C ns ys ar' => cases hl
                  | ok kd ar2 =>
                    dsimp only at hl
                    refine (hk ({} : Shared) H' 0 [] []).td (fr.plus Dn) ow2 (s2.wa ar1) σ2 H3 _ _ R3 hfk fun y H4 R4 k4 ry => ?_
                    cases hfe : fv (s2.wa ar2) with
                    | none => rw [hfe] at hl; cases hl
                    | some re =>
                      rw [hfe] at hl
                      cases re with
                      | er C ns ys ar' => cases hl
                      | ok d ar3 =>
                        dsimp only at hl
                        cases hkey : kd.key with
                        | none => rw [hkey] at hl; cases hl
                        | some k =>
                          rw [hkey] at hl
                          have hl : dcF (setT T) ft fk fv s0 (xs.drop (i + 1)) (putD acc.1 acc.2 k d) ar3 = some (accF, arF) := hl
                          refine (he ({} : Shared) H' 0 [] []).td (fr.plus Dn) ow2 (s2.wa ar2) σ2 H4 _ _ R4 hfe fun z H5 R5 k5 rz => ?_
                          have kp5 : Keep fr.ars Hh H5 := (kp3.trans k4).trans k5
                          have hD5 : H5 Dn = some (.dK kvs) := kp5 Dn _ hDi hna
                          have hF : (fr.plus Dn).F ow2 Dn := .inl (.inl hban)
                          have rp := rep_put (k := k) hka (hra.kp (fr := fr.plus Dn) kp5) rz.cl
                          have hlk : kvs.length = acc.2.length := by have := hra.len; simpa using this
                          refine ⟨kvs, k, key_v ry hkey, hD5, ?_, putD acc.1 acc.2 k d, ar3, putK kvs k z, hl, (Ri.move kp5 R5).updB hban h00 hna, upd_same, rp.1, rp.2.updB hF, ?_, fun a o h n => ?_⟩
                          · have h9 := lim_line hlim
                            omega
                          · have := putD_len (ks := acc.1) (xs := acc.2) (k := k) (d := d)
                            omega
                          · rw [upd_ne fun z => by rw [z, hD] at h; cases h]
                            exact kp5 a o (kp a o h n) n
      · rintro Hh ⟨acc, ari, kvs, hl, Ri, hDi, hka, hra, hlen, kp⟩
        rw [List.drop_length] at hl
        cases hl
        exact P1 (.ref Dn) Hh Ri.less kp (.inl ⟨Dn, kvs, rfl, Nat.le_trans hlen (lim_line hlim), ⟨hnF, hDi⟩, hka, hra.weak fun a z => Frm.plusF.mpr (.inl z)⟩)
end
end DL
set_option Elab.async false
set_option linter.all false
set_option maxRecDepth 100000
/-! DZip: dict(zip(a text, a tuple)) -/
namespace DL
open PySem L2 PySem.Spec PyProof.Rows DLk
section
variable {prog : Program} {w : World} {A : Around} {E : Value → Shared → Prop} {s : Shared} {z TI TO i1 i2 T : Addr} {fp1 fp2 : List Addr} {n1 n2 i : Nat} {P1 P2 : Nat → Value → Prop} {St1 St2 : Nat → Heap → Prop} {a1 a2 : Value} {f : Bool} {oT : Obj}
/-- zip's next, the tuple that it gave out still there -/
theorem zipD2_held_item {Q : Value → Shared → Prop} (S : ZipSep2 z TI TO i1 i2 fp1 fp2) (D1 : Draws prog w A i1 fp1 n1 P1 St1) (D2 : Draws prog w A i2 fp2 n2 P2 St2)
    (hz : IsZipHeld s.heap z TI TO T f) (hT : s.heap.get? T = some oT) (hTI : IsTupOf2 s.heap TI (.ref i1) (.ref i2)) (st1 : St1 i s.heap) (st2 : St2 i s.heap) (hlt1 : i < n1) (hlt2 : i < n2)
    (hQ : ∀ x1 x2 h' tk, P1 i x1 → P2 i x2 → IsZipHeld h' z TI TO T true → St1 (i + 1) h' → St2 (i + 1) h' → IsTupOf2 h' s.heap.objs.size x1 x2 → h'.objs.size = s.heap.objs.size + 1 →
      (∀ c o, c ≠ z → c ≠ i1 → c ≠ i2 → s.heap.get? c = some o → h'.get? c = some o) → Q (.ref s.heap.objs.size) { s with heap := h', toks := tk }) :
    wpAny (model prog w) A (Builtin.«zip.__next__» ⟨[.ref z], []⟩) (fun fin s' => ∃ v, fin = .done (.ret v) ∧ Q v s') E s := by
  obtain ⟨hp, g, d, tk0, os⟩ := s
  show wpAny _ _ (field (.ref z) 2 >>= _) _ _ _
  refine wpAny_bind (wpAny_field hz rfl (x := .bool false) rfl ?_)
  show wpAny _ _ (field (.ref z) 3 >>= _) _ _ _
  refine wpAny_bind (wpAny_field hz rfl (x := .ref TI) rfl ?_)
  refine wpAny_bind (wpAny_seqItems hTI rfl ?_)
  show wpAny _ _ (Builtin.SmallTypes.ownedTupleIsFree (.ref z) >>= _) _ _ _
  refine wpAny_bind (wpAny_tupleHeld_zip hz hT fun g0 hz0 hs0 => ?_)
  replace hs0 : Heap.SameBut z hp g0 := hs0
  simp only [Bool.false_eq_true, if_false]
  refine wpAny_bind ?_
  rw [← Array.forIn_toList]
  simp only [List.forIn_cons, List.forIn_nil]
  refine wpAny_bind (wpAny_bind (wpAny_holding ?_))
  show wpAny _ _ (Builtin.SmallTypes.nextOf (.ref i1) >>= _) _ _ ⟨g0, g, d, tk0, os⟩
  refine wpAny_bind (D1.item i _ _ _ hlt1 (D1.over st1 hs0 S.zf1) fun x1 p1 tk1 hx1 sn1 hp1 => wpAny_pure ?_)
  replace hp1 : Heap.SameBut i1 g0 p1 := hp1
  refine wpAny_pure ?_
  refine wpAny_bind (wpAny_bind (wpAny_holding ?_))
  show wpAny _ _ (Builtin.SmallTypes.nextOf (.ref i2) >>= _) _ _ ⟨p1, g, d, tk1, os⟩
  refine wpAny_bind (D2.item i ⟨p1, g, d, tk1, os⟩ _ _ hlt2 (D2.over (D2.over st2 hs0 S.zf2) hp1 S.sep1_2) fun x2 p2 tk2 hx2 sn2 hp2 => wpAny_pure ?_)
  replace hp2 : Heap.SameBut i2 p1 p2 := hp2
  refine wpAny_pure (wpAny_pure ?_)
  show wpAny _ _ (newTuple [x1, x2] >>= _) _ _ ⟨p2, g, d, tk2, os⟩
  refine wpAny_bind (wpAny_newTuple ?_)
  have hsz : p2.objs.size = hp.objs.size := by rw [hp2.1, hp1.1, hs0.1]
  have hzp : IsZipHeld p2 z TI TO T true := hp2.extBut _ _ S.zi2 (hp1.extBut _ _ S.zi1 hz0)
  have hk : ∀ c o, c ≠ z → c ≠ i1 → c ≠ i2 → hp.get? c = some o → p2.get? c = some o := fun c o c1 c2 c3 e => hp2.extBut _ _ c3 (hp1.extBut _ _ c2 (hs0.extBut _ _ c1 e))
  have j1 : St1 (i + 1) p2 := D1.over sn1 hp2 S.sep2_1
  refine wpAny_pure ⟨_, rfl, ?_⟩
  show Q (.ref p2.objs.size) _
  have hpp : IsTupOf2 (p2.push { cls := .type "tuple", data := .seq #[x1, x2] }) p2.objs.size x1 x2 := Heap.get?_push_size _ rfl
  have hz4 : (p2.push { cls := .type "tuple", data := .seq #[x1, x2] }).objs.size = p2.objs.size + 1 := Heap.size_push ..
  rw [hsz] at hpp hz4 ⊢
  exact hQ x1 x2 _ tk2 hx1 hx2 (Heap.get?_push_of_some _ hzp) (D1.frame _ _ _ j1 fun b hb o e => Heap.get?_push_of_some _ e) (D2.frame _ _ _ sn2 fun b hb o e => Heap.get?_push_of_some _ e) hpp hz4 fun c o c1 c2 c3 e => Heap.get?_push_of_some _ (hk c o c1 c2 c3 e)
theorem zipD2_held_end {Q : Fin → Shared → Prop} (S : ZipSep2 z TI TO i1 i2 fp1 fp2) (D1 : Draws prog w A i1 fp1 n1 P1 St1) (D2 : Draws prog w A i2 fp2 n2 P2 St2)
    (hz : IsZipHeld s.heap z TI TO T f) (hT : s.heap.get? T = some oT) (hTI : IsTupOf2 s.heap TI (.ref i1) (.ref i2)) (st1 : St1 i s.heap) (st2 : St2 i s.heap) (hle1 : i ≤ n1) (hle2 : i ≤ n2) (hend : i = n1 ∨ i = n2)
    (hE : ∀ h' tk e, (∀ c o, c ≠ z → c ≠ i1 → c ≠ i2 → s.heap.get? c = some o → h'.get? c = some o) → (∃ o, h'.get? e = some o ∧ o.cls = .type "StopIteration") → E (.ref e) { s with heap := h', toks := tk }) :
    wpAny (model prog w) A (Builtin.«zip.__next__» ⟨[.ref z], []⟩) Q E s := by
  obtain ⟨hp, g, d, tk0, os⟩ := s
  show wpAny _ _ (field (.ref z) 2 >>= _) _ _ _
  refine wpAny_bind (wpAny_field hz rfl (x := .bool false) rfl ?_)
  show wpAny _ _ (field (.ref z) 3 >>= _) _ _ _
  refine wpAny_bind (wpAny_field hz rfl (x := .ref TI) rfl ?_)
  refine wpAny_bind (wpAny_seqItems hTI rfl ?_)
  show wpAny _ _ (Builtin.SmallTypes.ownedTupleIsFree (.ref z) >>= _) _ _ _
  refine wpAny_bind (wpAny_tupleHeld_zip hz hT fun g0 hz0 hs0 => ?_)
  replace hs0 : Heap.SameBut z hp g0 := hs0
  simp only [Bool.false_eq_true, if_false]
  refine wpAny_bind ?_
  rw [← Array.forIn_toList]
  simp only [List.forIn_cons, List.forIn_nil]
  refine wpAny_bind (wpAny_bind (wpAny_holding ?_))
  show wpAny _ _ (Builtin.SmallTypes.nextOf (.ref i1) >>= _) _ _ ⟨g0, g, d, tk0, os⟩
  by_cases hlt1 : i < n1
  · refine wpAny_bind (D1.item i _ _ _ hlt1 (D1.over st1 hs0 S.zf1) fun x1 p1 tk1 hx1 sn1 hp1 => wpAny_pure ?_)
    replace hp1 : Heap.SameBut i1 g0 p1 := hp1
    refine wpAny_pure ?_
    have hi2 : i = n2 := by omega
    refine wpAny_bind (wpAny_bind (wpAny_holding ?_))
    show wpAny _ _ (Builtin.SmallTypes.nextOf (.ref i2) >>= _) _ _ ⟨p1, g, d, tk1, os⟩
    refine wpAny_bind (D2.done ⟨p1, g, d, tk1, os⟩ _ _ (by rw [← hi2]; exact (D2.over (D2.over st2 hs0 S.zf2) hp1 S.sep1_2)) fun q e hq he => ?_)
    replace hq : Heap.ExtBut i2 p1 q := hq
    exact hE q tk1 e (fun c o cz c1 c2 x => hq _ _ c2 (hp1.extBut _ _ c1 (hs0.extBut _ _ cz x))) he
  · have hi1 : i = n1 := by omega
    refine wpAny_bind (D1.done ⟨g0, g, d, tk0, os⟩ _ _ (by rw [← hi1]; exact (D1.over st1 hs0 S.zf1)) fun q e hq he => ?_)
    replace hq : Heap.ExtBut i1 g0 q := hq
    exact hE q tk0 e (fun c o cz c1 c2 x => hq _ _ c1 (hs0.extBut _ _ cz x)) he
theorem pyNext_zipD2_held_item {Q : Option Value → Shared → Prop} (S : ZipSep2 z TI TO i1 i2 fp1 fp2) (D1 : Draws prog w A.in1 i1 fp1 n1 P1 St1) (D2 : Draws prog w A.in1 i2 fp2 n2 P2 St2)
    (hz : IsZipHeld s.heap z TI TO T f) (hT : s.heap.get? T = some oT) (hTI : IsTupOf2 s.heap TI (.ref i1) (.ref i2)) (st1 : St1 i s.heap) (st2 : St2 i s.heap) (hlt1 : i < n1) (hlt2 : i < n2)
    (hQ : ∀ x1 x2 h' tk, P1 i x1 → P2 i x2 → IsZipHeld h' z TI TO T true → St1 (i + 1) h' → St2 (i + 1) h' → IsTupOf2 h' s.heap.objs.size x1 x2 → h'.objs.size = s.heap.objs.size + 1 →
      (∀ c o, c ≠ z → c ≠ i1 → c ≠ i2 → s.heap.get? c = some o → h'.get? c = some o) → Q (some (.ref s.heap.objs.size)) { s with heap := h', toks := tk }) :
    wpAny (model prog w) A (pyNext (.ref z)) Q E s := by
  have hTy : s.TypeIs (.ref z) "zip" := ⟨_, hz, rfl⟩
  unfold pyNext
  exact wpAny_bind (wpAny_attempt (wpAny_callSpecial?_slot (name := Str.ofString "__next__") hTy F.slot_zip_next
    (wpAny_call_entry F.slot_zip_next hTy F.entry_zip_next
      (zipD2_held_item S D1 D2 hz hT hTI st1 st2 hlt1 hlt2 fun x1 x2 h' tk y1 y2 b1 d1 d2 b5 b6 b7 => wpAny_pure (hQ x1 x2 h' tk y1 y2 b1 d1 d2 b5 b6 b7)) (F.args_zip_next_1 _))))
theorem pyNext_zipD2_held_end {Q : Option Value → Shared → Prop} (S : ZipSep2 z TI TO i1 i2 fp1 fp2) (D1 : Draws prog w A.in1 i1 fp1 n1 P1 St1) (D2 : Draws prog w A.in1 i2 fp2 n2 P2 St2)
    (hz : IsZipHeld s.heap z TI TO T f) (hT : s.heap.get? T = some oT) (hTI : IsTupOf2 s.heap TI (.ref i1) (.ref i2)) (st1 : St1 i s.heap) (st2 : St2 i s.heap) (hle1 : i ≤ n1) (hle2 : i ≤ n2) (hend : i = n1 ∨ i = n2)
    (hQ : ∀ h' tk, (∀ c o, c ≠ z → c ≠ i1 → c ≠ i2 → s.heap.get? c = some o → h'.get? c = some o) → Q none { s with heap := h', toks := tk }) : wpAny (model prog w) A (pyNext (.ref z)) Q E s := by
  have hTy : s.TypeIs (.ref z) "zip" := ⟨_, hz, rfl⟩
  unfold pyNext
  refine wpAny_bind (wpAny_attempt (wpAny_callSpecial?_slot (name := Str.ofString "__next__") hTy F.slot_zip_next
    (wpAny_call_entry F.slot_zip_next hTy F.entry_zip_next (zipD2_held_end S D1 D2 hz hT hTI st1 st2 hle1 hle2 hend fun h' tk e hk he => ?_) (F.args_zip_next_1 _))))
  obtain ⟨o, ho, hc⟩ := he
  refine wpAny_bind (wpAny_isInstance (T := "StopIteration") (b := true) ⟨o, ho, hc⟩ isSubtype_stop ?_)
  exact wpAny_pure (hQ _ _ hk)
end
/-- zip of a text and a tuple, as what dict() takes -/
theorem pairArg_zipST {prog : Program} {w : World} (z TI TO i1 i2 l2 : Addr) (x : Str) (t : Tok) (ys : Array Value) (S : ZipSep2 z TI TO i1 i2 [i1] [i2, l2]) (ne : l2 ≠ i2) :
    PairArg prog w "zip" z [z, TI, TO, i1, i2, l2] [z, TO, i1, i2] (min x.cps.size ys.size) (fun i k v => (∃ c u, x.cps[i]? = some c ∧ k = .str ⟨#[c]⟩ u) ∧ ys[i]? = some v)
      (fun h => IsZip h z TI TO .none ∧ IsTupOf2 h TI (.ref i1) (.ref i2) ∧ (∃ a b, IsTupOf2 h TO a b) ∧ h.IsStrIter i1 (strIterType x) x t 0 ∧ h.IsTupleIter i2 l2 0 ∧ h.IsTuple l2 ys) where
  type := fun s ok => ⟨_, ok.1, rfl⟩
  notDict := by decide
  keep := fun h h' ok hk => by
    obtain ⟨hz, hTI, ⟨a, b, hTO⟩, ⟨o1, e1, r1⟩, h2, hl2⟩ := ok
    exact ⟨hk _ _ hz, hk _ _ hTI, ⟨a, b, hk _ _ hTO⟩, ⟨o1, hk _ _ e1, r1⟩, h2.at fun o e => hk _ o e, hl2.at fun o e => hk _ o e⟩
  there := fun h ok b hb => by
    obtain ⟨hz, hTI, ⟨a, c, hTO⟩, ⟨o1, h1, _⟩, ⟨o2, h2, _⟩, ⟨o4, hl2, _⟩⟩ := ok
    simp only [List.mem_cons, List.not_mem_nil, or_false] at hb
    rcases hb with rfl | rfl | rfl | rfl | rfl | rfl
    all_goals first | exact ⟨_, hz⟩ | exact ⟨_, hTI⟩ | exact ⟨_, hTO⟩ | exact ⟨_, h1⟩ | exact ⟨_, h2⟩ | exact ⟨_, hl2⟩
  sub := fun b hb => by simp at hb ⊢; rcases hb with rfl | rfl | rfl | rfl <;> simp
  noKeys := fun A s Q E hA ok h => getAttrOr_miss_zip ok.1 rfl rfl rfl zip_no_keys (by decide +kernel) hA h
  iter := fun A s d Q E hA ok hd hdf h => by
    obtain ⟨hz, hTI, ⟨a, b, hTO⟩, h1, h2, hl2⟩ := ok
    simp only [List.mem_cons, List.not_mem_nil, or_false, not_or] at hdf
    obtain ⟨dz, dTI, dTO, di1, di2, dl2⟩ := hdf
    have D1 : Draws prog w A.in1 i1 [i1] x.cps.size (fun i v => ∃ c u, x.cps[i]? = some c ∧ v = .str ⟨#[c]⟩ u) (fun i h => h.IsStrIter i1 (strIterType x) x t i) := Draws.text (A := A.in1) hA i1 x t
    have D2 : Draws prog w A.in1 i2 [i2, l2] ys.size (fun i v => ys[i]? = some v) (fun i h => h.IsTupleIter i2 l2 i ∧ h.IsTuple l2 ys) := Draws.tuple (A := A.in1) hA i2 l2 ne ys
    refine wpAny_pyIter_zip hz (h z [z, TO, i1, i2] (fun i h => IsTupOf2 h TI (.ref i1) (.ref i2) ∧ h.IsStrIter i1 (strIterType x) x t i ∧ (h.IsTupleIter i2 l2 i ∧ h.IsTuple l2 ys) ∧
      ((IsZip h z TI TO .none ∧ ∃ a b, IsTupOf2 h TO a b) ∨ ∃ T f oT, IsZipHeld h z TI TO T f ∧ h.get? T = some oT ∧ T ≠ z ∧ T ≠ i1 ∧ T ≠ i2 ∧ T ≠ d)) s.heap s.toks ?_
      ⟨hTI, h1, ⟨h2, hl2⟩, .inl ⟨hz, a, b, hTO⟩⟩ (fun _ _ e => e) fun b hb => .inl hb)
    exact {
      off := fun hm => by
        simp only [List.mem_cons, List.not_mem_nil, or_false] at hm
        rcases hm with e | e | e | e
        · exact dz e
        · exact dTO e
        · exact di1 e
        · exact di2 e
      frame := fun i h₁ h₂ st hk => by
        obtain ⟨hTI, ⟨o1, e1, r1⟩, ⟨h2, hl2⟩, hz⟩ := st
        refine ⟨hk _ _ (Ne.symm dTI) hTI, ⟨o1, hk _ _ (Ne.symm di1) e1, r1⟩, ⟨h2.at fun o e => hk _ o (Ne.symm di2) e, hl2.at fun o e => hk _ o (Ne.symm dl2) e⟩, ?_⟩
        rcases hz with ⟨hz, a, b, hTO⟩ | ⟨T, f, oT, hz, hT, r1, r2, r3, r4⟩
        · exact .inl ⟨hk _ _ (Ne.symm dz) hz, a, b, hk _ _ (Ne.symm dTO) hTO⟩
        · exact .inr ⟨T, f, oT, hk _ _ (Ne.symm dz) hz, hk _ _ r4 hT, r1, r2, r3, r4⟩
      item := fun i s₁ Q₁ E₁ hi st hds hQ => by
        obtain ⟨hTI, h1, h2, hz⟩ := st
        have hix : i < x.cps.size := Nat.lt_of_lt_of_le hi (Nat.min_le_left ..)
        have hiy : i < ys.size := Nat.lt_of_lt_of_le hi (Nat.min_le_right ..)
        have lt : ∀ {c o}, s₁.heap.get? c = some o → s₁.heap.objs.size ≠ c := fun e => Nat.ne_of_gt (Heap.lt_size e)
        have n1 : s₁.heap.objs.size ≠ i1 := let ⟨_, e, _⟩ := h1; lt e
        have n2 : s₁.heap.objs.size ≠ i2 := let ⟨⟨_, e, _⟩, _⟩ := h2; lt e
        rcases hz with ⟨hz, a, b, hTO⟩ | ⟨T, f, oT, hz, hT, r1, r2, r3, r4⟩
        · refine wpAny_pyNext_zipD2_item S D1 D2 hz hTI hTO h1 h2 hix hiy fun x1 x2 h' tk y1 y2 a1 a2 a3 a4 a5 a6 hk => ?_
          exact hQ s₁.heap.objs.size _ _ h' tk ⟨y1, y2⟩ (.inl ⟨_, a5, rfl, _, rfl⟩)
            ⟨hk _ _ S.TIz S.TITO S.TIi1 S.TIi2 hTI, a3, a4, .inr ⟨s₁.heap.objs.size, false, _, a1, a5, lt hz, n1, n2, Nat.ne_of_gt hds⟩⟩
            fun c o hc e => hk c o (fun x => hc (by simp [x])) (fun x => hc (by simp [x])) (fun x => hc (by simp [x])) (fun x => hc (by simp [x])) e
        · refine pyNext_zipD2_held_item S D1 D2 hz hT hTI h1 h2 hix hiy fun x1 x2 h' tk y1 y2 a1 a3 a4 a5 a6 hk => ?_
          exact hQ s₁.heap.objs.size _ _ h' tk ⟨y1, y2⟩ (.inl ⟨_, a5, rfl, _, rfl⟩)
            ⟨hk _ _ S.TIz S.TIi1 S.TIi2 hTI, a3, a4, .inr ⟨T, true, oT, a1, hk _ _ r1 r2 r3 hT, r1, r2, r3, r4⟩⟩
            fun c o hc e => hk c o (fun x => hc (by simp [x])) (fun x => hc (by simp [x])) (fun x => hc (by simp [x])) e
      done := fun s₁ Q₁ E₁ st hQ => by
        obtain ⟨hTI, h1, h2, hz⟩ := st
        have hle1 : min x.cps.size ys.size ≤ x.cps.size := Nat.min_le_left ..
        have hle2 : min x.cps.size ys.size ≤ ys.size := Nat.min_le_right ..
        have hend : min x.cps.size ys.size = x.cps.size ∨ min x.cps.size ys.size = ys.size := by omega
        rcases hz with ⟨hz, a, b, hTO⟩ | ⟨T, f, oT, hz, hT, r1, r2, r3, r4⟩
        · exact wpAny_pyNext_zipD2_end S D1 D2 hz hTI hTO h1 h2 hle1 hle2 hend fun h' tk hk => hQ h' tk fun c o hc e => hk c o (fun x => hc (by simp [x])) (fun x => hc (by simp [x])) (fun x => hc (by simp [x])) (fun x => hc (by simp [x])) e
        · exact pyNext_zipD2_held_end S D1 D2 hz hT hTI h1 h2 hle1 hle2 hend fun h' tk hk => hQ h' tk fun c o hc e => hk c o (fun x => hc (by simp [x])) (fun x => hc (by simp [x])) (fun x => hc (by simp [x])) e }
def chK (c : Nat) : Key := .inr ⟨#[c]⟩
def zipKV (z : Str) (xs : List V) : List (Key × V) := (z.cps.toList.zip xs).map fun q => (chK q.1, q.2)
def tDictZip (K : PySem.W.Frag) (t : TA) : TE := fun σ H Q => t σ H fun vs H1 => ∃ z b xs, vs = [V.str z, V.ref b] ∧ SqT K H1 b xs ∧ ∀ p, H1 p = none → Q (.ref p) (upd H1 p (.dK (mergeK [] (zipKV z xs))))
theorem kv_zip {zs : List Nat} {xs : List V} {us : List Value} (r : Vals xs us) : KV ((zs.zip xs).map fun q => (chK q.1, q.2)) ((zs.zip us).map fun q => (chK q.1, q.2)) := by
  induction zs generalizing xs us with
  | nil => exact .nil
  | cons c zs ih =>
    cases r with
    | nil => exact .nil
    | cons h t => exact .cons ⟨rfl, h⟩ (ih t)
theorem sepZ {n l : Nat} (h : l < n) : ZipSep2 (n + 4) (n + 2) (n + 3) n (n + 1) [n] [n + 1, l] := by
  have m1 : ∀ {x y : Nat}, x ≠ y → x ∉ [y] := fun h => by simp only [List.mem_singleton]; exact h
  have m2 : ∀ {x y z : Nat}, x ≠ y → x ≠ z → x ∉ [y, z] := fun h k => by simp only [List.mem_cons, List.not_mem_nil, or_false, not_or]; exact ⟨h, k⟩
  have q1 : n + 2 ≠ n + 4 := by omega
  have q2 : n + 3 ≠ n + 4 := by omega
  have q3 : n + 2 ≠ n + 3 := by omega
  have q4 : n + 2 ≠ n := by omega
  have q5 : n + 4 ≠ n := by omega
  have q6 : n + 3 ≠ n := by omega
  have q7 : n + 2 ≠ n + 1 := by omega
  have q8 : n + 4 ≠ n + 1 := by omega
  have q9 : n + 4 ≠ l := by omega
  have q10 : n + 3 ≠ n + 1 := by omega
  have q11 : n + 3 ≠ l := by omega
  have q12 : n ≠ n + 1 := by omega
  have q13 : n ≠ l := by omega
  have q14 : n + 1 ≠ n := by omega
  exact ⟨q1, q2, q3, q4, List.mem_singleton.mpr rfl, m1 q5, m1 q6, q7, List.mem_cons_self, m2 q8 q9, m2 q10 q11, m2 q12 q13, m1 q14⟩
theorem pe_dictZip {X : Cx} {a b : Expr} {t : TA} {p p2 pos pos2 : Pos} (hc : X.calm = true) (hg : Gl X "dict") (hm : X.mg "dict" = none) (hg2 : Gl X "zip") (hm2 : X.mg "zip" = none) (ha : PA X [a, b] t)
    (na : starEach [.Call (.Name "zip" p2) [a, b] [] pos2] X.env = (false, eval (.Call (.Name "zip" p2) [a, b] [] pos2) X.env) :: starEach [] X.env := by rfl)
    (hs : starEach [a, b] X.env = (false, eval a X.env) :: starEach [b] X.env := by rfl) (hpl : (backTo pos2 (starEach [b] X.env)).any (·.1) = false := by rfl) :
    PE X (.Call (.Name "dict" p) [.Call (.Name "zip" p2) [a, b] [] pos2] [] pos) (tDictZip X.K t) := by
  refine ⟨fun pins s σ H Q I h => ?_⟩
  refine Call_ (ld_blt I hg hm PyProof.Rows.boot_dict (PyProof.Rows.callWith_type1 (args_cons ?_ na) na))
  refine Call_ (ld_blt I hg2 hm2 PyProof.Rows.boot_zip (PyProof.Rows.callWith_type1 (thn (ha.run pos2 pins s σ H _ I h) fun us s1 ⟨vs, H1, I1, r1, q1⟩ => ?_) hs hpl))
  obtain ⟨z, l, xs, ex, hq, q1⟩ := q1
  subst ex
  obtain ⟨u1, u2, eu, ra, r2⟩ := vals2 r1
  subst eu
  obtain ⟨tz, etz⟩ : ∃ t, u1 = Value.str z t := ra
  subst etz
  obtain rfl : u2 = Value.ref l := r2
  obtain ⟨its, rv, ht, hz⟩ := I1.tuple hq
  refine zip_begins2 (begins_text z tz) (begins_tuple l its.toArray) True.intro ht fun h' gz gT gO g1 g2 hsz hk => ?_
  refine args_nil ?_
  have hl : l < s1.heap.objs.size := by obtain ⟨o, ho, _⟩ := ht; exact Heap.lt_size ho
  have S := sepZ (n := s1.heap.objs.size) (l := l) hl
  have kvr := kv_zip (zs := z.cps.toList) rv
  have hlen : its.length = xs.length := rv.length.symm
  have hzl : (zipKV z xs).length ≤ sizeLine := by
    unfold zipKV
    rw [List.length_map, List.length_zip]
    omega
  refine PySem.call_dict_pairs (knd := mixKind X.prog X.w) (kvs := (z.cps.toList.zip its).map fun q => (chK q.1, q.2)) (pairArg_zipST (prog := X.prog) (w := X.w) (s1.heap.objs.size + 4) (s1.heap.objs.size + 2) (s1.heap.objs.size + 3) s1.heap.objs.size (s1.heap.objs.size + 1) l z tz its.toArray S (Nat.ne_of_lt (Nat.lt_succ_of_lt hl))) (I.ok.hd hc)
    ⟨gz, gT, ⟨_, _, gO⟩, ⟨_, g1, rfl, rfl⟩, ⟨_, g2, rfl, rfl⟩, Heap.IsTuple.at (h := s1.heap) ht fun o e => hk _ o e⟩ ⟨by simp [List.length_zip], fun i key v e => ?_⟩ (by simp; omega) fun h'' tk hd' hk2 => ?_
  · obtain ⟨⟨c, u, hc1, rfl⟩, hv⟩ := e
    refine ⟨chK c, ?_, kV_is (P := X.prog) (w := X.w) (k := chK c) ⟨u, rfl⟩⟩
    rw [List.getElem?_map]
    have e1 : z.cps.toList[i]? = some c := by simpa using hc1
    have e2 : its[i]? = some v := by simpa using hv
    have e3 : (z.cps.toList.zip its)[i]? = some (c, v) := List.getElem?_zip_eq_some.mpr ⟨e1, e2⟩
    rw [e3]
    rfl
  · have hm9 : (h'.objs.size == sysModules) = false := beq_eq_false_iff_ne.mpr (by
      have h1 : sysModules < s1.heap.objs.size := I1.big
      have h2 : s1.heap.objs.size ≤ h'.objs.size := by rw [hsz]; exact Nat.le_add_right _ _
      exact Nat.ne_of_gt (Nat.lt_of_lt_of_le h1 h2))
    have hlen2 : (mergeK [] (zipKV z xs)).length ≤ sizeLine := by
      refine Nat.le_trans (length_mergeK _ []) ?_
      rw [List.length_nil, Nat.zero_add]
      exact hzl
    have hle : s1.heap.objs.size ≤ h'.objs.size := by rw [hsz]; exact Nat.le_add_right _ _
    refine ⟨.ref h'.objs.size, upd H1 h'.objs.size (.dK (mergeK [] (zipKV z xs))), I1.laid (h' := h'') (t' := tk) (fun b o e => hk2 b o (fun hb => ?_) (hk b o e)) hle (show ObjOk X.prog X.w _ _ _ (.dK (mergeK [] (zipKV z xs))) from ⟨hlen2, hm9, merged [] _, KV.merge kvr .nil, hd'⟩), rfl, q1 _ (I1.hok.fresh hle)⟩
    have h3 : b < s1.heap.objs.size := Heap.lt_size e
    simp only [List.mem_cons, List.not_mem_nil, or_false] at hb
    rcases hb with hb | hb | hb | hb
    · rw [hb] at h3; exact absurd h3 (Nat.not_lt.mpr (Nat.le_add_right _ _))
    · rw [hb] at h3; exact absurd h3 (Nat.not_lt.mpr (Nat.le_add_right _ _))
    · rw [hb] at h3; exact absurd h3 (Nat.lt_irrefl _)
    · rw [hb] at h3; exact absurd h3 (Nat.not_lt.mpr (Nat.le_add_right _ _))
def zipKD (z : Str) (xs : List D) : List (Key × D) := (z.cps.toList.zip xs).map fun q => (chK q.1, q.2)
def gDictZip : List D → Option D
  | [.str z, .tup xs] => some (.dk (mergeD (zipKD z xs) ([], [])).1 (mergeD (zipKD z xs) ([], [])).2)
  | _ => none
theorem zip_rep {K : PySem.W.Frag} {H : Hp} {B : Addr → Prop} {zs : List Nat} : ∀ {xs : List D} {vs : List V}, RepL K H B xs vs →
    ((zs.zip vs).map fun q => (chK q.1, q.2)).map (·.1) = ((zs.zip xs).map fun q => (chK q.1, q.2)).map (·.1) ∧ RepL K H B (((zs.zip xs).map fun q => (chK q.1, q.2)).map (·.2)) (((zs.zip vs).map fun q => (chK q.1, q.2)).map (·.2)) := by
  induction zs with
  | nil => intro xs vs _; exact ⟨rfl, rfl⟩
  | cons z zs ih =>
    intro xs vs h
    cases xs with
    | nil => cases h; exact ⟨rfl, rfl⟩
    | cons x xs =>
      obtain ⟨v, r, rfl, h1, h2⟩ := h
      obtain ⟨i1, i2⟩ := ih h2
      refine ⟨?_, RepL.cons h1 i2⟩
      exact congrArg (chK z :: ·) i1
section
variable {X : Cx} {E : XK} {q q1 : Bool} {a b : Expr} {p p2 pos pos2 : Pos} {t : TA}
theorem de_dictZip {f : M (List D)} (hc : X.calm = true) (hg : Gl X "dict") (hm : X.mg "dict" = none) (hg2 : Gl X "zip") (hm2 : X.mg "zip" = none) (ha : DA X E q1 [a, b] t f)
    (na : starEach [.Call (.Name "zip" p2) [a, b] [] pos2] X.env = (false, eval (.Call (.Name "zip" p2) [a, b] [] pos2) X.env) :: starEach [] X.env := by rfl)
    (hs : starEach [a, b] X.env = (false, eval a X.env) :: starEach [b] X.env := by rfl) (hpl : (backTo pos2 (starEach [b] X.env)).any (·.1) = false := by rfl) :
    DE X E q (.Call (.Name "dict" p) [.Call (.Name "zip" p2) [a, b] [] pos2] [] pos) (tDictZip X.K t) (mCB gDictZip f) := by
  refine ⟨pe_dictZip hc hg hm hg2 hm2 ha.pe na hs hpl, fun fr ow s σ H Q r R e P => ?_⟩
  refine Pst.bind (t := t) ha.td R e P fun ds ar vs H1 R1 k1 r1 e1 P1 => ?_
  obtain ⟨x, e2, rfl⟩ := liftM_some e1
  unfold gDictZip at e2
  split at e2
  · rename_i z xs
    cases e2
    obtain ⟨v, w, rfl, g1, g2⟩ := RepQL.two r1
    obtain ⟨l, us, rfl, hl, hp, hr, _⟩ := g2.tup
    refine ⟨z, l, us, by rw [g1.str], SqT.of hp, fun T hT => ?_⟩
    obtain ⟨i1, i2⟩ := zip_rep (zs := z.cps.toList) hr
    have rm := rep_merge (kvs := []) (ks := []) (xs := []) (ds := zipKD z xs) (more := zipKV z us) rfl RepL.nil i1 (i2.new (p := T) (o := .dK (mergeK [] (zipKV z us))) hT)
    refine P1 _ _ (R1.ext (Ext.upd hT)) (Keep.ext (Ext.upd hT)) (.inl ⟨T, _, rfl, ?_, ⟨R1.fresh hT, upd_same⟩, rm.1, rm.2.weak fun a z => .inl z⟩)
    have h3 : (mergeD (zipKD z xs) (([], []) : List Key × List D)).2.length ≤ 0 + (zipKD z xs).length := mergeD_len
    have h4 : (zipKD z xs).length ≤ xs.length := by
      unfold zipKD
      rw [List.length_map, List.length_zip]
      omega
    omega
  · cases e2
end
end DL
set_option Elab.async false
set_option linter.all false
set_option maxRecDepth 100000
namespace DL
open PySem L2
section
variable {X : Cx}
/-- a text's letters -/
def letV (z : Str) : List V := z.cps.toList.map fun c => V.str ⟨#[c]⟩
theorem signs_vals : ∀ {cs : List Nat} {vs : List Value}, vs.length = cs.length → (∀ (j : Nat) (v : Value), vs[j]? = some v → ∃ (c : Nat) (u : Tok), cs[j]? = some c ∧ v = Value.str ⟨#[c]⟩ u) → Vals (cs.map fun c => V.str ⟨#[c]⟩) vs
  | [], [], _, _ => .nil
  | [], _ :: _, h, _ => by cases h
  | _ :: _, [], h, _ => by cases h
  | c :: cs, v :: vs, h, k => by
    obtain ⟨c', u, e1, e2⟩ := k 0 v rfl
    cases e1
    exact .cons ⟨u, e2⟩ (signs_vals (by simpa using h) fun j w hj => by
      have := k (j + 1) w (by simpa using hj)
      simpa using this)
theorem call_list_txt (hc : X.calm = true) : CallR X (.type "list") (fun xs H Q => ∃ z : Str, xs = [.str z] ∧ z.cps.size ≤ 16777216 ∧ ∀ l, H l = none → Q (.ref l) (upd H l (.lst (letV z)))) := by
  intro pins s σ H xs us Q I r h
  obtain ⟨z, rfl, hz, q⟩ := h
  obtain ⟨u, rfl, t, rfl⟩ := vals1 r
  have hn := line63
  have hz2 : z.cps.size ≤ sizeLine := Nat.le_trans hz (by decide)
  refine PySem.call_list_str (I.ok.hd hc) z t (hn := hz2) fun h' tk acc' c' kp e hacc => ?_
  refine ⟨.ref s.heap.objs.size, _, I.laid (t' := tk) kp (Nat.le_refl _) (show ObjOk X.prog X.w _ h' _ (.lst (letV z)) from ⟨by unfold letV; rw [List.length_map]; exact hz2, acc'.toList, c', signs_vals hacc.1 fun j v hj => ?_, e⟩), rfl, q _ (I.hok.fresh (Nat.le_refl _))⟩
  obtain ⟨c, u, e1, e2⟩ := hacc.2 j v (by simpa using hj)
  exact ⟨c, u, by simpa using e1, e2⟩
/-- the letters, as data -/
def gListS : List D → Option (List D)
  | [.str z] => if z.cps.size ≤ 16777216 then some (z.cps.toList.map fun c => D.str ⟨#[c]⟩) else none
  | _ => none
theorem RepL.letters {K : PySem.W.Frag} {H : Hp} {B : Addr → Prop} : ∀ cs : List Nat, RepL K H B (cs.map fun c => D.str ⟨#[c]⟩) (cs.map fun c => V.str ⟨#[c]⟩)
  | [] => rfl
  | c :: cs => ⟨.str ⟨#[c]⟩, _, rfl, rfl, RepL.letters cs⟩
abbrev xListS : List V → Hp → VK → Prop := fun xs H Q => ∃ z : Str, xs = [.str z] ∧ z.cps.size ≤ 16777216 ∧ ∀ l, H l = none → Q (.ref l) (upd H l (.lst (letV z)))
theorem vf_listS {q1 : Bool} {K : PySem.W.Frag} : VNF K xListS q1 gListS := by
  intro fr ow s σ H ds vs Q d R r e k
  unfold gListS at e
  split at e
  case h_1 z =>
    by_cases h : z.cps.size ≤ 16777216
    · rw [if_pos h] at e
      cases e
      obtain ⟨v, rfl, h1⟩ := r.one
      cases h1.str
      exact ⟨z, rfl, h, fun l n => k _ _ (Ext.upd n) (rF_new R n (RepL.letters _) (by rw [List.length_map, Array.length_toList]; exact Nat.le_trans h (by decide)))⟩
    · rw [if_neg h] at e; cases e
  case h_2 => cases e
/-- list of a list, a tuple or a text -/
abbrev xListA (K : PySem.W.Frag) : List V → Hp → VK → Prop := fun xs H Q => xList K xs H Q ∨ xListS xs H Q
theorem call_listA (hc : X.calm = true) : CallR X (.type "list") (xListA X.K) := by
  intro pins s σ H xs us Q I r h
  cases h with
  | inl h => exact call_list_of pins s σ H xs us Q I r h
  | inr h => exact call_list_txt hc pins s σ H xs us Q I r h
def gListA : List D → Option (List D)
  | [.str z] => gListS [.str z]
  | ds => gList ds
theorem vf_listA {q1 : Bool} {K : PySem.W.Frag} : VNF K (xListA K) q1 gListA := by
  intro fr ow s σ H ds vs Q d R r e k
  unfold gListA at e
  split at e
  · exact .inr (vf_listS fr ow s σ H _ vs Q d R r e k)
  · exact .inl (vf_list fr ow s σ H _ vs Q d R r e k)
end
end DL
set_option Elab.async false
set_option linter.all false
set_option maxRecDepth 100000
namespace K17
open PySem L2 PySem.Spec PyProof.Rows DL DLk
noncomputable section
def top (i : Nat) : Stmt := PySem.Challenge.pw_botheither_k17_whole_rules_of_both_and_e.main.body.getD i (.Pass ⟨0, 0, 0, 0⟩)
/-- what the top leaves -/
structure Txt (K : PySem.W.Frag) (mg : Str → Option Value) (CL : Addr) (a_HEADS : Addr) : Prop where
  b_all : mg "all" = none
  b_bool : mg "bool" = none
  b_dict : mg "dict" = none
  b_enumerate : mg "enumerate" = none
  b_int : mg "int" = none
  b_isinstance : mg "isinstance" = none
  b_len : mg "len" = none
  b_list : mg "list" = none
  b_max : mg "max" = none
  b_range : mg "range" = none
  b_sorted : mg "sorted" = none
  b_str : mg "str" = none
  b_tuple : mg "tuple" = none
  b_zip : mg "zip" = none
  c_ALL_LETTERS : ∃ t, mg "ALL_LETTERS" = some (.str "abcdefghijklmnopqrstuvwxyz" t)
  c_HEADS : WtS K mg "HEADS" a_HEADS ["both", "either"]
  c_MOST_DEEP : ∃ t, mg "MOST_DEEP" = some (.int 12 t)
  c_MOST_ELEMENTS : ∃ t, mg "MOST_ELEMENTS" = some (.int 60 t)
  c_MOST_LETTERS : ∃ t, mg "MOST_LETTERS" = some (.int 6 t)
  c_MOST_NODES : ∃ t, mg "MOST_NODES" = some (.int 40 t)
  c_Lattice : mg "Lattice" = some (.ref CL)
  cl_Lattice : Cls K CL
  isi_Lattice : IsiF K CL
  n_Lattice_both : NoAttr K CL "both"
  n_Lattice_either : NoAttr K CL "either"
  n_Lattice_rows : NoAttr K CL "rows"
section
variable {P : Program} {w : World} {K : PySem.W.Frag} {mg : Str → Option Value} {base : Heap}
/-! ### is_whole -/
abbrev s_is_whole : Stmt := top 6
theorem sc_is_whole : FnScope ["value"] ["value"] (defScope s_is_whole) := ⟨rfl, rfl, rfl, by decide +kernel, rfl, by decide +kernel, by decide +kernel⟩
def g_is_whole (CL : Addr) (a_HEADS : Addr) : G := (gRet (mAndV (mCB (gIsi CL) (fCons (fVar false 0) (fCons (fC (.ty "int")) fNil))) (mNotV (mCB (gIsi CL) (fCons (fVar false 0) (fCons (fC (.ty "bool")) fNil))))))
def m_is_whole (CL : Addr) (a_HEADS : Addr) : Mir := mirOf (g_is_whole CL a_HEADS) 1 1

theorem fd_is_whole {f : Addr} {fd : FuncData} {CL a_HEADS : Addr} (T : Txt K mg CL a_HEADS) (F : L2.Fun K "is_whole" "is_whole" s_is_whole f fd) (hm : mg "is_whole" = some (.ref f)) : Fd P w K mg base 1 "is_whole" 1 (m_is_whole CL a_HEADS) :=
  fd_of F hm (F.binds (ps := ["value"]) fun _ _ _ _ _ _ us hl => match us, hl with | [_], _ => rfl) sc_is_whole rfl rfl fun cdv A outer s H E hr => by
    have hu := hr.units
    have hN := sc_is_whole.nd
    exact ⟨_, (dss_one (ds_ret (de_and (de_isi T.isi_Lattice (by rfl) T.b_isinstance (da_cons (dv 0) (da_cons (dc_ty (by rfl) T.b_int (by decide +kernel)) da_nil))) (de_one (de_not (de_isi T.isi_Lattice (by rfl) T.b_isinstance (da_cons (dv 0) (da_cons (dc_ty (by rfl) T.b_bool (by decide +kernel)) da_nil))))))))⟩

/-! ### is_index -/
abbrev s_is_index : Stmt := top 7
theorem sc_is_index : FnScope ["value", "many"] ["value", "many"] (defScope s_is_index) := ⟨rfl, rfl, rfl, by decide +kernel, rfl, by decide +kernel, by decide +kernel⟩
def g_is_index (CL : Addr) (a_HEADS : Addr) : G := (gRet (mAndV (mCallP true (m_is_whole CL a_HEADS) (fCons (fVar true 0) fNil)) (mChain gLe gLt (fC (.int (0))) (fVar false 0) (fVar false 1))))
def m_is_index (CL : Addr) (a_HEADS : Addr) : Mir := mirOf (g_is_index CL a_HEADS) 2 2

theorem fd_is_index {f : Addr} {fd : FuncData} {CL a_HEADS : Addr} (T : Txt K mg CL a_HEADS) (F : L2.Fun K "is_index" "is_index" s_is_index f fd) (hm : mg "is_index" = some (.ref f)) (C_is_whole : Fd P w K mg base 1 "is_whole" 1 (m_is_whole CL a_HEADS)) : Fd P w K mg base 2 "is_index" 2 (m_is_index CL a_HEADS) :=
  fd_of F hm (F.binds (ps := ["value", "many"]) fun _ _ _ _ _ _ us hl => match us, hl with | [_, _], _ => rfl) sc_is_index rfl rfl fun cdv A outer s H E hr => by
    have hu := hr.units
    have hN := sc_is_index.nd
    exact ⟨_, (dss_one (ds_ret (de_and (de_callP (q1 := true) (Fd.fn C_is_whole hr) (by rfl) (da_cons (dv 0) da_nil) (lng_cons lng_nil)) (de_one (de_chain op_le (v_le (q1 := false) (q2 := false)) op_lt (v_lt (q1 := false) (q2 := false)) dc_int (dv 0) (dv 1))))))⟩

/-! ### is_row -/
abbrev s_is_row : Stmt := top 10
theorem sc_is_row : FnScope ["value", "at", "many", "one", "spot"] ["value", "at", "many"] (defScope s_is_row) := ⟨rfl, rfl, rfl, by decide +kernel, rfl, by decide +kernel, by decide +kernel⟩
def g_is_row (CL : Addr) (a_HEADS : Addr) : G := (gSeq (gIf (mOr (mNot (mTru (mCB (gIsi CL) (fCons (fVar false 0) (fCons (fC (.ty "tuple")) fNil))))) (mOr (mNot (mTru (mCB gAll (fCons (mLst (mLc [3] (.nm 3) (mSeq (fVar false 0)) fYes (mCallP true (m_is_index CL a_HEADS) (fCons (fVar true 3) (fCons (fVar true 2) fNil))))) fNil)))) (mB (mOp gNotIn (fVar false 1) (fVar false 0))))) (gRet (fC (.bl false))) DL.gNil)
    (gRet (mCB gAll (fCons (mLst (mLc [4] (.nm 4) (mRg rg1 (fCons (mOp DL.gSub (mCB gLen (fCons (fVar false 0) fNil)) (fC (.int (1)))) fNil)) fYes (mOp gLt (mOp gIx (fVar false 0) (fVar false 4)) (mOp gIx (fVar false 0) (mOp gAdd (fVar false 4) (fC (.int (1)))))))) fNil))))
def m_is_row (CL : Addr) (a_HEADS : Addr) : Mir := mirOf (g_is_row CL a_HEADS) 3 5

theorem fd_is_row {f : Addr} {fd : FuncData} {CL a_HEADS : Addr} (T : Txt K mg CL a_HEADS) (F : L2.Fun K "is_row" "is_row" s_is_row f fd) (hm : mg "is_row" = some (.ref f)) (C_is_index : Fd P w K mg base 2 "is_index" 2 (m_is_index CL a_HEADS)) : Fd P w K mg base 3 "is_row" 3 (m_is_row CL a_HEADS) :=
  fd_of F hm (F.binds (ps := ["value", "at", "many"]) fun _ _ _ _ _ _ us hl => match us, hl with | [_, _, _], _ => rfl) sc_is_row rfl rfl fun cdv A outer s H E hr => by
    have hu := hr.units
    have hN := sc_is_row.nd
    exact ⟨_, (dss_cons (ds_if (DW.dt (dw_or (dt_not (dt_tru (de_isi T.isi_Lattice (by rfl) T.b_isinstance (da_cons (dv 0) (da_cons (dc_ty (by rfl) T.b_tuple (by decide +kernel)) da_nil))))) (dw_or (dt_not (dt_tru (de_callB (cr_all (by rfl)) (v_all (q1 := false)) (by rfl) T.b_all (by decide +kernel) (da_cons (DF.de (df_lc (q := false) (own := [("one", 3)]) (w := (iSeq K (tVar 0))) (g := (gName 3)) (tt := tYes) (te := (tCall (spD K 2 (m_is_index CL a_HEADS)) [] L2.E0 (tCons (tVar 3) (tCons (tVar 2) tNil)))) (by rfl) hN (dit_seq (dv 0)) (blkOk_by (by kernel_rfl)) (fun _ _ _ _ _ => (dg_name (i := 3) hN)) (fun _ _ _ _ _ => dts_nil) (fun _ _ _ _ _ => (de_callP (q1 := true) (Fd.fn C_is_index hr) (by rfl) (da_cons (dv 3) (da_cons (dv 2) da_nil)) (lng_cons (lng_cons lng_nil)))))) da_nil)))) (dw_or1 (dt_cmpR (op_notIn6 hu) (v_notIn (q1 := false) (q2 := false)) (dv 1) (dv 0) (by rfl)))))) (dss_one (ds_ret dc_bl)) dss_nil)
    (dss_one (ds_ret (de_callB (cr_all (by rfl)) (v_all (q1 := false)) (by rfl) T.b_all (by decide +kernel) (da_cons (DF.de (df_lc (q := false) (own := [("spot", 4)]) (w := (iRng1 (tCons (tOp xSub (tCB (rLen3 K) (tCons (tVar 0) tNil)) (tC (.int (1)))) tNil))) (g := (gName 4)) (tt := tYes) (te := (tOp xLt (tOp (rIx5 K) (tVar 0) (tVar 4)) (tOp (rIx5 K) (tVar 0) (tOp (rAdd4 K) (tVar 4) (tC (.int (1))))))) (by rfl) hN (dit_range1 (by rfl) T.b_range (da_cons (de_op op_sub (v_sub (q1 := false) (q2 := false)) (de_callB call_len3 (v_len (q1 := false)) (by rfl) T.b_len (by decide +kernel) (da_cons (dv 0) da_nil)) dc_int) da_nil)) (blkOk_by (by kernel_rfl)) (fun _ _ _ _ _ => (dg_name (i := 4) hN)) (fun _ _ _ _ _ => dts_nil) (fun _ _ _ _ _ => (de_cmpR op_lt (v_lt (q1 := false) (q2 := false)) (de_ix hu (dv 0) (dv 4)) (de_ix hu (dv 0) (de_op op_add4 (v_add (q1 := false) (q2 := false)) (dv 4) dc_int)) (by rfl))))) da_nil)))))⟩

/-! ### is_order -/
abbrev s_is_order : Stmt := top 11
theorem sc_is_order : FnScope ["rows", "row", "one", "below", "at", "other"] ["rows"] (defScope s_is_order) := ⟨rfl, rfl, rfl, by decide +kernel, rfl, by decide +kernel, by decide +kernel⟩
def g_is_order (CL : Addr) (a_HEADS : Addr) : G := (gSeq (gBind (mLst (mLc [1] (.nm 1) (mSeq (fVar false 0)) fYes (mCB gDict (fCons (mLst (mLc [2] (.nm 2) (mSeq (fVar false 1)) fYes (mTup (fCons (fVar true 2) (fCons (fC (.bl true)) fNil))))) fNil)))) (kPut (.nm 3)))
    (gSeq (gFor (.tp [4, 1]) (mRg enD (fCons (fVar true 0) fNil)) (gFor (.nm 2) (mSeq (fVar true 1)) (gIf (mOr (mAnd (mB (mOp gNe (fVar false 2) (fVar false 4))) (mB (mOp gIn (fVar false 4) (mOp gIx (fVar false 3) (fVar false 2))))) (mNot (mTru (mCB gAll (fCons (mLst (mLc [5] (.nm 5) (mSeq (mOp gIx (fVar false 0) (fVar false 2))) fYes (mOp gIn (fVar false 5) (mOp gIx (fVar false 3) (fVar false 4))))) fNil))))) (gRet (fC (.bl false))) DL.gNil)))
    (gRet (fC (.bl true)))))
def m_is_order (CL : Addr) (a_HEADS : Addr) : Mir := mirOf (g_is_order CL a_HEADS) 1 6

theorem fd_is_order {f : Addr} {fd : FuncData} {CL a_HEADS : Addr} (T : Txt K mg CL a_HEADS) (F : L2.Fun K "is_order" "is_order" s_is_order f fd) (hm : mg "is_order" = some (.ref f)) : Fd P w K mg base 1 "is_order" 1 (m_is_order CL a_HEADS) :=
  fd_of F hm (F.binds (ps := ["rows"]) fun _ _ _ _ _ _ us hl => match us, hl with | [_], _ => rfl) sc_is_order rfl rfl fun cdv A outer s H E hr => by
    have hu := hr.units
    have hN := sc_is_order.nd
    exact ⟨_, (dss_cons (ds_set (i := 3) hN (DF.de (df_lc (q := false) (own := [("row", 1)]) (w := (iSeq K (tVar 0))) (g := (gName 1)) (tt := tYes) (te := (tCB (rDictP K) (tCons (tLc (iSeq K (tVar 1)) (gName 2) tYes (tTup (tCons (tVar 2) (tCons (tC (.bl true)) tNil))) [2]) tNil))) (by rfl) hN (dit_seq (dv 0)) (blkOk_by (by kernel_rfl)) (fun _ _ _ _ _ => (dg_name (i := 1) hN)) (fun _ _ _ _ _ => dts_nil) (fun _ _ _ _ _ => (de_callTy (call_dictP (by rfl)) v_dict (by rfl) T.b_dict (by decide +kernel) (da_cons (DF.de (df_lc (q := false) (own := [("one", 2)]) (w := (iSeq K (tVar 1))) (g := (gName 2)) (tt := tYes) (te := (tTup (tCons (tVar 2) (tCons (tC (.bl true)) tNil)))) (by rfl) hN (dit_seq (dv 1)) (blkOk_by (by kernel_rfl)) (fun _ _ _ _ _ => (dg_name (i := 2) hN)) (fun _ _ _ _ _ => dts_nil) (fun _ _ _ _ _ => (de_tup (da_cons (dv 2) (da_cons dc_bl da_nil)))))) da_nil))))))
    (dss_cons (ds_for PassesOwn.never (by rfl) (dit_enum (by rfl) T.b_enumerate (da_cons (dv 0) da_nil)) (dg_tup (by rfl) (dgs_cons (dg_name (i := 4) hN) (dgs_cons (dg_name (i := 1) hN) dgs_nil))) (dss_one (ds_for PassesOwn.never (by rfl) (dit_seq (dv 1)) (dg_name (i := 2) hN) (dss_one (ds_if (DW.dt (dw_or (DW.dt (dw_and (dt_cmpR (op_neP hu) (v_ne (q1 := false) (q2 := false)) (dv 2) (dv 4) (by rfl)) (dw_and1 (dt_cmpR (op_in6 hu) (v_in (q1 := false) (q2 := false)) (dv 4) (de_ix hu (dv 3) (dv 2)) (by rfl))))) (dw_or1 (dt_not (dt_tru (de_callB (cr_all (by rfl)) (v_all (q1 := false)) (by rfl) T.b_all (by decide +kernel) (da_cons (DF.de (df_lc (q := false) (own := [("other", 5)]) (w := (iSeq K (tOp (rIx5 K) (tVar 0) (tVar 2)))) (g := (gName 5)) (tt := tYes) (te := (tOp (rIn6 K false) (tVar 5) (tOp (rIx5 K) (tVar 3) (tVar 4)))) (by rfl) hN (dit_seq (de_ix hu (dv 0) (dv 2))) (blkOk_by (by kernel_rfl)) (fun _ _ _ _ _ => (dg_name (i := 5) hN)) (fun _ _ _ _ _ => dts_nil) (fun _ _ _ _ _ => (de_cmpR (op_in6 hu) (v_in (q1 := false) (q2 := false)) (dv 5) (de_ix hu (dv 3) (dv 4)) (by rfl))))) da_nil))))))) (dss_one (ds_ret dc_bl)) dss_nil)))))
    (dss_one (ds_ret dc_bl))))⟩

/-! ### above_by -/
abbrev s_above_by : Stmt := top 12
theorem sc_above_by : FnScope ["rows", "element", "spot", "row"] ["rows", "element"] (defScope s_above_by) := ⟨rfl, rfl, rfl, by decide +kernel, rfl, by decide +kernel, by decide +kernel⟩
def g_above_by (CL : Addr) (a_HEADS : Addr) : G := (gRet (mCB gTuple (fCons (mLst (mLc [2, 3] (.tp [2, 3]) (mRg enD (fCons (fVar false 0) fNil)) (mB (mOp gIn (fVar false 1) (fVar false 3))) (fVar true 2))) fNil)))
def m_above_by (CL : Addr) (a_HEADS : Addr) : Mir := mirOf (g_above_by CL a_HEADS) 2 4

theorem fd_above_by {f : Addr} {fd : FuncData} {CL a_HEADS : Addr} (T : Txt K mg CL a_HEADS) (F : L2.Fun K "above_by" "above_by" s_above_by f fd) (hm : mg "above_by" = some (.ref f)) : Fd P w K mg base 1 "above_by" 2 (m_above_by CL a_HEADS) :=
  fd_of F hm (F.binds (ps := ["rows", "element"]) fun _ _ _ _ _ _ us hl => match us, hl with | [_, _], _ => rfl) sc_above_by rfl rfl fun cdv A outer s H E hr => by
    have hu := hr.units
    have hN := sc_above_by.nd
    exact ⟨_, (dss_one (ds_ret (de_callTy call_tuple_of (v_tuple (q1 := false)) (by rfl) T.b_tuple (by decide +kernel) (da_cons (DF.de (df_lc (q := false) (own := [("spot", 2), ("row", 3)]) (w := (iEnumA K (tCons (tVar 0) tNil))) (g := (gTup K 2 (gCons (gName 2) (gCons (gName 3) L2.gNil)))) (tt := (tTest (tOp (rIn6 K false) (tVar 1) (tVar 3)))) (te := (tVar 2)) (by rfl) hN (dit_enum (by rfl) T.b_enumerate (da_cons (dv 0) da_nil)) (blkOk_by (by kernel_rfl)) (fun _ _ _ _ _ => (dg_tup (by rfl) (dgs_cons (dg_name (i := 2) hN) (dgs_cons (dg_name (i := 3) hN) dgs_nil)))) (fun _ _ _ _ _ => (dts_one (dt_cmpR (op_in6 hu) (v_in (q1 := false) (q2 := false)) (dv 1) (dv 3) (by rfl)))) (fun _ _ _ _ _ => (dv 2)))) da_nil))))⟩

/-! ### common_of -/
abbrev s_common_of : Stmt := top 13
theorem sc_common_of : FnScope ["one", "other", "own", "spot"] ["one", "other"] (defScope s_common_of) := ⟨rfl, rfl, rfl, by decide +kernel, rfl, by decide +kernel, by decide +kernel⟩
def g_common_of (CL : Addr) (a_HEADS : Addr) : G := (gSeq (gBind (mCB gDict (fCons (mLst (mLc [3] (.nm 3) (mSeq (fVar false 1)) fYes (mTup (fCons (fVar true 3) (fCons (fC (.bl true)) fNil))))) fNil)) (kPut (.nm 2)))
    (gRet (mCB gTuple (fCons (mLst (mLc [3] (.nm 3) (mSeq (fVar false 0)) (mB (mOp gIn (fVar false 3) (fVar false 2))) (fVar true 3))) fNil))))
def m_common_of (CL : Addr) (a_HEADS : Addr) : Mir := mirOf (g_common_of CL a_HEADS) 2 4

theorem fd_common_of {f : Addr} {fd : FuncData} {CL a_HEADS : Addr} (T : Txt K mg CL a_HEADS) (F : L2.Fun K "common_of" "common_of" s_common_of f fd) (hm : mg "common_of" = some (.ref f)) : Fd P w K mg base 1 "common_of" 2 (m_common_of CL a_HEADS) :=
  fd_of F hm (F.binds (ps := ["one", "other"]) fun _ _ _ _ _ _ us hl => match us, hl with | [_, _], _ => rfl) sc_common_of rfl rfl fun cdv A outer s H E hr => by
    have hu := hr.units
    have hN := sc_common_of.nd
    exact ⟨_, (dss_cons (ds_set (i := 2) hN (de_callTy (call_dictP (by rfl)) v_dict (by rfl) T.b_dict (by decide +kernel) (da_cons (DF.de (df_lc (q := false) (own := [("spot", 3)]) (w := (iSeq K (tVar 1))) (g := (gName 3)) (tt := tYes) (te := (tTup (tCons (tVar 3) (tCons (tC (.bl true)) tNil)))) (by rfl) hN (dit_seq (dv 1)) (blkOk_by (by kernel_rfl)) (fun _ _ _ _ _ => (dg_name (i := 3) hN)) (fun _ _ _ _ _ => dts_nil) (fun _ _ _ _ _ => (de_tup (da_cons (dv 3) (da_cons dc_bl da_nil)))))) da_nil)))
    (dss_one (ds_ret (de_callTy call_tuple_of (v_tuple (q1 := false)) (by rfl) T.b_tuple (by decide +kernel) (da_cons (DF.de (df_lc (q := false) (own := [("spot", 3)]) (w := (iSeq K (tVar 0))) (g := (gName 3)) (tt := (tTest (tOp (rIn6 K false) (tVar 3) (tVar 2)))) (te := (tVar 3)) (by rfl) hN (dit_seq (dv 0)) (blkOk_by (by kernel_rfl)) (fun _ _ _ _ _ => (dg_name (i := 3) hN)) (fun _ _ _ _ _ => (dts_one (dt_cmpR (op_in6 hu) (v_in (q1 := false) (q2 := false)) (dv 3) (dv 2) (by rfl)))) (fun _ _ _ _ _ => (dv 3)))) da_nil)))))⟩

/-! ### table_by -/
abbrev s_table_by : Stmt := top 14
theorem sc_table_by : FnScope ["rows", "places", "table", "one", "found", "at", "row", "other"] ["rows"] (defScope s_table_by) := ⟨rfl, rfl, rfl, by decide +kernel, rfl, by decide +kernel, by decide +kernel⟩
def g_table_by (CL : Addr) (a_HEADS : Addr) : G := (gSeq (gBind (mCB gDictT (fCons (mLst (mLc [5, 6] (.tp [5, 6]) (mRg enD (fCons (fVar false 0) fNil)) fYes (mTup (fCons (fVar true 6) (fCons (fVar true 5) fNil))))) fNil)) (kPut (.nm 1)))
    (gSeq (gBind (fBound fNil) (kOwn 2))
    (gSeq (gFor (.nm 3) (mSeq (fVar true 0)) (gSeq (gBind (mLst (mLc [7] (.nm 7) (mSeq (fVar false 0)) fYes (mGet (fVar false 1) (mCallP true (m_common_of CL a_HEADS) (fCons (fVar true 3) (fCons (fVar true 7) fNil)))))) (kPut (.nm 4)))
    (gSeq (gIf (mB (mOp gIn (fC .non) (fVar false 4))) (gRet (fC .non)) DL.gNil)
    (gMut 2 aApp (fVar true 4)))))
    (gRet (fVar true 2)))))
def m_table_by (CL : Addr) (a_HEADS : Addr) : Mir := mirOf (g_table_by CL a_HEADS) 1 8

theorem fd_table_by {f : Addr} {fd : FuncData} {CL a_HEADS : Addr} (T : Txt K mg CL a_HEADS) (F : L2.Fun K "table_by" "table_by" s_table_by f fd) (hm : mg "table_by" = some (.ref f)) (C_common_of : Fd P w K mg base 1 "common_of" 2 (m_common_of CL a_HEADS)) : Fd P w K mg base 2 "table_by" 1 (m_table_by CL a_HEADS) :=
  fd_of F hm (F.binds (ps := ["rows"]) fun _ _ _ _ _ _ us hl => match us, hl with | [_], _ => rfl) sc_table_by rfl rfl fun cdv A outer s H E hr => by
    have hu := hr.units
    have hN := sc_table_by.nd
    exact ⟨_, (dss_cons (ds_set (i := 1) hN (de_callTy (call_dictT (by rfl) hu) v_dictT (by rfl) T.b_dict (by decide +kernel) (da_cons (DF.de (df_lc (q := false) (own := [("at", 5), ("row", 6)]) (w := (iEnumA K (tCons (tVar 0) tNil))) (g := (gTup K 2 (gCons (gName 5) (gCons (gName 6) L2.gNil)))) (tt := tYes) (te := (tTup (tCons (tVar 6) (tCons (tVar 5) tNil)))) (by rfl) hN (dit_enum (by rfl) T.b_enumerate (da_cons (dv 0) da_nil)) (blkOk_by (by kernel_rfl)) (fun _ _ _ _ _ => (dg_tup (by rfl) (dgs_cons (dg_name (i := 5) hN) (dgs_cons (dg_name (i := 6) hN) dgs_nil)))) (fun _ _ _ _ _ => dts_nil) (fun _ _ _ _ _ => (de_tup (da_cons (dv 6) (da_cons (dv 5) da_nil)))))) da_nil)))
    (dss_cons (ds_own (i := 2) hN (df_lst da_nil))
    (dss_cons (ds_for PassesOwn.never (by rfl) (dit_seq (dv 0)) (dg_name (i := 3) hN) (dss_cons (ds_setLc (q := false) (own := [("other", 7)]) (w := (iSeq K (tVar 0))) (g := (gName 7)) (tt := tYes) (te := (tDGet1 (tVar 1) (tCall (spD K 2 (m_common_of CL a_HEADS)) [] L2.E0 (tCons (tVar 3) (tCons (tVar 7) tNil))))) (i := 4) (by rfl) hN (dit_seq (dv 0)) (blkOk_by (by kernel_rfl)) (fun _ _ _ _ _ => (dg_name (i := 7) hN)) (fun _ _ _ _ _ => dts_nil) (fun _ _ _ _ _ => (de_get hu (dv 1) (de_callP (q1 := true) (Fd.fn C_common_of hr) (by rfl) (da_cons (dv 3) (da_cons (dv 7) da_nil)) (lng_cons (lng_cons lng_nil))))))
    (dss_cons (ds_if (dt_cmpR (op_in6 hu) (v_in (q1 := false) (q2 := false)) dc_non (dv 4) (by rfl)) (dss_one (ds_ret dc_non)) dss_nil)
    (dss_one (ds_append 2 (dv 4))))))
    (dss_one (ds_ret (dv 2))))))⟩

/-! ### are_rows -/
abbrev s_are_rows : Stmt := top 15
theorem sc_are_rows : FnScope ["value", "at", "row"] ["value"] (defScope s_are_rows) := ⟨rfl, rfl, rfl, by decide +kernel, rfl, by decide +kernel, by decide +kernel⟩
def g_are_rows (CL : Addr) (a_HEADS : Addr) : G := (gSeq (gIf (mOr (mNot (mTru (mCB (gIsi CL) (fCons (fVar false 0) (fCons (fC (.ty "tuple")) fNil))))) (mNot (mB (mChain gLe gLe (fC (.int (1))) (mCB gLen (fCons (fVar false 0) fNil)) (fC (.int 60)))))) (gRet (fC (.bl false))) DL.gNil)
    (gRet (mAndV (mCB gAll (fCons (mLst (mLc [1, 2] (.tp [1, 2]) (mRg enD (fCons (fVar false 0) fNil)) fYes (mCallP true (m_is_row CL a_HEADS) (fCons (fVar true 2) (fCons (fVar true 1) (fCons (mCB gLen (fCons (fVar false 0) fNil)) fNil)))))) fNil)) (mCallP true (m_is_order CL a_HEADS) (fCons (fVar true 0) fNil)))))
def m_are_rows (CL : Addr) (a_HEADS : Addr) : Mir := mirOf (g_are_rows CL a_HEADS) 1 3

theorem fd_are_rows {f : Addr} {fd : FuncData} {CL a_HEADS : Addr} (T : Txt K mg CL a_HEADS) (F : L2.Fun K "are_rows" "are_rows" s_are_rows f fd) (hm : mg "are_rows" = some (.ref f)) (C_is_order : Fd P w K mg base 1 "is_order" 1 (m_is_order CL a_HEADS)) (C_is_row : Fd P w K mg base 3 "is_row" 3 (m_is_row CL a_HEADS)) : Fd P w K mg base 4 "are_rows" 1 (m_are_rows CL a_HEADS) :=
  fd_of F hm (F.binds (ps := ["value"]) fun _ _ _ _ _ _ us hl => match us, hl with | [_], _ => rfl) sc_are_rows rfl rfl fun cdv A outer s H E hr => by
    have hu := hr.units
    have hN := sc_are_rows.nd
    exact ⟨_, (dss_cons (ds_if (DW.dt (dw_or (dt_not (dt_tru (de_isi T.isi_Lattice (by rfl) T.b_isinstance (da_cons (dv 0) (da_cons (dc_ty (by rfl) T.b_tuple (by decide +kernel)) da_nil))))) (dw_or1 (dt_not (dt_chain op_le (v_le (q1 := false) (q2 := false)) op_le (v_le (q1 := false) (q2 := false)) dc_int (de_callB call_len3 (v_len (q1 := false)) (by rfl) T.b_len (by decide +kernel) (da_cons (dv 0) da_nil)) (dc_globI (by rfl) T.c_MOST_ELEMENTS)))))) (dss_one (ds_ret dc_bl)) dss_nil)
    (dss_one (ds_ret (de_and (de_callB (cr_all (by rfl)) (v_all (q1 := false)) (by rfl) T.b_all (by decide +kernel) (da_cons (DF.de (df_lc (q := false) (own := [("at", 1), ("row", 2)]) (w := (iEnumA K (tCons (tVar 0) tNil))) (g := (gTup K 2 (gCons (gName 1) (gCons (gName 2) L2.gNil)))) (tt := tYes) (te := (tCall (spD K 3 (m_is_row CL a_HEADS)) [] L2.E0 (tCons (tVar 2) (tCons (tVar 1) (tCons (tCB (rLen3 K) (tCons (tVar 0) tNil)) tNil))))) (by rfl) hN (dit_enum (by rfl) T.b_enumerate (da_cons (dv 0) da_nil)) (blkOk_by (by kernel_rfl)) (fun _ _ _ _ _ => (dg_tup (by rfl) (dgs_cons (dg_name (i := 1) hN) (dgs_cons (dg_name (i := 2) hN) dgs_nil)))) (fun _ _ _ _ _ => dts_nil) (fun _ _ _ _ _ => (de_callP (q1 := true) (Fd.fn C_is_row hr) (by rfl) (da_cons (dv 2) (da_cons (dv 1) (da_cons (de_callB call_len3 (v_len (q1 := false)) (by rfl) T.b_len (by decide +kernel) (da_cons (dv 0) da_nil)) da_nil))) (lng_cons (lng_cons (lng_cons lng_nil))))))) da_nil)) (de_one (de_callP (q1 := true) (Fd.fn C_is_order hr) (by rfl) (da_cons (dv 0) da_nil) (lng_cons lng_nil)))))))⟩

/-! ### need_lattice -/
abbrev s_need_lattice : Stmt := top 17
theorem sc_need_lattice : FnScope ["value"] ["value"] (defScope s_need_lattice) := ⟨rfl, rfl, rfl, by decide +kernel, rfl, by decide +kernel, by decide +kernel⟩
def g_need_lattice (CL : Addr) (a_HEADS : Addr) : G := (gSeq (gIf (mNot (mTru (mCB (gIsi CL) (fCons (fVar false 0) (fCons (fC (.adr CL)) fNil))))) gNo DL.gNil)
    (gRet (fVar true 0)))
def m_need_lattice (CL : Addr) (a_HEADS : Addr) : Mir := mirOf (g_need_lattice CL a_HEADS) 1 1

theorem fd_need_lattice {f : Addr} {fd : FuncData} {CL a_HEADS : Addr} (T : Txt K mg CL a_HEADS) (F : L2.Fun K "need_lattice" "need_lattice" s_need_lattice f fd) (hm : mg "need_lattice" = some (.ref f)) : Fd P w K mg base 1 "need_lattice" 1 (m_need_lattice CL a_HEADS) :=
  fd_of F hm (F.binds (ps := ["value"]) fun _ _ _ _ _ _ us hl => match us, hl with | [_], _ => rfl) sc_need_lattice rfl rfl fun cdv A outer s H E hr => by
    have hu := hr.units
    have hN := sc_need_lattice.nd
    exact ⟨_, (dss_cons (ds_if (dt_not (dt_tru (de_isi T.isi_Lattice (by rfl) T.b_isinstance (da_cons (dv 0) (da_cons (dc_cls (by rfl) T.c_Lattice) da_nil))))) (dss_one ds_never) dss_nil)
    (dss_one (ds_ret (dv 0))))⟩

/-! ### is_below -/
abbrev s_is_below : Stmt := top 18
theorem sc_is_below : FnScope ["lattice", "one", "other"] ["lattice", "one", "other"] (defScope s_is_below) := ⟨rfl, rfl, rfl, by decide +kernel, rfl, by decide +kernel, by decide +kernel⟩
def g_is_below (CL : Addr) (a_HEADS : Addr) : G := (gRet (mOp gEq (mOp gIx (mOp gIx (mFld CL "both" (fVar false 0)) (fVar false 1)) (fVar false 2)) (fVar false 1)))
def m_is_below (CL : Addr) (a_HEADS : Addr) : Mir := mirOf (g_is_below CL a_HEADS) 3 3

theorem fd_is_below {f : Addr} {fd : FuncData} {CL a_HEADS : Addr} (T : Txt K mg CL a_HEADS) (F : L2.Fun K "is_below" "is_below" s_is_below f fd) (hm : mg "is_below" = some (.ref f)) : Fd P w K mg base 1 "is_below" 3 (m_is_below CL a_HEADS) :=
  fd_of F hm (F.binds (ps := ["lattice", "one", "other"]) fun _ _ _ _ _ _ us hl => match us, hl with | [_, _, _], _ => rfl) sc_is_below rfl rfl fun cdv A outer s H E hr => by
    have hu := hr.units
    have hN := sc_is_below.nd
    exact ⟨_, (dss_one (ds_ret (de_cmpR (op_eqP hu) (v_eq (q1 := false) (q2 := false)) (de_ix hu (de_ix hu (de_fld T.cl_Lattice T.n_Lattice_both (dv 0)) (dv 1)) (dv 2)) (dv 1) (by rfl))))⟩

/-! ### both_by -/
abbrev s_both_by : Stmt := top 19
theorem sc_both_by : FnScope ["lattice", "one", "other"] ["lattice", "one", "other"] (defScope s_both_by) := ⟨rfl, rfl, rfl, by decide +kernel, rfl, by decide +kernel, by decide +kernel⟩
def g_both_by (CL : Addr) (a_HEADS : Addr) : G := (gRet (mOp gIx (mOp gIx (mFld CL "both" (fVar false 0)) (fVar false 1)) (fVar false 2)))
def m_both_by (CL : Addr) (a_HEADS : Addr) : Mir := mirOf (g_both_by CL a_HEADS) 3 3

theorem fd_both_by {f : Addr} {fd : FuncData} {CL a_HEADS : Addr} (T : Txt K mg CL a_HEADS) (F : L2.Fun K "both_by" "both_by" s_both_by f fd) (hm : mg "both_by" = some (.ref f)) : Fd P w K mg base 1 "both_by" 3 (m_both_by CL a_HEADS) :=
  fd_of F hm (F.binds (ps := ["lattice", "one", "other"]) fun _ _ _ _ _ _ us hl => match us, hl with | [_, _, _], _ => rfl) sc_both_by rfl rfl fun cdv A outer s H E hr => by
    have hu := hr.units
    have hN := sc_both_by.nd
    exact ⟨_, (dss_one (ds_ret (de_ix hu (de_ix hu (de_fld T.cl_Lattice T.n_Lattice_both (dv 0)) (dv 1)) (dv 2))))⟩

/-! ### either_by -/
abbrev s_either_by : Stmt := top 20
theorem sc_either_by : FnScope ["lattice", "one", "other"] ["lattice", "one", "other"] (defScope s_either_by) := ⟨rfl, rfl, rfl, by decide +kernel, rfl, by decide +kernel, by decide +kernel⟩
def g_either_by (CL : Addr) (a_HEADS : Addr) : G := (gRet (mOp gIx (mOp gIx (mFld CL "either" (fVar false 0)) (fVar false 1)) (fVar false 2)))
def m_either_by (CL : Addr) (a_HEADS : Addr) : Mir := mirOf (g_either_by CL a_HEADS) 3 3

theorem fd_either_by {f : Addr} {fd : FuncData} {CL a_HEADS : Addr} (T : Txt K mg CL a_HEADS) (F : L2.Fun K "either_by" "either_by" s_either_by f fd) (hm : mg "either_by" = some (.ref f)) : Fd P w K mg base 1 "either_by" 3 (m_either_by CL a_HEADS) :=
  fd_of F hm (F.binds (ps := ["lattice", "one", "other"]) fun _ _ _ _ _ _ us hl => match us, hl with | [_, _, _], _ => rfl) sc_either_by rfl rfl fun cdv A outer s H E hr => by
    have hu := hr.units
    have hN := sc_either_by.nd
    exact ⟨_, (dss_one (ds_ret (de_ix hu (de_ix hu (de_fld T.cl_Lattice T.n_Lattice_either (dv 0)) (dv 1)) (dv 2))))⟩

/-! ### need_element -/
abbrev s_need_element : Stmt := top 21
theorem sc_need_element : FnScope ["what", "lattice", "value"] ["what", "lattice", "value"] (defScope s_need_element) := ⟨rfl, rfl, rfl, by decide +kernel, rfl, by decide +kernel, by decide +kernel⟩
def g_need_element (CL : Addr) (a_HEADS : Addr) : G := (gSeq (gIf (mNot (mTru (mCallP true (m_is_index CL a_HEADS) (fCons (fVar true 2) (fCons (mCB gLen (fCons (mFld CL "rows" (fVar false 1)) fNil)) fNil))))) gNo DL.gNil)
    (gRet (fVar true 2)))
def m_need_element (CL : Addr) (a_HEADS : Addr) : Mir := mirOf (g_need_element CL a_HEADS) 3 3

theorem fd_need_element {f : Addr} {fd : FuncData} {CL a_HEADS : Addr} (T : Txt K mg CL a_HEADS) (F : L2.Fun K "need_element" "need_element" s_need_element f fd) (hm : mg "need_element" = some (.ref f)) (C_is_index : Fd P w K mg base 2 "is_index" 2 (m_is_index CL a_HEADS)) : Fd P w K mg base 3 "need_element" 3 (m_need_element CL a_HEADS) :=
  fd_of F hm (F.binds (ps := ["what", "lattice", "value"]) fun _ _ _ _ _ _ us hl => match us, hl with | [_, _, _], _ => rfl) sc_need_element rfl rfl fun cdv A outer s H E hr => by
    have hu := hr.units
    have hN := sc_need_element.nd
    exact ⟨_, (dss_cons (ds_if (dt_not (dt_tru (de_callP (q1 := true) (Fd.fn C_is_index hr) (by rfl) (da_cons (dv 2) (da_cons (de_callB call_len3 (v_len (q1 := false)) (by rfl) T.b_len (by decide +kernel) (da_cons (de_fld T.cl_Lattice T.n_Lattice_rows (dv 1)) da_nil)) da_nil)) (lng_cons (lng_cons lng_nil))))) (dss_one ds_never) dss_nil)
    (dss_one (ds_ret (dv 2))))⟩

/-! ### need_elements -/
abbrev s_need_elements : Stmt := top 22
theorem sc_need_elements : FnScope ["lattice", "one", "other"] ["lattice", "one", "other"] (defScope s_need_elements) := ⟨rfl, rfl, rfl, by decide +kernel, rfl, by decide +kernel, by decide +kernel⟩
def g_need_elements (CL : Addr) (a_HEADS : Addr) : G := (gSeq (gBind (mCallP true (m_need_lattice CL a_HEADS) (fCons (fVar true 0) fNil)) fun _ s => some (.nx s))
    (gRet (mTup (fCons (mCallP true (m_need_element CL a_HEADS) (fCons (fC (.str "one")) (fCons (fVar true 0) (fCons (fVar true 1) fNil)))) (fCons (mCallP true (m_need_element CL a_HEADS) (fCons (fC (.str "other")) (fCons (fVar true 0) (fCons (fVar true 2) fNil)))) fNil)))))
def m_need_elements (CL : Addr) (a_HEADS : Addr) : Mir := mirOf (g_need_elements CL a_HEADS) 3 3

theorem fd_need_elements {f : Addr} {fd : FuncData} {CL a_HEADS : Addr} (T : Txt K mg CL a_HEADS) (F : L2.Fun K "need_elements" "need_elements" s_need_elements f fd) (hm : mg "need_elements" = some (.ref f)) (C_need_element : Fd P w K mg base 3 "need_element" 3 (m_need_element CL a_HEADS)) (C_need_lattice : Fd P w K mg base 1 "need_lattice" 1 (m_need_lattice CL a_HEADS)) : Fd P w K mg base 4 "need_elements" 3 (m_need_elements CL a_HEADS) :=
  fd_of F hm (F.binds (ps := ["lattice", "one", "other"]) fun _ _ _ _ _ _ us hl => match us, hl with | [_, _, _], _ => rfl) sc_need_elements rfl rfl fun cdv A outer s H E hr => by
    have hu := hr.units
    have hN := sc_need_elements.nd
    exact ⟨_, (dss_cons (ds_drop (de_callP (q1 := true) (Fd.fn C_need_lattice hr) (by rfl) (da_cons (dv 0) da_nil) (lng_cons lng_nil)))
    (dss_one (ds_ret (de_tup (da_cons (de_callP (q1 := true) (Fd.fn C_need_element hr) (by rfl) (da_cons dc_str (da_cons (dv 0) (da_cons (dv 1) da_nil))) (lng_cons (lng_cons (lng_cons lng_nil)))) (da_cons (de_callP (q1 := true) (Fd.fn C_need_element hr) (by rfl) (da_cons dc_str (da_cons (dv 0) (da_cons (dv 2) da_nil))) (lng_cons (lng_cons (lng_cons lng_nil)))) da_nil))))))⟩

/-! ### is_at_most -/
abbrev s_is_at_most : Stmt := top 23
theorem sc_is_at_most : FnScope ["lattice", "one", "other", "first", "second"] ["lattice", "one", "other"] (defScope s_is_at_most) := ⟨rfl, rfl, rfl, by decide +kernel, rfl, by decide +kernel, by decide +kernel⟩
def g_is_at_most (CL : Addr) (a_HEADS : Addr) : G := (gSeq (gBind (mCallP true (m_need_elements CL a_HEADS) (fCons (fVar true 0) (fCons (fVar true 1) (fCons (fVar true 2) fNil)))) (kPut (.tp [3, 4])))
    (gRet (mCallP true (m_is_below CL a_HEADS) (fCons (fVar true 0) (fCons (fVar true 3) (fCons (fVar true 4) fNil))))))
def m_is_at_most (CL : Addr) (a_HEADS : Addr) : Mir := mirOf (g_is_at_most CL a_HEADS) 3 5

theorem fd_is_at_most {f : Addr} {fd : FuncData} {CL a_HEADS : Addr} (T : Txt K mg CL a_HEADS) (F : L2.Fun K "is_at_most" "is_at_most" s_is_at_most f fd) (hm : mg "is_at_most" = some (.ref f)) (C_is_below : Fd P w K mg base 1 "is_below" 3 (m_is_below CL a_HEADS)) (C_need_elements : Fd P w K mg base 4 "need_elements" 3 (m_need_elements CL a_HEADS)) : Fd P w K mg base 5 "is_at_most" 3 (m_is_at_most CL a_HEADS) :=
  fd_of F hm (F.binds (ps := ["lattice", "one", "other"]) fun _ _ _ _ _ _ us hl => match us, hl with | [_, _, _], _ => rfl) sc_is_at_most rfl rfl fun cdv A outer s H E hr => by
    have hu := hr.units
    have hN := sc_is_at_most.nd
    exact ⟨_, (dss_cons (ds_asg (de_callP (q1 := true) (Fd.fn C_need_elements hr) (by rfl) (da_cons (dv 0) (da_cons (dv 1) (da_cons (dv 2) da_nil))) (lng_cons (lng_cons (lng_cons lng_nil)))) (dg_tup (by rfl) (dgs_cons (dg_name (i := 3) hN) (dgs_cons (dg_name (i := 4) hN) dgs_nil))))
    (dss_one (ds_ret (de_callP (q1 := true) (Fd.fn C_is_below hr) (by rfl) (da_cons (dv 0) (da_cons (dv 3) (da_cons (dv 4) da_nil))) (lng_cons (lng_cons (lng_cons lng_nil)))))))⟩

/-! ### both_of -/
abbrev s_both_of : Stmt := top 24
theorem sc_both_of : FnScope ["lattice", "one", "other", "first", "second"] ["lattice", "one", "other"] (defScope s_both_of) := ⟨rfl, rfl, rfl, by decide +kernel, rfl, by decide +kernel, by decide +kernel⟩
def g_both_of (CL : Addr) (a_HEADS : Addr) : G := (gSeq (gBind (mCallP true (m_need_elements CL a_HEADS) (fCons (fVar true 0) (fCons (fVar true 1) (fCons (fVar true 2) fNil)))) (kPut (.tp [3, 4])))
    (gRet (mCallP true (m_both_by CL a_HEADS) (fCons (fVar true 0) (fCons (fVar true 3) (fCons (fVar true 4) fNil))))))
def m_both_of (CL : Addr) (a_HEADS : Addr) : Mir := mirOf (g_both_of CL a_HEADS) 3 5

theorem fd_both_of {f : Addr} {fd : FuncData} {CL a_HEADS : Addr} (T : Txt K mg CL a_HEADS) (F : L2.Fun K "both_of" "both_of" s_both_of f fd) (hm : mg "both_of" = some (.ref f)) (C_both_by : Fd P w K mg base 1 "both_by" 3 (m_both_by CL a_HEADS)) (C_need_elements : Fd P w K mg base 4 "need_elements" 3 (m_need_elements CL a_HEADS)) : Fd P w K mg base 5 "both_of" 3 (m_both_of CL a_HEADS) :=
  fd_of F hm (F.binds (ps := ["lattice", "one", "other"]) fun _ _ _ _ _ _ us hl => match us, hl with | [_, _, _], _ => rfl) sc_both_of rfl rfl fun cdv A outer s H E hr => by
    have hu := hr.units
    have hN := sc_both_of.nd
    exact ⟨_, (dss_cons (ds_asg (de_callP (q1 := true) (Fd.fn C_need_elements hr) (by rfl) (da_cons (dv 0) (da_cons (dv 1) (da_cons (dv 2) da_nil))) (lng_cons (lng_cons (lng_cons lng_nil)))) (dg_tup (by rfl) (dgs_cons (dg_name (i := 3) hN) (dgs_cons (dg_name (i := 4) hN) dgs_nil))))
    (dss_one (ds_ret (de_callP (q1 := true) (Fd.fn C_both_by hr) (by rfl) (da_cons (dv 0) (da_cons (dv 3) (da_cons (dv 4) da_nil))) (lng_cons (lng_cons (lng_cons lng_nil)))))))⟩

/-! ### either_of -/
abbrev s_either_of : Stmt := top 25
theorem sc_either_of : FnScope ["lattice", "one", "other", "first", "second"] ["lattice", "one", "other"] (defScope s_either_of) := ⟨rfl, rfl, rfl, by decide +kernel, rfl, by decide +kernel, by decide +kernel⟩
def g_either_of (CL : Addr) (a_HEADS : Addr) : G := (gSeq (gBind (mCallP true (m_need_elements CL a_HEADS) (fCons (fVar true 0) (fCons (fVar true 1) (fCons (fVar true 2) fNil)))) (kPut (.tp [3, 4])))
    (gRet (mCallP true (m_either_by CL a_HEADS) (fCons (fVar true 0) (fCons (fVar true 3) (fCons (fVar true 4) fNil))))))
def m_either_of (CL : Addr) (a_HEADS : Addr) : Mir := mirOf (g_either_of CL a_HEADS) 3 5

theorem fd_either_of {f : Addr} {fd : FuncData} {CL a_HEADS : Addr} (T : Txt K mg CL a_HEADS) (F : L2.Fun K "either_of" "either_of" s_either_of f fd) (hm : mg "either_of" = some (.ref f)) (C_either_by : Fd P w K mg base 1 "either_by" 3 (m_either_by CL a_HEADS)) (C_need_elements : Fd P w K mg base 4 "need_elements" 3 (m_need_elements CL a_HEADS)) : Fd P w K mg base 5 "either_of" 3 (m_either_of CL a_HEADS) :=
  fd_of F hm (F.binds (ps := ["lattice", "one", "other"]) fun _ _ _ _ _ _ us hl => match us, hl with | [_, _, _], _ => rfl) sc_either_of rfl rfl fun cdv A outer s H E hr => by
    have hu := hr.units
    have hN := sc_either_of.nd
    exact ⟨_, (dss_cons (ds_asg (de_callP (q1 := true) (Fd.fn C_need_elements hr) (by rfl) (da_cons (dv 0) (da_cons (dv 1) (da_cons (dv 2) da_nil))) (lng_cons (lng_cons (lng_cons lng_nil)))) (dg_tup (by rfl) (dgs_cons (dg_name (i := 3) hN) (dgs_cons (dg_name (i := 4) hN) dgs_nil))))
    (dss_one (ds_ret (de_callP (q1 := true) (Fd.fn C_either_by hr) (by rfl) (da_cons (dv 0) (da_cons (dv 3) (da_cons (dv 4) da_nil))) (lng_cons (lng_cons (lng_cons lng_nil)))))))⟩

/-! ### Lattice.__init__ -/
abbrev s_Lattice___init__ : Stmt := inClass (top 16) 0
theorem sc_Lattice___init__ : FnScope ["self", "rows", "known", "both", "either", "element"] ["self", "rows"] (defScope s_Lattice___init__) := ⟨rfl, rfl, rfl, by decide +kernel, rfl, by decide +kernel, by decide +kernel⟩
def g_Lattice___init__ (CL : Addr) (a_HEADS : Addr) : G := (gSeq (gBind (mIf (mTru (mCB (gIsi CL) (fCons (fVar false 1) (fCons (fC (.ty "list")) fNil)))) (mCB gTuple (fCons (fVar false 1) fNil)) (fVar true 1)) (kPut (.nm 2)))
    (gSeq (gIf (mNot (mTru (mCallP true (m_are_rows CL a_HEADS) (fCons (fVar true 2) fNil)))) gNo DL.gNil)
    (gSeq (gBind (mCallP true (m_table_by CL a_HEADS) (fCons (fVar true 2) fNil)) (kPut (.nm 3)))
    (gSeq (gBind (mCallP true (m_table_by CL a_HEADS) (fCons (mLst (mLc [5] (.nm 5) (mRg rg1 (fCons (mCB gLen (fCons (fVar false 2) fNil)) fNil)) fYes (mCallP true (m_above_by CL a_HEADS) (fCons (fVar true 2) (fCons (fVar true 5) fNil))))) fNil)) (kPut (.nm 4)))
    (gSeq (gIf (mOr (mB (mOp gIs (fVar false 3) (fC .non))) (mB (mOp gIs (fVar false 4) (fC .non)))) gNo DL.gNil)
    (gSeq (gFld CL "rows" (fVar true 2) (fVar false 0))
    (gSeq (gFld CL "both" (fVar true 3) (fVar false 0))
    (gFld CL "either" (fVar true 4) (fVar false 0)))))))))
def m_Lattice___init__ (CL : Addr) (a_HEADS : Addr) : Mir := mirOf (g_Lattice___init__ CL a_HEADS) 2 6
theorem fk_Lattice___init__ {f : Addr} {fd : FuncData} {CL a_HEADS : Addr} (T : Txt K mg CL a_HEADS) (F : L2.Fun K "__init__" "Lattice.__init__" s_Lattice___init__ f fd) (C_above_by : Fd P w K mg base 1 "above_by" 2 (m_above_by CL a_HEADS)) (C_are_rows : Fd P w K mg base 4 "are_rows" 1 (m_are_rows CL a_HEADS)) (C_table_by : Fd P w K mg base 2 "table_by" 1 (m_table_by CL a_HEADS)) : FnOk P w K mg base L2.CX0 5 f fd ["self", "rows"] (spD K 2 (m_Lattice___init__ CL a_HEADS)) :=
  fn_ok F sc_Lattice___init__ fun cdv A outer s H E hr => by
    have hu := hr.units
    have hN := sc_Lattice___init__.nd
    exact ⟨_, (dss_cons (ds_set (i := 2) hN (de_ife (dt_tru (de_isi T.isi_Lattice (by rfl) T.b_isinstance (da_cons (dv 1) (da_cons (dc_ty (by rfl) T.b_list (by decide +kernel)) da_nil)))) (de_callTy call_tuple_of (v_tuple (q1 := false)) (by rfl) T.b_tuple (by decide +kernel) (da_cons (dv 1) da_nil)) (dv 1)))
    (dss_cons (ds_if (dt_not (dt_tru (de_callP (q1 := true) (Fd.fn C_are_rows hr) (by rfl) (da_cons (dv 2) da_nil) (lng_cons lng_nil)))) (dss_one ds_never) dss_nil)
    (dss_cons (ds_set (i := 3) hN (de_callP (q1 := true) (Fd.fn C_table_by hr) (by rfl) (da_cons (dv 2) da_nil) (lng_cons lng_nil)))
    (dss_cons (ds_set (i := 4) hN (de_callP (q1 := true) (Fd.fn C_table_by hr) (by rfl) (da_cons (DF.de (df_lc (q := false) (own := [("element", 5)]) (w := (iRng1 (tCons (tCB (rLen3 K) (tCons (tVar 2) tNil)) tNil))) (g := (gName 5)) (tt := tYes) (te := (tCall (spD K 2 (m_above_by CL a_HEADS)) [] L2.E0 (tCons (tVar 2) (tCons (tVar 5) tNil)))) (by rfl) hN (dit_range1 (by rfl) T.b_range (da_cons (de_callB call_len3 (v_len (q1 := false)) (by rfl) T.b_len (by decide +kernel) (da_cons (dv 2) da_nil)) da_nil)) (blkOk_by (by kernel_rfl)) (fun _ _ _ _ _ => (dg_name (i := 5) hN)) (fun _ _ _ _ _ => dts_nil) (fun _ _ _ _ _ => (de_callP (q1 := true) (Fd.fn C_above_by hr) (by rfl) (da_cons (dv 2) (da_cons (dv 5) da_nil)) (lng_cons (lng_cons lng_nil)))))) da_nil) (lng_cons lng_nil)))
    (dss_cons (ds_if (DW.dt (dw_or (dt_cmpR op_is (v_is (q1 := false) (q2 := false)) (dv 3) dc_non (by rfl)) (dw_or1 (dt_cmpR op_is (v_is (q1 := false) (q2 := false)) (dv 4) dc_non (by rfl))))) (dss_one ds_never) dss_nil)
    (dss_cons (ds_fld T.cl_Lattice T.n_Lattice_rows (dv 0) (dv 2))
    (dss_cons (ds_fld T.cl_Lattice T.n_Lattice_both (dv 0) (dv 3))
    (dss_one (ds_fld T.cl_Lattice T.n_Lattice_either (dv 0) (dv 4))))))))))⟩

def mk_Lattice (CL : Addr) (a_HEADS : Addr) : List D → Option (List Str × List D) := mkOf CL (m_Lattice___init__ CL a_HEADS)
/-! ### turned_lattice -/
abbrev s_turned_lattice : Stmt := top 26
theorem sc_turned_lattice : FnScope ["lattice", "rows", "element"] ["lattice"] (defScope s_turned_lattice) := ⟨rfl, rfl, rfl, by decide +kernel, rfl, by decide +kernel, by decide +kernel⟩
def g_turned_lattice (CL : Addr) (a_HEADS : Addr) : G := (gSeq (gBind (mFld CL "rows" (mCallP true (m_need_lattice CL a_HEADS) (fCons (fVar true 0) fNil))) (kPut (.nm 1)))
    (gRet (mMake CL (mk_Lattice CL a_HEADS) (fCons (mCB gTuple (fCons (mLst (mLc [2] (.nm 2) (mRg rg1 (fCons (mCB gLen (fCons (fVar false 1) fNil)) fNil)) fYes (mCallP true (m_above_by CL a_HEADS) (fCons (fVar true 1) (fCons (fVar true 2) fNil))))) fNil)) fNil))))
def m_turned_lattice (CL : Addr) (a_HEADS : Addr) : Mir := mirOf (g_turned_lattice CL a_HEADS) 1 3

theorem fd_turned_lattice {f : Addr} {fd : FuncData} {CL a_HEADS : Addr} (T : Txt K mg CL a_HEADS) (F : L2.Fun K "turned_lattice" "turned_lattice" s_turned_lattice f fd) (hm : mg "turned_lattice" = some (.ref f)) (C_above_by : Fd P w K mg base 1 "above_by" 2 (m_above_by CL a_HEADS)) (C_need_lattice : Fd P w K mg base 1 "need_lattice" 1 (m_need_lattice CL a_HEADS)) (M_Lattice : Cd P w K mg base 5 "Lattice" CL 1 (m_Lattice___init__ CL a_HEADS) (mk_Lattice CL a_HEADS)) : Fd P w K mg base 7 "turned_lattice" 1 (m_turned_lattice CL a_HEADS) :=
  fd_of F hm (F.binds (ps := ["lattice"]) fun _ _ _ _ _ _ us hl => match us, hl with | [_], _ => rfl) sc_turned_lattice rfl rfl fun cdv A outer s H E hr => by
    have hu := hr.units
    have hN := sc_turned_lattice.nd
    exact ⟨_, (dss_cons (ds_set (i := 1) hN (de_fld T.cl_Lattice T.n_Lattice_rows (de_callP (q1 := true) (Fd.fn C_need_lattice hr) (by rfl) (da_cons (dv 0) da_nil) (lng_cons lng_nil))))
    (dss_one (ds_ret (de_make (Cd.cn M_Lattice hr) (by rfl) (da_cons (de_callTy call_tuple_of (v_tuple (q1 := false)) (by rfl) T.b_tuple (by decide +kernel) (da_cons (DF.de (df_lc (q := false) (own := [("element", 2)]) (w := (iRng1 (tCons (tCB (rLen3 K) (tCons (tVar 1) tNil)) tNil))) (g := (gName 2)) (tt := tYes) (te := (tCall (spD K 2 (m_above_by CL a_HEADS)) [] L2.E0 (tCons (tVar 1) (tCons (tVar 2) tNil)))) (by rfl) hN (dit_range1 (by rfl) T.b_range (da_cons (de_callB call_len3 (v_len (q1 := false)) (by rfl) T.b_len (by decide +kernel) (da_cons (dv 1) da_nil)) da_nil)) (blkOk_by (by kernel_rfl)) (fun _ _ _ _ _ => (dg_name (i := 2) hN)) (fun _ _ _ _ _ => dts_nil) (fun _ _ _ _ _ => (de_callP (q1 := true) (Fd.fn C_above_by hr) (by rfl) (da_cons (dv 1) (da_cons (dv 2) da_nil)) (lng_cons (lng_cons lng_nil)))))) da_nil)) da_nil) (lng_cons lng_nil)))))⟩

/-! ### are_letters -/
abbrev s_are_letters : Stmt := top 33
theorem sc_are_letters : FnScope ["value", "sign"] ["value"] (defScope s_are_letters) := ⟨rfl, rfl, rfl, by decide +kernel, rfl, by decide +kernel, by decide +kernel⟩
def g_are_letters (CL : Addr) (a_HEADS : Addr) : G := (gSeq (gIf (mOr (mNot (mTru (mCB (gIsi CL) (fCons (fVar false 0) (fCons (fC (.ty "str")) fNil))))) (mNot (mB (mChain gLe gLe (fC (.int (1))) (mCB gLen (fCons (fVar false 0) fNil)) (fC (.int 6)))))) (gRet (fC (.bl false))) DL.gNil)
    (gRet (mAndV (mOp gEq (mCB gLen (fCons (mDc [1] (.nm 1) (mSeq (fVar false 0)) fYes (fVar false 1) (fC (.bl true))) fNil)) (mCB gLen (fCons (fVar false 0) fNil))) (mCB gAll (fCons (mLst (mLc [1] (.nm 1) (mSeq (fVar false 0)) fYes (mOp gIn (fVar false 1) (fC (.str "abcdefghijklmnopqrstuvwxyz"))))) fNil)))))
def m_are_letters (CL : Addr) (a_HEADS : Addr) : Mir := mirOf (g_are_letters CL a_HEADS) 1 2

theorem fd_are_letters {f : Addr} {fd : FuncData} {CL a_HEADS : Addr} (T : Txt K mg CL a_HEADS) (F : L2.Fun K "are_letters" "are_letters" s_are_letters f fd) (hm : mg "are_letters" = some (.ref f)) : Fd P w K mg base 1 "are_letters" 1 (m_are_letters CL a_HEADS) :=
  fd_of F hm (F.binds (ps := ["value"]) fun _ _ _ _ _ _ us hl => match us, hl with | [_], _ => rfl) sc_are_letters rfl rfl fun cdv A outer s H E hr => by
    have hu := hr.units
    have hN := sc_are_letters.nd
    exact ⟨_, (dss_cons (ds_if (DW.dt (dw_or (dt_not (dt_tru (de_isi T.isi_Lattice (by rfl) T.b_isinstance (da_cons (dv 0) (da_cons (dc_ty (by rfl) T.b_str (by decide +kernel)) da_nil))))) (dw_or1 (dt_not (dt_chain op_le (v_le (q1 := false) (q2 := false)) op_le (v_le (q1 := false) (q2 := false)) dc_int (de_callB call_len3 (v_len (q1 := false)) (by rfl) T.b_len (by decide +kernel) (da_cons (dv 0) da_nil)) (dc_globI (by rfl) T.c_MOST_LETTERS)))))) (dss_one (ds_ret dc_bl)) dss_nil)
    (dss_one (ds_ret (de_and (de_cmpR (op_eqP hu) (v_eq (q1 := false) (q2 := false)) (de_callB call_len3 (v_len (q1 := false)) (by rfl) T.b_len (by decide +kernel) (da_cons (de_dc (q := false) (own := [("sign", 1)]) (w := (iSeq K (tVar 0))) (g := (gName 1)) (tt := tYes) (tk := (tVar 1)) (tv := (tC (.bl true))) (by rfl) hN (dit_seq (dv 0)) (blkOk_by (by kernel_rfl)) (fun _ _ _ _ _ => (dg_name (i := 1) hN)) (fun _ _ _ _ _ => dts_nil) (fun _ _ _ _ _ => (dv 1)) (fun _ _ _ _ _ => dc_bl)) da_nil)) (de_callB call_len3 (v_len (q1 := false)) (by rfl) T.b_len (by decide +kernel) (da_cons (dv 0) da_nil)) (by rfl)) (de_one (de_callB (cr_all (by rfl)) (v_all (q1 := false)) (by rfl) T.b_all (by decide +kernel) (da_cons (DF.de (df_lc (q := false) (own := [("sign", 1)]) (w := (iSeq K (tVar 0))) (g := (gName 1)) (tt := tYes) (te := (tOp (rIn6 K false) (tVar 1) (tC (.str "abcdefghijklmnopqrstuvwxyz")))) (by rfl) hN (dit_seq (dv 0)) (blkOk_by (by kernel_rfl)) (fun _ _ _ _ _ => (dg_name (i := 1) hN)) (fun _ _ _ _ _ => dts_nil) (fun _ _ _ _ _ => (de_cmpR (op_in6 hu) (v_in (q1 := false) (q2 := false)) (dv 1) (dc_globS (by rfl) T.c_ALL_LETTERS) (by rfl))))) da_nil)))))))⟩

/-! ### need_letters -/
abbrev s_need_letters : Stmt := top 34
theorem sc_need_letters : FnScope ["value"] ["value"] (defScope s_need_letters) := ⟨rfl, rfl, rfl, by decide +kernel, rfl, by decide +kernel, by decide +kernel⟩
def g_need_letters (CL : Addr) (a_HEADS : Addr) : G := (gSeq (gIf (mNot (mTru (mCallP true (m_are_letters CL a_HEADS) (fCons (fVar true 0) fNil)))) gNo DL.gNil)
    (gRet (fVar true 0)))
def m_need_letters (CL : Addr) (a_HEADS : Addr) : Mir := mirOf (g_need_letters CL a_HEADS) 1 1

theorem fd_need_letters {f : Addr} {fd : FuncData} {CL a_HEADS : Addr} (T : Txt K mg CL a_HEADS) (F : L2.Fun K "need_letters" "need_letters" s_need_letters f fd) (hm : mg "need_letters" = some (.ref f)) (C_are_letters : Fd P w K mg base 1 "are_letters" 1 (m_are_letters CL a_HEADS)) : Fd P w K mg base 2 "need_letters" 1 (m_need_letters CL a_HEADS) :=
  fd_of F hm (F.binds (ps := ["value"]) fun _ _ _ _ _ _ us hl => match us, hl with | [_], _ => rfl) sc_need_letters rfl rfl fun cdv A outer s H E hr => by
    have hu := hr.units
    have hN := sc_need_letters.nd
    exact ⟨_, (dss_cons (ds_if (dt_not (dt_tru (de_callP (q1 := true) (Fd.fn C_are_letters hr) (by rfl) (da_cons (dv 0) da_nil) (lng_cons lng_nil)))) (dss_one ds_never) dss_nil)
    (dss_one (ds_ret (dv 0))))⟩

/-! ### is_node -/
abbrev s_is_node : Stmt := top 35
theorem sc_is_node : FnScope ["letters", "value"] ["letters", "value"] (defScope s_is_node) := ⟨rfl, rfl, rfl, by decide +kernel, rfl, by decide +kernel, by decide +kernel⟩
def g_is_node (CL : Addr) (a_HEADS : Addr) : G := (gSeq (gIf (mTru (mCB (gIsi CL) (fCons (fVar false 1) (fCons (fC (.ty "str")) fNil)))) (gRet (mAndV (mOp gEq (mCB gLen (fCons (fVar false 1) fNil)) (fC (.int (1)))) (mOp gIn (fVar false 1) (fVar false 0)))) DL.gNil)
    (gRet (mAndV (mCB (gIsi CL) (fCons (fVar false 1) (fCons (fC (.ty "tuple")) fNil))) (mAndV (mOp gEq (mCB gLen (fCons (fVar false 1) fNil)) (fC (.int (3)))) (mAndV (mCB (gIsi CL) (fCons (mOp gIx (fVar false 1) (fC (.int (0)))) (fCons (fC (.ty "str")) fNil))) (mOp gIn (mOp gIx (fVar false 1) (fC (.int (0)))) (fC (.wt ((["both", "either"] : List Str).map D.str)))))))))
def m_is_node (CL : Addr) (a_HEADS : Addr) : Mir := mirOf (g_is_node CL a_HEADS) 2 2

theorem fd_is_node {f : Addr} {fd : FuncData} {CL a_HEADS : Addr} (T : Txt K mg CL a_HEADS) (F : L2.Fun K "is_node" "is_node" s_is_node f fd) (hm : mg "is_node" = some (.ref f)) : Fd P w K mg base 1 "is_node" 2 (m_is_node CL a_HEADS) :=
  fd_of F hm (F.binds (ps := ["letters", "value"]) fun _ _ _ _ _ _ us hl => match us, hl with | [_, _], _ => rfl) sc_is_node rfl rfl fun cdv A outer s H E hr => by
    have hu := hr.units
    have hN := sc_is_node.nd
    exact ⟨_, (dss_cons (ds_if (dt_tru (de_isi T.isi_Lattice (by rfl) T.b_isinstance (da_cons (dv 1) (da_cons (dc_ty (by rfl) T.b_str (by decide +kernel)) da_nil)))) (dss_one (ds_ret (de_and (de_cmpR (op_eqP hu) (v_eq (q1 := false) (q2 := false)) (de_callB call_len3 (v_len (q1 := false)) (by rfl) T.b_len (by decide +kernel) (da_cons (dv 1) da_nil)) dc_int (by rfl)) (de_one (de_cmpR (op_in6 hu) (v_in (q1 := false) (q2 := false)) (dv 1) (dv 0) (by rfl)))))) dss_nil)
    (dss_one (ds_ret (de_and (de_isi T.isi_Lattice (by rfl) T.b_isinstance (da_cons (dv 1) (da_cons (dc_ty (by rfl) T.b_tuple (by decide +kernel)) da_nil))) (de_and (de_cmpR (op_eqP hu) (v_eq (q1 := false) (q2 := false)) (de_callB call_len3 (v_len (q1 := false)) (by rfl) T.b_len (by decide +kernel) (da_cons (dv 1) da_nil)) dc_int (by rfl)) (de_and (de_isi T.isi_Lattice (by rfl) T.b_isinstance (da_cons (de_ix hu (dv 1) dc_int) (da_cons (dc_ty (by rfl) T.b_str (by decide +kernel)) da_nil))) (de_one (de_cmpR (op_in6 hu) (v_in (q1 := false) (q2 := false)) (de_ix hu (dv 1) dc_int) (dc_globW (zs := ["both", "either"]) (by rfl) T.c_HEADS) (by rfl)))))))))⟩

/-! ### parts_by -/
abbrev s_parts_by : Stmt := top 36
theorem sc_parts_by : FnScope ["term"] ["term"] (defScope s_parts_by) := ⟨rfl, rfl, rfl, by decide +kernel, rfl, by decide +kernel, by decide +kernel⟩
def g_parts_by (CL : Addr) (a_HEADS : Addr) : G := (gRet (mIf (mTru (mCB (gIsi CL) (fCons (fVar false 0) (fCons (fC (.ty "str")) fNil)))) (mTup fNil) (mSl (fVar false 0) (fPart (fC (.int (1)))) fNoPart)))
def m_parts_by (CL : Addr) (a_HEADS : Addr) : Mir := mirOf (g_parts_by CL a_HEADS) 1 1

theorem fd_parts_by {f : Addr} {fd : FuncData} {CL a_HEADS : Addr} (T : Txt K mg CL a_HEADS) (F : L2.Fun K "parts_by" "parts_by" s_parts_by f fd) (hm : mg "parts_by" = some (.ref f)) : Fd P w K mg base 1 "parts_by" 1 (m_parts_by CL a_HEADS) :=
  fd_of F hm (F.binds (ps := ["term"]) fun _ _ _ _ _ _ us hl => match us, hl with | [_], _ => rfl) sc_parts_by rfl rfl fun cdv A outer s H E hr => by
    have hu := hr.units
    have hN := sc_parts_by.nd
    exact ⟨_, (dss_one (ds_ret (de_ife (dt_tru (de_isi T.isi_Lattice (by rfl) T.b_isinstance (da_cons (dv 0) (da_cons (dc_ty (by rfl) T.b_str (by decide +kernel)) da_nil)))) (de_tup da_nil) (de_slice (dv 0) (do_some dc_int) do_none))))⟩

/-! ### is_term_by -/
abbrev s_is_term_by : Stmt := top 37
theorem sc_is_term_by : FnScope ["letters", "value", "many", "line", "here", "deep", "part"] ["letters", "value"] (defScope s_is_term_by) := ⟨rfl, rfl, rfl, by decide +kernel, rfl, by decide +kernel, by decide +kernel⟩
def g_is_term_by (CL : Addr) (a_HEADS : Addr) : G := (gSeq (gParVO 2 3 (fC (.int (0))) (fBound (fCons (mTup (fCons (fVar true 1) (fCons (fC (.int (1))) fNil))) fNil)))
    (gSeq (gWh (fun _ => 64) (mTru (fVar false 3)) (gSeq (kPopT 3 (.tp [4, 5]))
    (gSeq (gBind (mOp gAdd (fVar false 2) (fC (.int (1)))) (kPut (.nm 2)))
    (gSeq (gIf (mOr (mB (mOp gGt (fVar false 2) (fC (.int 40)))) (mOr (mB (mOp gGt (fVar false 5) (fC (.int 12)))) (mNot (mTru (mCallP true (m_is_node CL a_HEADS) (fCons (fVar true 0) (fCons (fVar true 4) fNil))))))) (gRet (fC (.bl false))) DL.gNil)
    (gMut 3 aExt (mLst (mLc [6] (.nm 6) (mSeq (mCallP true (m_parts_by CL a_HEADS) (fCons (fVar true 4) fNil))) fYes (mTup (fCons (fVar true 6) (fCons (mOp gAdd (fVar false 5) (fC (.int (1)))) fNil))))))))))
    (gRet (fC (.bl true)))))
def m_is_term_by (CL : Addr) (a_HEADS : Addr) : Mir := mirOf (g_is_term_by CL a_HEADS) 2 7

theorem fd_is_term_by {f : Addr} {fd : FuncData} {CL a_HEADS : Addr} (T : Txt K mg CL a_HEADS) (F : L2.Fun K "is_term_by" "is_term_by" s_is_term_by f fd) (hm : mg "is_term_by" = some (.ref f)) (C_is_node : Fd P w K mg base 1 "is_node" 2 (m_is_node CL a_HEADS)) (C_parts_by : Fd P w K mg base 1 "parts_by" 1 (m_parts_by CL a_HEADS)) : Fd P w K mg base 2 "is_term_by" 2 (m_is_term_by CL a_HEADS) :=
  fd_of F hm (F.binds (ps := ["letters", "value"]) fun _ _ _ _ _ _ us hl => match us, hl with | [_, _], _ => rfl) sc_is_term_by rfl rfl fun cdv A outer s H E hr => by
    have hu := hr.units
    have hN := sc_is_term_by.nd
    exact ⟨_, (dss_cons (ds_parVO (i := 2) (j := 3) (by rfl) hN dc_int (df_lst (da_cons (de_tup (da_cons (dv 1) (da_cons dc_int da_nil))) da_nil)))
    (dss_cons (ds_while (fun _ => 64) PassesOwn.never (dt_tru (dv 3)) (dss_cons (ds_asgPop 3 (dg_tup (by rfl) (dgs_cons (dg_name (i := 4) hN) (dgs_cons (dg_name (i := 5) hN) dgs_nil))))
    (dss_cons (ds_set (i := 2) hN (de_op op_add4 (v_add (q1 := false) (q2 := false)) (dv 2) dc_int))
    (dss_cons (ds_if (DW.dt (dw_or (dt_cmpR op_gt (v_gt (q1 := false) (q2 := false)) (dv 2) (dc_globI (by rfl) T.c_MOST_NODES) (by rfl)) (dw_or (dt_cmpR op_gt (v_gt (q1 := false) (q2 := false)) (dv 5) (dc_globI (by rfl) T.c_MOST_DEEP) (by rfl)) (dw_or1 (dt_not (dt_tru (de_callP (q1 := true) (Fd.fn C_is_node hr) (by rfl) (da_cons (dv 0) (da_cons (dv 4) da_nil)) (lng_cons (lng_cons lng_nil))))))))) (dss_one (ds_ret dc_bl)) dss_nil)
    (dss_one (ds_extend 3 (DF.de (df_lc (q := false) (own := [("part", 6)]) (w := (iSeq K (tCall (spD K 1 (m_parts_by CL a_HEADS)) [] L2.E0 (tCons (tVar 4) tNil)))) (g := (gName 6)) (tt := tYes) (te := (tTup (tCons (tVar 6) (tCons (tOp (rAdd4 K) (tVar 5) (tC (.int (1)))) tNil)))) (by rfl) hN (dit_seq (de_callP (q1 := true) (Fd.fn C_parts_by hr) (by rfl) (da_cons (dv 4) da_nil) (lng_cons lng_nil))) (blkOk_by (by kernel_rfl)) (fun _ _ _ _ _ => (dg_name (i := 6) hN)) (fun _ _ _ _ _ => dts_nil) (fun _ _ _ _ _ => (de_tup (da_cons (dv 6) (da_cons (de_op op_add4 (v_add (q1 := false) (q2 := false)) (dv 5) dc_int) da_nil))))))))))))
    (dss_one (ds_ret dc_bl))))⟩

/-! ### need_own_term -/
abbrev s_need_own_term : Stmt := top 38
theorem sc_need_own_term : FnScope ["what", "letters", "value"] ["what", "letters", "value"] (defScope s_need_own_term) := ⟨rfl, rfl, rfl, by decide +kernel, rfl, by decide +kernel, by decide +kernel⟩
def g_need_own_term (CL : Addr) (a_HEADS : Addr) : G := (gSeq (gIf (mNot (mTru (mCallP true (m_is_term_by CL a_HEADS) (fCons (fVar true 1) (fCons (fVar true 2) fNil))))) gNo DL.gNil)
    (gRet (fVar true 2)))
def m_need_own_term (CL : Addr) (a_HEADS : Addr) : Mir := mirOf (g_need_own_term CL a_HEADS) 3 3

theorem fd_need_own_term {f : Addr} {fd : FuncData} {CL a_HEADS : Addr} (T : Txt K mg CL a_HEADS) (F : L2.Fun K "need_own_term" "need_own_term" s_need_own_term f fd) (hm : mg "need_own_term" = some (.ref f)) (C_is_term_by : Fd P w K mg base 2 "is_term_by" 2 (m_is_term_by CL a_HEADS)) : Fd P w K mg base 3 "need_own_term" 3 (m_need_own_term CL a_HEADS) :=
  fd_of F hm (F.binds (ps := ["what", "letters", "value"]) fun _ _ _ _ _ _ us hl => match us, hl with | [_, _, _], _ => rfl) sc_need_own_term rfl rfl fun cdv A outer s H E hr => by
    have hu := hr.units
    have hN := sc_need_own_term.nd
    exact ⟨_, (dss_cons (ds_if (dt_not (dt_tru (de_callP (q1 := true) (Fd.fn C_is_term_by hr) (by rfl) (da_cons (dv 1) (da_cons (dv 2) da_nil)) (lng_cons (lng_cons lng_nil))))) (dss_one ds_never) dss_nil)
    (dss_one (ds_ret (dv 2))))⟩

/-! ### need_term -/
abbrev s_need_term : Stmt := top 39
theorem sc_need_term : FnScope ["letters", "value"] ["letters", "value"] (defScope s_need_term) := ⟨rfl, rfl, rfl, by decide +kernel, rfl, by decide +kernel, by decide +kernel⟩
def g_need_term (CL : Addr) (a_HEADS : Addr) : G := (gRet (mCallP true (m_need_own_term CL a_HEADS) (fCons (fC (.str "term")) (fCons (mCallP true (m_need_letters CL a_HEADS) (fCons (fVar true 0) fNil)) (fCons (fVar true 1) fNil)))))
def m_need_term (CL : Addr) (a_HEADS : Addr) : Mir := mirOf (g_need_term CL a_HEADS) 2 2

theorem fd_need_term {f : Addr} {fd : FuncData} {CL a_HEADS : Addr} (T : Txt K mg CL a_HEADS) (F : L2.Fun K "need_term" "need_term" s_need_term f fd) (hm : mg "need_term" = some (.ref f)) (C_need_letters : Fd P w K mg base 2 "need_letters" 1 (m_need_letters CL a_HEADS)) (C_need_own_term : Fd P w K mg base 3 "need_own_term" 3 (m_need_own_term CL a_HEADS)) : Fd P w K mg base 4 "need_term" 2 (m_need_term CL a_HEADS) :=
  fd_of F hm (F.binds (ps := ["letters", "value"]) fun _ _ _ _ _ _ us hl => match us, hl with | [_, _], _ => rfl) sc_need_term rfl rfl fun cdv A outer s H E hr => by
    have hu := hr.units
    have hN := sc_need_term.nd
    exact ⟨_, (dss_one (ds_ret (de_callP (q1 := true) (Fd.fn C_need_own_term hr) (by rfl) (da_cons dc_str (da_cons (de_callP (q1 := true) (Fd.fn C_need_letters hr) (by rfl) (da_cons (dv 0) da_nil) (lng_cons lng_nil)) (da_cons (dv 1) da_nil))) (lng_cons (lng_cons (lng_cons lng_nil))))))⟩

/-! ### nodes_by -/
abbrev s_nodes_by : Stmt := top 40
theorem sc_nodes_by : FnScope ["term", "found", "part"] ["term"] (defScope s_nodes_by) := ⟨rfl, rfl, rfl, by decide +kernel, rfl, by decide +kernel, by decide +kernel⟩
def g_nodes_by (CL : Addr) (a_HEADS : Addr) (rec : Mir) : G := (gSeq (gBind (fBound (fCons (fVar true 0) fNil)) (kOwn 1))
    (gSeq (gFor (.nm 2) (mSeq (mCallP true (m_parts_by CL a_HEADS) (fCons (fVar true 0) fNil))) (gMut 1 aExt (mCallP true rec (fCons (fVar true 2) fNil))))
    (gRet (fVar true 1))))
def m_nodes_by (CL : Addr) (a_HEADS : Addr) (rec : Mir) : Mir := mirOf (g_nodes_by CL a_HEADS rec) 1 3

theorem fd_nodes_by {f : Addr} {fd : FuncData} {CL a_HEADS : Addr} {rec : Mir} (T : Txt K mg CL a_HEADS) (F : L2.Fun K "nodes_by" "nodes_by" s_nodes_by f fd) (hm : mg "nodes_by" = some (.ref f)) (C_parts_by : Fd P w K mg base 1 "parts_by" 1 (m_parts_by CL a_HEADS)) {k : Nat} (hk : 1 ≤ k) (C_nodes_by : Fd P w K mg base k "nodes_by" 1 rec) : Fd P w K mg base (k + 1) "nodes_by" 1 (m_nodes_by CL a_HEADS rec) :=
  fd_of F hm (F.binds (ps := ["term"]) fun _ _ _ _ _ _ us hl => match us, hl with | [_], _ => rfl) sc_nodes_by rfl rfl fun cdv A outer s H E hr => by
    have hu := hr.units
    have hN := sc_nodes_by.nd
    exact ⟨_, (dss_cons (ds_own (i := 1) hN (df_lst (da_cons (dv 0) da_nil)))
    (dss_cons (ds_for PassesOwn.never (by rfl) (dit_seq (de_callP (q1 := true) (Fd.fn C_parts_by hr (by omega)) (by rfl) (da_cons (dv 0) da_nil) (lng_cons lng_nil))) (dg_name (i := 2) hN) (dss_one (ds_extend 1 (de_callP (q1 := true) (Fd.fn C_nodes_by hr (Nat.le_refl _)) (by rfl) (da_cons (dv 2) da_nil) (lng_cons lng_nil)))))
    (dss_one (ds_ret (dv 1)))))⟩

def md_nodes_by (CL : Addr) (a_HEADS : Addr) : Nat → Mir
  | 0 => fun _ _ => none
  | d + 1 => m_nodes_by CL a_HEADS (md_nodes_by CL a_HEADS d)
theorem fdd_nodes_by {f : Addr} {fd : FuncData} {CL a_HEADS : Addr} (T : Txt K mg CL a_HEADS) (F : L2.Fun K "nodes_by" "nodes_by" s_nodes_by f fd) (hm : mg "nodes_by" = some (.ref f)) (C_parts_by : Fd P w K mg base 1 "parts_by" 1 (m_parts_by CL a_HEADS)) : ∀ d : Nat, Fd P w K mg base (1 + d) "nodes_by" 1 (md_nodes_by CL a_HEADS d)
  | 0 => fd_none F hm (F.binds (ps := ["term"]) fun _ _ _ _ _ _ us hl => match us, hl with | [_], _ => rfl) rfl
  | d + 1 => fd_nodes_by T F hm C_parts_by (Nat.le_add_right _ _) (fdd_nodes_by T F hm C_parts_by d)

/-! ### depth_by -/
abbrev s_depth_by : Stmt := top 41
theorem sc_depth_by : FnScope ["term", "part"] ["term"] (defScope s_depth_by) := ⟨rfl, rfl, rfl, by decide +kernel, rfl, by decide +kernel, by decide +kernel⟩
def g_depth_by (CL : Addr) (a_HEADS : Addr) (rec : Mir) : G := (gRet (mOp gAdd (fC (.int (1))) (mCB gMax (fCons (mLst (fBound (fCons (fC (.int (0))) (fStar (mLst (mLc [1] (.nm 1) (mSeq (mCallP true (m_parts_by CL a_HEADS) (fCons (fVar true 0) fNil))) fYes (mCallP true rec (fCons (fVar true 1) fNil)))) fNil)))) fNil))))
def m_depth_by (CL : Addr) (a_HEADS : Addr) (rec : Mir) : Mir := mirOf (g_depth_by CL a_HEADS rec) 1 2

theorem fd_depth_by {f : Addr} {fd : FuncData} {CL a_HEADS : Addr} {rec : Mir} (T : Txt K mg CL a_HEADS) (F : L2.Fun K "depth_by" "depth_by" s_depth_by f fd) (hm : mg "depth_by" = some (.ref f)) (C_parts_by : Fd P w K mg base 1 "parts_by" 1 (m_parts_by CL a_HEADS)) {k : Nat} (hk : 1 ≤ k) (C_depth_by : Fd P w K mg base k "depth_by" 1 rec) : Fd P w K mg base (k + 1) "depth_by" 1 (m_depth_by CL a_HEADS rec) :=
  fd_of F hm (F.binds (ps := ["term"]) fun _ _ _ _ _ _ us hl => match us, hl with | [_], _ => rfl) sc_depth_by rfl rfl fun cdv A outer s H E hr => by
    have hu := hr.units
    have hN := sc_depth_by.nd
    exact ⟨_, (dss_one (ds_ret (de_op op_add4 (v_add (q1 := false) (q2 := false)) dc_int (de_callB (cr_max (by rfl)) (v_max (q1 := false)) (by rfl) T.b_max (by decide +kernel) (da_cons (DF.de (df_lst (da_cons dc_int (da_star (DF.de (df_lc (q := false) (own := [("part", 1)]) (w := (iSeq K (tCall (spD K 1 (m_parts_by CL a_HEADS)) [] L2.E0 (tCons (tVar 0) tNil)))) (g := (gName 1)) (tt := tYes) (te := (tCall (spD K 1 rec) [] L2.E0 (tCons (tVar 1) tNil))) (by rfl) hN (dit_seq (de_callP (q1 := true) (Fd.fn C_parts_by hr (by omega)) (by rfl) (da_cons (dv 0) da_nil) (lng_cons lng_nil))) (blkOk_by (by kernel_rfl)) (fun _ _ _ _ _ => (dg_name (i := 1) hN)) (fun _ _ _ _ _ => dts_nil) (fun _ _ _ _ _ => (de_callP (q1 := true) (Fd.fn C_depth_by hr (Nat.le_refl _)) (by rfl) (da_cons (dv 1) da_nil) (lng_cons lng_nil))))) da_nil)))) da_nil)))))⟩

def md_depth_by (CL : Addr) (a_HEADS : Addr) : Nat → Mir
  | 0 => fun _ _ => none
  | d + 1 => m_depth_by CL a_HEADS (md_depth_by CL a_HEADS d)
theorem fdd_depth_by {f : Addr} {fd : FuncData} {CL a_HEADS : Addr} (T : Txt K mg CL a_HEADS) (F : L2.Fun K "depth_by" "depth_by" s_depth_by f fd) (hm : mg "depth_by" = some (.ref f)) (C_parts_by : Fd P w K mg base 1 "parts_by" 1 (m_parts_by CL a_HEADS)) : ∀ d : Nat, Fd P w K mg base (1 + d) "depth_by" 1 (md_depth_by CL a_HEADS d)
  | 0 => fd_none F hm (F.binds (ps := ["term"]) fun _ _ _ _ _ _ us hl => match us, hl with | [_], _ => rfl) rfl
  | d + 1 => fd_depth_by T F hm C_parts_by (Nat.le_add_right _ _) (fdd_depth_by T F hm C_parts_by d)

/-! ### turned_by -/
abbrev s_turned_by : Stmt := top 42
theorem sc_turned_by : FnScope ["term"] ["term"] (defScope s_turned_by) := ⟨rfl, rfl, rfl, by decide +kernel, rfl, by decide +kernel, by decide +kernel⟩
def g_turned_by (CL : Addr) (a_HEADS : Addr) (rec : Mir) : G := (gSeq (gIf (mTru (mCB (gIsi CL) (fCons (fVar false 0) (fCons (fC (.ty "str")) fNil)))) (gRet (fVar true 0)) DL.gNil)
    (gRet (mTup (fCons (mIf (mB (mOp gEq (mOp gIx (fVar false 0) (fC (.int (0)))) (fC (.str "both")))) (fC (.str "either")) (fC (.str "both"))) (fCons (mCallP true rec (fCons (mOp gIx (fVar false 0) (fC (.int (1)))) fNil)) (fCons (mCallP true rec (fCons (mOp gIx (fVar false 0) (fC (.int (2)))) fNil)) fNil))))))
def m_turned_by (CL : Addr) (a_HEADS : Addr) (rec : Mir) : Mir := mirOf (g_turned_by CL a_HEADS rec) 1 1

theorem fd_turned_by {f : Addr} {fd : FuncData} {CL a_HEADS : Addr} {rec : Mir} (T : Txt K mg CL a_HEADS) (F : L2.Fun K "turned_by" "turned_by" s_turned_by f fd) (hm : mg "turned_by" = some (.ref f)) {k : Nat} (hk : 0 ≤ k) (C_turned_by : Fd P w K mg base k "turned_by" 1 rec) : Fd P w K mg base (k + 1) "turned_by" 1 (m_turned_by CL a_HEADS rec) :=
  fd_of F hm (F.binds (ps := ["term"]) fun _ _ _ _ _ _ us hl => match us, hl with | [_], _ => rfl) sc_turned_by rfl rfl fun cdv A outer s H E hr => by
    have hu := hr.units
    have hN := sc_turned_by.nd
    exact ⟨_, (dss_cons (ds_if (dt_tru (de_isi T.isi_Lattice (by rfl) T.b_isinstance (da_cons (dv 0) (da_cons (dc_ty (by rfl) T.b_str (by decide +kernel)) da_nil)))) (dss_one (ds_ret (dv 0))) dss_nil)
    (dss_one (ds_ret (de_tup (da_cons (de_ife (dt_cmpR (op_eqP hu) (v_eq (q1 := false) (q2 := false)) (de_ix hu (dv 0) dc_int) dc_str (by rfl)) dc_str dc_str) (da_cons (de_callP (q1 := true) (Fd.fn C_turned_by hr (Nat.le_refl _)) (by rfl) (da_cons (de_ix hu (dv 0) dc_int) da_nil) (lng_cons lng_nil)) (da_cons (de_callP (q1 := true) (Fd.fn C_turned_by hr (Nat.le_refl _)) (by rfl) (da_cons (de_ix hu (dv 0) dc_int) da_nil) (lng_cons lng_nil)) da_nil)))))))⟩

def md_turned_by (CL : Addr) (a_HEADS : Addr) : Nat → Mir
  | 0 => fun _ _ => none
  | d + 1 => m_turned_by CL a_HEADS (md_turned_by CL a_HEADS d)
theorem fdd_turned_by {f : Addr} {fd : FuncData} {CL a_HEADS : Addr} (T : Txt K mg CL a_HEADS) (F : L2.Fun K "turned_by" "turned_by" s_turned_by f fd) (hm : mg "turned_by" = some (.ref f)) : ∀ d : Nat, Fd P w K mg base (0 + d) "turned_by" 1 (md_turned_by CL a_HEADS d)
  | 0 => fd_none F hm (F.binds (ps := ["term"]) fun _ _ _ _ _ _ us hl => match us, hl with | [_], _ => rfl) rfl
  | d + 1 => fd_turned_by T F hm (Nat.le_add_right _ _) (fdd_turned_by T F hm d)

/-! ### turned_term -/
abbrev s_turned_term : Stmt := top 43
theorem sc_turned_term : FnScope ["letters", "term"] ["letters", "term"] (defScope s_turned_term) := ⟨rfl, rfl, rfl, by decide +kernel, rfl, by decide +kernel, by decide +kernel⟩
def g_turned_term (CL : Addr) (a_HEADS : Addr) : G := (gRet (mCallP true (md_turned_by CL a_HEADS 8) (fCons (mCallP true (m_need_term CL a_HEADS) (fCons (fVar true 0) (fCons (fVar true 1) fNil))) fNil)))
def m_turned_term (CL : Addr) (a_HEADS : Addr) : Mir := mirOf (g_turned_term CL a_HEADS) 2 2

theorem fd_turned_term {f : Addr} {fd : FuncData} {CL a_HEADS : Addr} (T : Txt K mg CL a_HEADS) (F : L2.Fun K "turned_term" "turned_term" s_turned_term f fd) (hm : mg "turned_term" = some (.ref f)) (C_need_term : Fd P w K mg base 4 "need_term" 2 (m_need_term CL a_HEADS)) (C_turned_by : Fd P w K mg base 8 "turned_by" 1 (md_turned_by CL a_HEADS 8)) : Fd P w K mg base 9 "turned_term" 2 (m_turned_term CL a_HEADS) :=
  fd_of F hm (F.binds (ps := ["letters", "term"]) fun _ _ _ _ _ _ us hl => match us, hl with | [_, _], _ => rfl) sc_turned_term rfl rfl fun cdv A outer s H E hr => by
    have hu := hr.units
    have hN := sc_turned_term.nd
    exact ⟨_, (dss_one (ds_ret (de_callP (q1 := true) (Fd.fn C_turned_by hr) (by rfl) (da_cons (de_callP (q1 := true) (Fd.fn C_need_term hr) (by rfl) (da_cons (dv 0) (da_cons (dv 1) da_nil)) (lng_cons (lng_cons lng_nil))) da_nil) (lng_cons lng_nil))))⟩

/-! ### put_by -/
abbrev s_put_by : Stmt := top 44
theorem sc_put_by : FnScope ["table", "term"] ["table", "term"] (defScope s_put_by) := ⟨rfl, rfl, rfl, by decide +kernel, rfl, by decide +kernel, by decide +kernel⟩
def g_put_by (CL : Addr) (a_HEADS : Addr) (rec : Mir) : G := (gSeq (gIf (mTru (mCB (gIsi CL) (fCons (fVar false 1) (fCons (fC (.ty "str")) fNil)))) (gRet (mOp gIx (fVar false 0) (fVar false 1))) DL.gNil)
    (gRet (mTup (fCons (mOp gIx (fVar false 1) (fC (.int (0)))) (fCons (mCallP true rec (fCons (fVar true 0) (fCons (mOp gIx (fVar false 1) (fC (.int (1)))) fNil))) (fCons (mCallP true rec (fCons (fVar true 0) (fCons (mOp gIx (fVar false 1) (fC (.int (2)))) fNil))) fNil))))))
def m_put_by (CL : Addr) (a_HEADS : Addr) (rec : Mir) : Mir := mirOf (g_put_by CL a_HEADS rec) 2 2

theorem fd_put_by {f : Addr} {fd : FuncData} {CL a_HEADS : Addr} {rec : Mir} (T : Txt K mg CL a_HEADS) (F : L2.Fun K "put_by" "put_by" s_put_by f fd) (hm : mg "put_by" = some (.ref f)) {k : Nat} (hk : 0 ≤ k) (C_put_by : Fd P w K mg base k "put_by" 2 rec) : Fd P w K mg base (k + 1) "put_by" 2 (m_put_by CL a_HEADS rec) :=
  fd_of F hm (F.binds (ps := ["table", "term"]) fun _ _ _ _ _ _ us hl => match us, hl with | [_, _], _ => rfl) sc_put_by rfl rfl fun cdv A outer s H E hr => by
    have hu := hr.units
    have hN := sc_put_by.nd
    exact ⟨_, (dss_cons (ds_if (dt_tru (de_isi T.isi_Lattice (by rfl) T.b_isinstance (da_cons (dv 1) (da_cons (dc_ty (by rfl) T.b_str (by decide +kernel)) da_nil)))) (dss_one (ds_ret (de_ix hu (dv 0) (dv 1)))) dss_nil)
    (dss_one (ds_ret (de_tup (da_cons (de_ix hu (dv 1) dc_int) (da_cons (de_callP (q1 := true) (Fd.fn C_put_by hr (Nat.le_refl _)) (by rfl) (da_cons (dv 0) (da_cons (de_ix hu (dv 1) dc_int) da_nil)) (lng_cons (lng_cons lng_nil))) (da_cons (de_callP (q1 := true) (Fd.fn C_put_by hr (Nat.le_refl _)) (by rfl) (da_cons (dv 0) (da_cons (de_ix hu (dv 1) dc_int) da_nil)) (lng_cons (lng_cons lng_nil))) da_nil)))))))⟩

def md_put_by (CL : Addr) (a_HEADS : Addr) : Nat → Mir
  | 0 => fun _ _ => none
  | d + 1 => m_put_by CL a_HEADS (md_put_by CL a_HEADS d)
theorem fdd_put_by {f : Addr} {fd : FuncData} {CL a_HEADS : Addr} (T : Txt K mg CL a_HEADS) (F : L2.Fun K "put_by" "put_by" s_put_by f fd) (hm : mg "put_by" = some (.ref f)) : ∀ d : Nat, Fd P w K mg base (0 + d) "put_by" 2 (md_put_by CL a_HEADS d)
  | 0 => fd_none F hm (F.binds (ps := ["table", "term"]) fun _ _ _ _ _ _ us hl => match us, hl with | [_, _], _ => rfl) rfl
  | d + 1 => fd_put_by T F hm (Nat.le_add_right _ _) (fdd_put_by T F hm d)

/-! ### need_small -/
abbrev s_need_small : Stmt := top 45
theorem sc_need_small : FnScope ["term", "many", "deep"] ["term"] (defScope s_need_small) := ⟨rfl, rfl, rfl, by decide +kernel, rfl, by decide +kernel, by decide +kernel⟩
def g_need_small (CL : Addr) (a_HEADS : Addr) : G := (gSeq (gPar 1 2 (mCB gLen (fCons (mCallP true (md_nodes_by CL a_HEADS 8) (fCons (fVar true 0) fNil)) fNil)) (mCallP true (md_depth_by CL a_HEADS 8) (fCons (fVar true 0) fNil)))
    (gSeq (gIf (mB (mOp gGt (fVar false 1) (fC (.int 40)))) gNo DL.gNil)
    (gSeq (gIf (mB (mOp gGt (fVar false 2) (fC (.int 12)))) gNo DL.gNil)
    (gRet (fVar true 0)))))
def m_need_small (CL : Addr) (a_HEADS : Addr) : Mir := mirOf (g_need_small CL a_HEADS) 1 3

theorem fd_need_small {f : Addr} {fd : FuncData} {CL a_HEADS : Addr} (T : Txt K mg CL a_HEADS) (F : L2.Fun K "need_small" "need_small" s_need_small f fd) (hm : mg "need_small" = some (.ref f)) (C_depth_by : Fd P w K mg base 9 "depth_by" 1 (md_depth_by CL a_HEADS 8)) (C_nodes_by : Fd P w K mg base 9 "nodes_by" 1 (md_nodes_by CL a_HEADS 8)) : Fd P w K mg base 10 "need_small" 1 (m_need_small CL a_HEADS) :=
  fd_of F hm (F.binds (ps := ["term"]) fun _ _ _ _ _ _ us hl => match us, hl with | [_], _ => rfl) sc_need_small rfl rfl fun cdv A outer s H E hr => by
    have hu := hr.units
    have hN := sc_need_small.nd
    exact ⟨_, (dss_cons (ds_par (i := 1) (j := 2) (by rfl) hN (de_callB call_len3 (v_len (q1 := false)) (by rfl) T.b_len (by decide +kernel) (da_cons (de_callP (q1 := true) (Fd.fn C_nodes_by hr) (by rfl) (da_cons (dv 0) da_nil) (lng_cons lng_nil)) da_nil)) (de_callP (q1 := true) (Fd.fn C_depth_by hr) (by rfl) (da_cons (dv 0) da_nil) (lng_cons lng_nil)))
    (dss_cons (ds_if (dt_cmpR op_gt (v_gt (q1 := false) (q2 := false)) (dv 1) (dc_globI (by rfl) T.c_MOST_NODES) (by rfl)) (dss_one ds_never) dss_nil)
    (dss_cons (ds_if (dt_cmpR op_gt (v_gt (q1 := false) (q2 := false)) (dv 2) (dc_globI (by rfl) T.c_MOST_DEEP) (by rfl)) (dss_one ds_never) dss_nil)
    (dss_one (ds_ret (dv 0))))))⟩

/-! ### put_in -/
abbrev s_put_in : Stmt := top 46
theorem sc_put_in : FnScope ["letters", "term", "images", "known", "own", "one"] ["letters", "term", "images"] (defScope s_put_in) := ⟨rfl, rfl, rfl, by decide +kernel, rfl, by decide +kernel, by decide +kernel⟩
def g_put_in (CL : Addr) (a_HEADS : Addr) : G := (gSeq (gBind (mCallP true (m_need_term CL a_HEADS) (fCons (fVar true 0) (fCons (fVar true 1) fNil))) (kPut (.nm 3)))
    (gSeq (gBind (mIf (mTru (mCB (gIsi CL) (fCons (fVar false 2) (fCons (fC (.ty "list")) fNil)))) (mCB gTuple (fCons (fVar false 2) fNil)) (fVar true 2)) (kPut (.nm 4)))
    (gSeq (gIf (mOr (mNot (mTru (mCB (gIsi CL) (fCons (fVar false 4) (fCons (fC (.ty "tuple")) fNil))))) (mOr (mB (mOp gNe (mCB gLen (fCons (fVar false 4) fNil)) (mCB gLen (fCons (fVar false 0) fNil)))) (mNot (mTru (mCB gAll (fCons (mLst (mLc [5] (.nm 5) (mSeq (fVar false 4)) fYes (mCallP true (m_is_term_by CL a_HEADS) (fCons (fVar true 0) (fCons (fVar true 5) fNil))))) fNil)))))) gNo DL.gNil)
    (gRet (mCallP true (m_need_small CL a_HEADS) (fCons (mCallP true (md_put_by CL a_HEADS 8) (fCons (mCB gDictZip (fCons (fVar false 0) (fCons (fVar false 4) fNil))) (fCons (fVar true 3) fNil))) fNil))))))
def m_put_in (CL : Addr) (a_HEADS : Addr) : Mir := mirOf (g_put_in CL a_HEADS) 3 6

theorem fd_put_in {f : Addr} {fd : FuncData} {CL a_HEADS : Addr} (T : Txt K mg CL a_HEADS) (F : L2.Fun K "put_in" "put_in" s_put_in f fd) (hm : mg "put_in" = some (.ref f)) (C_is_term_by : Fd P w K mg base 2 "is_term_by" 2 (m_is_term_by CL a_HEADS)) (C_need_small : Fd P w K mg base 10 "need_small" 1 (m_need_small CL a_HEADS)) (C_need_term : Fd P w K mg base 4 "need_term" 2 (m_need_term CL a_HEADS)) (C_put_by : Fd P w K mg base 8 "put_by" 2 (md_put_by CL a_HEADS 8)) : Fd P w K mg base 11 "put_in" 3 (m_put_in CL a_HEADS) :=
  fd_of F hm (F.binds (ps := ["letters", "term", "images"]) fun _ _ _ _ _ _ us hl => match us, hl with | [_, _, _], _ => rfl) sc_put_in rfl rfl fun cdv A outer s H E hr => by
    have hu := hr.units
    have hN := sc_put_in.nd
    exact ⟨_, (dss_cons (ds_set (i := 3) hN (de_callP (q1 := true) (Fd.fn C_need_term hr) (by rfl) (da_cons (dv 0) (da_cons (dv 1) da_nil)) (lng_cons (lng_cons lng_nil))))
    (dss_cons (ds_set (i := 4) hN (de_ife (dt_tru (de_isi T.isi_Lattice (by rfl) T.b_isinstance (da_cons (dv 2) (da_cons (dc_ty (by rfl) T.b_list (by decide +kernel)) da_nil)))) (de_callTy call_tuple_of (v_tuple (q1 := false)) (by rfl) T.b_tuple (by decide +kernel) (da_cons (dv 2) da_nil)) (dv 2)))
    (dss_cons (ds_if (DW.dt (dw_or (dt_not (dt_tru (de_isi T.isi_Lattice (by rfl) T.b_isinstance (da_cons (dv 4) (da_cons (dc_ty (by rfl) T.b_tuple (by decide +kernel)) da_nil))))) (dw_or (dt_cmpR (op_neP hu) (v_ne (q1 := false) (q2 := false)) (de_callB call_len3 (v_len (q1 := false)) (by rfl) T.b_len (by decide +kernel) (da_cons (dv 4) da_nil)) (de_callB call_len3 (v_len (q1 := false)) (by rfl) T.b_len (by decide +kernel) (da_cons (dv 0) da_nil)) (by rfl)) (dw_or1 (dt_not (dt_tru (de_callB (cr_all (by rfl)) (v_all (q1 := false)) (by rfl) T.b_all (by decide +kernel) (da_cons (DF.de (df_lc (q := false) (own := [("one", 5)]) (w := (iSeq K (tVar 4))) (g := (gName 5)) (tt := tYes) (te := (tCall (spD K 2 (m_is_term_by CL a_HEADS)) [] L2.E0 (tCons (tVar 0) (tCons (tVar 5) tNil)))) (by rfl) hN (dit_seq (dv 4)) (blkOk_by (by kernel_rfl)) (fun _ _ _ _ _ => (dg_name (i := 5) hN)) (fun _ _ _ _ _ => dts_nil) (fun _ _ _ _ _ => (de_callP (q1 := true) (Fd.fn C_is_term_by hr) (by rfl) (da_cons (dv 0) (da_cons (dv 5) da_nil)) (lng_cons (lng_cons lng_nil)))))) da_nil)))))))) (dss_one ds_never) dss_nil)
    (dss_one (ds_ret (de_callP (q1 := true) (Fd.fn C_need_small hr) (by rfl) (da_cons (de_callP (q1 := true) (Fd.fn C_put_by hr) (by rfl) (da_cons (de_dictZip (by rfl) (by rfl) T.b_dict (by rfl) T.b_zip (da_cons (dv 0) (da_cons (dv 4) da_nil))) (da_cons (dv 3) da_nil)) (lng_cons (lng_cons lng_nil))) da_nil) (lng_cons lng_nil)))))))⟩

/-! ### are_images -/
abbrev s_are_images : Stmt := top 48
theorem sc_are_images : FnScope ["letters", "lattice", "value", "one"] ["letters", "lattice", "value"] (defScope s_are_images) := ⟨rfl, rfl, rfl, by decide +kernel, rfl, by decide +kernel, by decide +kernel⟩
def g_are_images (CL : Addr) (a_HEADS : Addr) : G := (gSeq (gIf (mOr (mNot (mTru (mCB (gIsi CL) (fCons (fVar false 2) (fCons (fC (.ty "tuple")) fNil))))) (mB (mOp gNe (mCB gLen (fCons (fVar false 2) fNil)) (mCB gLen (fCons (fVar false 0) fNil))))) (gRet (fC (.bl false))) DL.gNil)
    (gRet (mCB gAll (fCons (mLst (mLc [3] (.nm 3) (mSeq (fVar false 2)) fYes (mCallP true (m_is_index CL a_HEADS) (fCons (fVar true 3) (fCons (mCB gLen (fCons (mFld CL "rows" (fVar false 1)) fNil)) fNil))))) fNil))))
def m_are_images (CL : Addr) (a_HEADS : Addr) : Mir := mirOf (g_are_images CL a_HEADS) 3 4

theorem fd_are_images {f : Addr} {fd : FuncData} {CL a_HEADS : Addr} (T : Txt K mg CL a_HEADS) (F : L2.Fun K "are_images" "are_images" s_are_images f fd) (hm : mg "are_images" = some (.ref f)) (C_is_index : Fd P w K mg base 2 "is_index" 2 (m_is_index CL a_HEADS)) : Fd P w K mg base 3 "are_images" 3 (m_are_images CL a_HEADS) :=
  fd_of F hm (F.binds (ps := ["letters", "lattice", "value"]) fun _ _ _ _ _ _ us hl => match us, hl with | [_, _, _], _ => rfl) sc_are_images rfl rfl fun cdv A outer s H E hr => by
    have hu := hr.units
    have hN := sc_are_images.nd
    exact ⟨_, (dss_cons (ds_if (DW.dt (dw_or (dt_not (dt_tru (de_isi T.isi_Lattice (by rfl) T.b_isinstance (da_cons (dv 2) (da_cons (dc_ty (by rfl) T.b_tuple (by decide +kernel)) da_nil))))) (dw_or1 (dt_cmpR (op_neP hu) (v_ne (q1 := false) (q2 := false)) (de_callB call_len3 (v_len (q1 := false)) (by rfl) T.b_len (by decide +kernel) (da_cons (dv 2) da_nil)) (de_callB call_len3 (v_len (q1 := false)) (by rfl) T.b_len (by decide +kernel) (da_cons (dv 0) da_nil)) (by rfl))))) (dss_one (ds_ret dc_bl)) dss_nil)
    (dss_one (ds_ret (de_callB (cr_all (by rfl)) (v_all (q1 := false)) (by rfl) T.b_all (by decide +kernel) (da_cons (DF.de (df_lc (q := false) (own := [("one", 3)]) (w := (iSeq K (tVar 2))) (g := (gName 3)) (tt := tYes) (te := (tCall (spD K 2 (m_is_index CL a_HEADS)) [] L2.E0 (tCons (tVar 3) (tCons (tCB (rLen3 K) (tCons (tFld K (tVar 1) "rows") tNil)) tNil)))) (by rfl) hN (dit_seq (dv 2)) (blkOk_by (by kernel_rfl)) (fun _ _ _ _ _ => (dg_name (i := 3) hN)) (fun _ _ _ _ _ => dts_nil) (fun _ _ _ _ _ => (de_callP (q1 := true) (Fd.fn C_is_index hr) (by rfl) (da_cons (dv 3) (da_cons (de_callB call_len3 (v_len (q1 := false)) (by rfl) T.b_len (by decide +kernel) (da_cons (de_fld T.cl_Lattice T.n_Lattice_rows (dv 1)) da_nil)) da_nil)) (lng_cons (lng_cons lng_nil)))))) da_nil)))))⟩

/-! ### value_with -/
abbrev s_value_with : Stmt := top 49
theorem sc_value_with : FnScope ["lattice", "table", "term", "first", "second"] ["lattice", "table", "term"] (defScope s_value_with) := ⟨rfl, rfl, rfl, by decide +kernel, rfl, by decide +kernel, by decide +kernel⟩
def g_value_with (CL : Addr) (a_HEADS : Addr) (rec : Mir) : G := (gSeq (gIf (mTru (mCB (gIsi CL) (fCons (fVar false 2) (fCons (fC (.ty "str")) fNil)))) (gRet (mOp gIx (fVar false 1) (fVar false 2))) DL.gNil)
    (gSeq (gPar 3 4 (mCallP true rec (fCons (fVar true 0) (fCons (fVar true 1) (fCons (mOp gIx (fVar false 2) (fC (.int (1)))) fNil)))) (mCallP true rec (fCons (fVar true 0) (fCons (fVar true 1) (fCons (mOp gIx (fVar false 2) (fC (.int (2)))) fNil)))))
    (gRet (mIf (mB (mOp gEq (mOp gIx (fVar false 2) (fC (.int (0)))) (fC (.str "both")))) (mCallP true (m_both_by CL a_HEADS) (fCons (fVar true 0) (fCons (fVar true 3) (fCons (fVar true 4) fNil)))) (mCallP true (m_either_by CL a_HEADS) (fCons (fVar true 0) (fCons (fVar true 3) (fCons (fVar true 4) fNil))))))))
def m_value_with (CL : Addr) (a_HEADS : Addr) (rec : Mir) : Mir := mirOf (g_value_with CL a_HEADS rec) 3 5

theorem fd_value_with {f : Addr} {fd : FuncData} {CL a_HEADS : Addr} {rec : Mir} (T : Txt K mg CL a_HEADS) (F : L2.Fun K "value_with" "value_with" s_value_with f fd) (hm : mg "value_with" = some (.ref f)) (C_both_by : Fd P w K mg base 1 "both_by" 3 (m_both_by CL a_HEADS)) (C_either_by : Fd P w K mg base 1 "either_by" 3 (m_either_by CL a_HEADS)) {k : Nat} (hk : 1 ≤ k) (C_value_with : Fd P w K mg base k "value_with" 3 rec) : Fd P w K mg base (k + 1) "value_with" 3 (m_value_with CL a_HEADS rec) :=
  fd_of F hm (F.binds (ps := ["lattice", "table", "term"]) fun _ _ _ _ _ _ us hl => match us, hl with | [_, _, _], _ => rfl) sc_value_with rfl rfl fun cdv A outer s H E hr => by
    have hu := hr.units
    have hN := sc_value_with.nd
    exact ⟨_, (dss_cons (ds_if (dt_tru (de_isi T.isi_Lattice (by rfl) T.b_isinstance (da_cons (dv 2) (da_cons (dc_ty (by rfl) T.b_str (by decide +kernel)) da_nil)))) (dss_one (ds_ret (de_ix hu (dv 1) (dv 2)))) dss_nil)
    (dss_cons (ds_par (i := 3) (j := 4) (by rfl) hN (de_callP (q1 := true) (Fd.fn C_value_with hr (Nat.le_refl _)) (by rfl) (da_cons (dv 0) (da_cons (dv 1) (da_cons (de_ix hu (dv 2) dc_int) da_nil))) (lng_cons (lng_cons (lng_cons lng_nil)))) (de_callP (q1 := true) (Fd.fn C_value_with hr (Nat.le_refl _)) (by rfl) (da_cons (dv 0) (da_cons (dv 1) (da_cons (de_ix hu (dv 2) dc_int) da_nil))) (lng_cons (lng_cons (lng_cons lng_nil)))))
    (dss_one (ds_ret (de_ife (dt_cmpR (op_eqP hu) (v_eq (q1 := false) (q2 := false)) (de_ix hu (dv 2) dc_int) dc_str (by rfl)) (de_callP (q1 := true) (Fd.fn C_both_by hr (by omega)) (by rfl) (da_cons (dv 0) (da_cons (dv 3) (da_cons (dv 4) da_nil))) (lng_cons (lng_cons (lng_cons lng_nil)))) (de_callP (q1 := true) (Fd.fn C_either_by hr (by omega)) (by rfl) (da_cons (dv 0) (da_cons (dv 3) (da_cons (dv 4) da_nil))) (lng_cons (lng_cons (lng_cons lng_nil)))))))))⟩

def md_value_with (CL : Addr) (a_HEADS : Addr) : Nat → Mir
  | 0 => fun _ _ => none
  | d + 1 => m_value_with CL a_HEADS (md_value_with CL a_HEADS d)
theorem fdd_value_with {f : Addr} {fd : FuncData} {CL a_HEADS : Addr} (T : Txt K mg CL a_HEADS) (F : L2.Fun K "value_with" "value_with" s_value_with f fd) (hm : mg "value_with" = some (.ref f)) (C_both_by : Fd P w K mg base 1 "both_by" 3 (m_both_by CL a_HEADS)) (C_either_by : Fd P w K mg base 1 "either_by" 3 (m_either_by CL a_HEADS)) : ∀ d : Nat, Fd P w K mg base (1 + d) "value_with" 3 (md_value_with CL a_HEADS d)
  | 0 => fd_none F hm (F.binds (ps := ["lattice", "table", "term"]) fun _ _ _ _ _ _ us hl => match us, hl with | [_, _, _], _ => rfl) rfl
  | d + 1 => fd_value_with T F hm C_both_by C_either_by (Nat.le_add_right _ _) (fdd_value_with T F hm C_both_by C_either_by d)

/-! ### value_by -/
abbrev s_value_by : Stmt := top 50
theorem sc_value_by : FnScope ["lattice", "letters", "images", "term"] ["lattice", "letters", "images", "term"] (defScope s_value_by) := ⟨rfl, rfl, rfl, by decide +kernel, rfl, by decide +kernel, by decide +kernel⟩
def g_value_by (CL : Addr) (a_HEADS : Addr) : G := (gRet (mCallP true (md_value_with CL a_HEADS 8) (fCons (fVar true 0) (fCons (mCB gDictZip (fCons (fVar false 1) (fCons (fVar false 2) fNil))) (fCons (fVar true 3) fNil)))))
def m_value_by (CL : Addr) (a_HEADS : Addr) : Mir := mirOf (g_value_by CL a_HEADS) 4 4

theorem fd_value_by {f : Addr} {fd : FuncData} {CL a_HEADS : Addr} (T : Txt K mg CL a_HEADS) (F : L2.Fun K "value_by" "value_by" s_value_by f fd) (hm : mg "value_by" = some (.ref f)) (C_value_with : Fd P w K mg base 9 "value_with" 3 (md_value_with CL a_HEADS 8)) : Fd P w K mg base 10 "value_by" 4 (m_value_by CL a_HEADS) :=
  fd_of F hm (F.binds (ps := ["lattice", "letters", "images", "term"]) fun _ _ _ _ _ _ us hl => match us, hl with | [_, _, _, _], _ => rfl) sc_value_by rfl rfl fun cdv A outer s H E hr => by
    have hu := hr.units
    have hN := sc_value_by.nd
    exact ⟨_, (dss_one (ds_ret (de_callP (q1 := true) (Fd.fn C_value_with hr) (by rfl) (da_cons (dv 0) (da_cons (de_dictZip (by rfl) (by rfl) T.b_dict (by rfl) T.b_zip (da_cons (dv 1) (da_cons (dv 2) da_nil))) (da_cons (dv 3) da_nil))) (lng_cons (lng_cons (lng_cons lng_nil))))))⟩

/-! ### is_so_by -/
abbrev s_is_so_by : Stmt := top 51
theorem sc_is_so_by : FnScope ["lattice", "letters", "images", "pair", "table"] ["lattice", "letters", "images", "pair"] (defScope s_is_so_by) := ⟨rfl, rfl, rfl, by decide +kernel, rfl, by decide +kernel, by decide +kernel⟩
def g_is_so_by (CL : Addr) (a_HEADS : Addr) : G := (gSeq (gBind (mCB gDictZip (fCons (fVar false 1) (fCons (fVar false 2) fNil))) (kPut (.nm 4)))
    (gRet (mCallP true (m_is_below CL a_HEADS) (fCons (fVar true 0) (fCons (mCallP true (md_value_with CL a_HEADS 8) (fCons (fVar true 0) (fCons (fVar true 4) (fCons (mOp gIx (fVar false 3) (fC (.int (0)))) fNil)))) (fCons (mCallP true (md_value_with CL a_HEADS 8) (fCons (fVar true 0) (fCons (fVar true 4) (fCons (mOp gIx (fVar false 3) (fC (.int (1)))) fNil)))) fNil))))))
def m_is_so_by (CL : Addr) (a_HEADS : Addr) : Mir := mirOf (g_is_so_by CL a_HEADS) 4 5

theorem fd_is_so_by {f : Addr} {fd : FuncData} {CL a_HEADS : Addr} (T : Txt K mg CL a_HEADS) (F : L2.Fun K "is_so_by" "is_so_by" s_is_so_by f fd) (hm : mg "is_so_by" = some (.ref f)) (C_is_below : Fd P w K mg base 1 "is_below" 3 (m_is_below CL a_HEADS)) (C_value_with : Fd P w K mg base 9 "value_with" 3 (md_value_with CL a_HEADS 8)) : Fd P w K mg base 10 "is_so_by" 4 (m_is_so_by CL a_HEADS) :=
  fd_of F hm (F.binds (ps := ["lattice", "letters", "images", "pair"]) fun _ _ _ _ _ _ us hl => match us, hl with | [_, _, _, _], _ => rfl) sc_is_so_by rfl rfl fun cdv A outer s H E hr => by
    have hu := hr.units
    have hN := sc_is_so_by.nd
    exact ⟨_, (dss_cons (ds_set (i := 4) hN (de_dictZip (by rfl) (by rfl) T.b_dict (by rfl) T.b_zip (da_cons (dv 1) (da_cons (dv 2) da_nil))))
    (dss_one (ds_ret (de_callP (q1 := true) (Fd.fn C_is_below hr) (by rfl) (da_cons (dv 0) (da_cons (de_callP (q1 := true) (Fd.fn C_value_with hr) (by rfl) (da_cons (dv 0) (da_cons (dv 4) (da_cons (de_ix hu (dv 3) dc_int) da_nil))) (lng_cons (lng_cons (lng_cons lng_nil)))) (da_cons (de_callP (q1 := true) (Fd.fn C_value_with hr) (by rfl) (da_cons (dv 0) (da_cons (dv 4) (da_cons (de_ix hu (dv 3) dc_int) da_nil))) (lng_cons (lng_cons (lng_cons lng_nil)))) da_nil))) (lng_cons (lng_cons (lng_cons lng_nil)))))))⟩

/-! ### need_images -/
abbrev s_need_images : Stmt := top 52
theorem sc_need_images : FnScope ["letters", "lattice", "images"] ["letters", "lattice", "images"] (defScope s_need_images) := ⟨rfl, rfl, rfl, by decide +kernel, rfl, by decide +kernel, by decide +kernel⟩
def g_need_images (CL : Addr) (a_HEADS : Addr) : G := (gSeq (gIf (mNot (mTru (mCallP true (m_are_images CL a_HEADS) (fCons (fVar true 0) (fCons (fVar true 1) (fCons (fVar true 2) fNil)))))) gNo DL.gNil)
    (gRet (fVar true 2)))
def m_need_images (CL : Addr) (a_HEADS : Addr) : Mir := mirOf (g_need_images CL a_HEADS) 3 3

theorem fd_need_images {f : Addr} {fd : FuncData} {CL a_HEADS : Addr} (T : Txt K mg CL a_HEADS) (F : L2.Fun K "need_images" "need_images" s_need_images f fd) (hm : mg "need_images" = some (.ref f)) (C_are_images : Fd P w K mg base 3 "are_images" 3 (m_are_images CL a_HEADS)) : Fd P w K mg base 4 "need_images" 3 (m_need_images CL a_HEADS) :=
  fd_of F hm (F.binds (ps := ["letters", "lattice", "images"]) fun _ _ _ _ _ _ us hl => match us, hl with | [_, _, _], _ => rfl) sc_need_images rfl rfl fun cdv A outer s H E hr => by
    have hu := hr.units
    have hN := sc_need_images.nd
    exact ⟨_, (dss_cons (ds_if (dt_not (dt_tru (de_callP (q1 := true) (Fd.fn C_are_images hr) (by rfl) (da_cons (dv 0) (da_cons (dv 1) (da_cons (dv 2) da_nil))) (lng_cons (lng_cons (lng_cons lng_nil)))))) (dss_one ds_never) dss_nil)
    (dss_one (ds_ret (dv 2))))⟩

/-! ### term_value -/
abbrev s_term_value : Stmt := top 53
theorem sc_term_value : FnScope ["letters", "lattice", "images", "term"] ["letters", "lattice", "images", "term"] (defScope s_term_value) := ⟨rfl, rfl, rfl, by decide +kernel, rfl, by decide +kernel, by decide +kernel⟩
def g_term_value (CL : Addr) (a_HEADS : Addr) : G := (gSeq (gBind (mCallP true (m_need_letters CL a_HEADS) (fCons (fVar true 0) fNil)) fun _ s => some (.nx s))
    (gSeq (gBind (mCallP true (m_need_lattice CL a_HEADS) (fCons (fVar true 1) fNil)) fun _ s => some (.nx s))
    (gSeq (gBind (mCallP true (m_need_images CL a_HEADS) (fCons (fVar true 0) (fCons (fVar true 1) (fCons (fVar true 2) fNil)))) fun _ s => some (.nx s))
    (gRet (mCallP true (m_value_by CL a_HEADS) (fCons (fVar true 1) (fCons (fVar true 0) (fCons (fVar true 2) (fCons (mCallP true (m_need_own_term CL a_HEADS) (fCons (fC (.str "term")) (fCons (fVar true 0) (fCons (fVar true 3) fNil)))) fNil)))))))))
def m_term_value (CL : Addr) (a_HEADS : Addr) : Mir := mirOf (g_term_value CL a_HEADS) 4 4

theorem fd_term_value {f : Addr} {fd : FuncData} {CL a_HEADS : Addr} (T : Txt K mg CL a_HEADS) (F : L2.Fun K "term_value" "term_value" s_term_value f fd) (hm : mg "term_value" = some (.ref f)) (C_need_images : Fd P w K mg base 4 "need_images" 3 (m_need_images CL a_HEADS)) (C_need_lattice : Fd P w K mg base 1 "need_lattice" 1 (m_need_lattice CL a_HEADS)) (C_need_letters : Fd P w K mg base 2 "need_letters" 1 (m_need_letters CL a_HEADS)) (C_need_own_term : Fd P w K mg base 3 "need_own_term" 3 (m_need_own_term CL a_HEADS)) (C_value_by : Fd P w K mg base 10 "value_by" 4 (m_value_by CL a_HEADS)) : Fd P w K mg base 11 "term_value" 4 (m_term_value CL a_HEADS) :=
  fd_of F hm (F.binds (ps := ["letters", "lattice", "images", "term"]) fun _ _ _ _ _ _ us hl => match us, hl with | [_, _, _, _], _ => rfl) sc_term_value rfl rfl fun cdv A outer s H E hr => by
    have hu := hr.units
    have hN := sc_term_value.nd
    exact ⟨_, (dss_cons (ds_drop (de_callP (q1 := true) (Fd.fn C_need_letters hr) (by rfl) (da_cons (dv 0) da_nil) (lng_cons lng_nil)))
    (dss_cons (ds_drop (de_callP (q1 := true) (Fd.fn C_need_lattice hr) (by rfl) (da_cons (dv 1) da_nil) (lng_cons lng_nil)))
    (dss_cons (ds_drop (de_callP (q1 := true) (Fd.fn C_need_images hr) (by rfl) (da_cons (dv 0) (da_cons (dv 1) (da_cons (dv 2) da_nil))) (lng_cons (lng_cons (lng_cons lng_nil)))))
    (dss_one (ds_ret (de_callP (q1 := true) (Fd.fn C_value_by hr) (by rfl) (da_cons (dv 1) (da_cons (dv 0) (da_cons (dv 2) (da_cons (de_callP (q1 := true) (Fd.fn C_need_own_term hr) (by rfl) (da_cons dc_str (da_cons (dv 0) (da_cons (dv 3) da_nil))) (lng_cons (lng_cons (lng_cons lng_nil)))) da_nil)))) (lng_cons (lng_cons (lng_cons (lng_cons lng_nil))))))))))⟩

/-! ### is_so -/
abbrev s_is_so : Stmt := top 54
theorem sc_is_so : FnScope ["letters", "lattice", "images", "one", "other", "pair"] ["letters", "lattice", "images", "one", "other"] (defScope s_is_so) := ⟨rfl, rfl, rfl, by decide +kernel, rfl, by decide +kernel, by decide +kernel⟩
def g_is_so (CL : Addr) (a_HEADS : Addr) : G := (gSeq (gBind (mCallP true (m_need_letters CL a_HEADS) (fCons (fVar true 0) fNil)) fun _ s => some (.nx s))
    (gSeq (gBind (mCallP true (m_need_lattice CL a_HEADS) (fCons (fVar true 1) fNil)) fun _ s => some (.nx s))
    (gSeq (gBind (mCallP true (m_need_images CL a_HEADS) (fCons (fVar true 0) (fCons (fVar true 1) (fCons (fVar true 2) fNil)))) fun _ s => some (.nx s))
    (gSeq (gBind (mTup (fCons (mCallP true (m_need_own_term CL a_HEADS) (fCons (fC (.str "one")) (fCons (fVar true 0) (fCons (fVar true 3) fNil)))) (fCons (mCallP true (m_need_own_term CL a_HEADS) (fCons (fC (.str "other")) (fCons (fVar true 0) (fCons (fVar true 4) fNil)))) fNil))) (kPut (.nm 5)))
    (gRet (mCallP true (m_is_so_by CL a_HEADS) (fCons (fVar true 1) (fCons (fVar true 0) (fCons (fVar true 2) (fCons (fVar true 5) fNil))))))))))
def m_is_so (CL : Addr) (a_HEADS : Addr) : Mir := mirOf (g_is_so CL a_HEADS) 5 6

theorem fd_is_so {f : Addr} {fd : FuncData} {CL a_HEADS : Addr} (T : Txt K mg CL a_HEADS) (F : L2.Fun K "is_so" "is_so" s_is_so f fd) (hm : mg "is_so" = some (.ref f)) (C_is_so_by : Fd P w K mg base 10 "is_so_by" 4 (m_is_so_by CL a_HEADS)) (C_need_images : Fd P w K mg base 4 "need_images" 3 (m_need_images CL a_HEADS)) (C_need_lattice : Fd P w K mg base 1 "need_lattice" 1 (m_need_lattice CL a_HEADS)) (C_need_letters : Fd P w K mg base 2 "need_letters" 1 (m_need_letters CL a_HEADS)) (C_need_own_term : Fd P w K mg base 3 "need_own_term" 3 (m_need_own_term CL a_HEADS)) : Fd P w K mg base 11 "is_so" 5 (m_is_so CL a_HEADS) :=
  fd_of F hm (F.binds (ps := ["letters", "lattice", "images", "one", "other"]) fun _ _ _ _ _ _ us hl => match us, hl with | [_, _, _, _, _], _ => rfl) sc_is_so rfl rfl fun cdv A outer s H E hr => by
    have hu := hr.units
    have hN := sc_is_so.nd
    exact ⟨_, (dss_cons (ds_drop (de_callP (q1 := true) (Fd.fn C_need_letters hr) (by rfl) (da_cons (dv 0) da_nil) (lng_cons lng_nil)))
    (dss_cons (ds_drop (de_callP (q1 := true) (Fd.fn C_need_lattice hr) (by rfl) (da_cons (dv 1) da_nil) (lng_cons lng_nil)))
    (dss_cons (ds_drop (de_callP (q1 := true) (Fd.fn C_need_images hr) (by rfl) (da_cons (dv 0) (da_cons (dv 1) (da_cons (dv 2) da_nil))) (lng_cons (lng_cons (lng_cons lng_nil)))))
    (dss_cons (ds_set (i := 5) hN (de_tup (da_cons (de_callP (q1 := true) (Fd.fn C_need_own_term hr) (by rfl) (da_cons dc_str (da_cons (dv 0) (da_cons (dv 3) da_nil))) (lng_cons (lng_cons (lng_cons lng_nil)))) (da_cons (de_callP (q1 := true) (Fd.fn C_need_own_term hr) (by rfl) (da_cons dc_str (da_cons (dv 0) (da_cons (dv 4) da_nil))) (lng_cons (lng_cons (lng_cons lng_nil)))) da_nil))))
    (dss_one (ds_ret (de_callP (q1 := true) (Fd.fn C_is_so_by hr) (by rfl) (da_cons (dv 1) (da_cons (dv 0) (da_cons (dv 2) (da_cons (dv 5) da_nil)))) (lng_cons (lng_cons (lng_cons (lng_cons lng_nil)))))))))))⟩

/-! ### _law_pen -/
abbrev s__law_pen : Stmt := top 56
theorem sc__law_pen : FnScope ["script", "fold", "cell"] ["script"] (defScope s__law_pen) := ⟨rfl, rfl, rfl, by decide +kernel, rfl, by decide +kernel, by decide +kernel⟩
def g__law_pen (CL : Addr) (a_HEADS : Addr) : G := (gSeq (gBind (fC (.int (0))) (kPut (.nm 1)))
    (gSeq (gFor (.nm 2) (mSeq (fVar true 0)) (gBind (mOp gMod (mCB gInt (fCons (mOp gAdd (mOp gMul (fVar false 1) (fC (.int (47)))) (fVar false 2)) fNil)) (fC (.int (1000000007)))) (kPut (.nm 1))))
    (gRet (mDisp (fPCons (fC (.str "cells")) (mLst (mCBF gListA (fCons (fVar false 0) fNil))) (fPCons (fC (.str "at")) (fC (.int (0))) (fPCons (fC (.str "digits")) (fC (.int (0))) (fPCons (fC (.str "count")) (fC (.int (0))) (fPCons (fC (.str "fold")) (fVar true 1) fPNil)))))))))
def m__law_pen (CL : Addr) (a_HEADS : Addr) : Mir := mirOf (g__law_pen CL a_HEADS) 1 3

theorem fd__law_pen {f : Addr} {fd : FuncData} {CL a_HEADS : Addr} (T : Txt K mg CL a_HEADS) (F : L2.Fun K "_law_pen" "_law_pen" s__law_pen f fd) (hm : mg "_law_pen" = some (.ref f)) : Fd P w K mg base 1 "_law_pen" 1 (m__law_pen CL a_HEADS) :=
  fd_of F hm (F.binds (ps := ["script"]) fun _ _ _ _ _ _ us hl => match us, hl with | [_], _ => rfl) sc__law_pen rfl rfl fun cdv A outer s H E hr => by
    have hu := hr.units
    have hN := sc__law_pen.nd
    exact ⟨_, (dss_cons (ds_set (i := 1) hN dc_int)
    (dss_cons (ds_for PassesOwn.never (by rfl) (dit_seq (dv 0)) (dg_name (i := 2) hN) (dss_one (ds_set (i := 1) hN (de_op op_mod (v_mod (q1 := false) (q2 := false)) (de_callTy call_int1 (v_int (q1 := false)) (by rfl) T.b_int (by decide +kernel) (da_cons (de_op op_add4 (v_add (q1 := false) (q2 := false)) (de_op op_mul (v_mul (q1 := false) (q2 := false)) (dv 1) dc_int) (dv 2)) da_nil)) dc_int))))
    (dss_one (ds_ret (de_disp (dps_cons dc_str (DF.de (df_callTy (call_listA (by rfl)) (vf_listA (q1 := false)) (by rfl) T.b_list (by decide +kernel) (da_cons (dv 0) da_nil))) (dps_cons dc_str dc_int (dps_cons dc_str dc_int (dps_cons dc_str dc_int (dps_cons dc_str (dv 1) dps_nil))))))))))⟩

/-! ### _law_draw -/
abbrev s__law_draw : Stmt := top 57
theorem sc__law_draw : FnScope ["pen", "many", "cell", "digit", "blend"] ["pen", "many"] (defScope s__law_draw) := ⟨rfl, rfl, rfl, by decide +kernel, rfl, by decide +kernel, by decide +kernel⟩
def g__law_draw (CL : Addr) (a_HEADS : Addr) : G := (gSeq (gPutA (mOp gAdd (mIxA (fVar false 0) (fC (.str "count"))) (fC (.int (1)))) (fVar false 0) (fC (.str "count")))
    (gSeq (gIf (mAnd (mB (mOp gEq (mIxA (fVar false 0) (fC (.str "digits"))) (fC (.int (0))))) (mB (mOp gLt (mIxA (fVar false 0) (fC (.str "at"))) (mCB gLen (fCons (mIxA (fVar false 0) (fC (.str "cells"))) fNil))))) (gSeq (gBind (mOp gIx (mIxA (fVar false 0) (fC (.str "cells"))) (mIxA (fVar false 0) (fC (.str "at")))) (kPut (.nm 2)))
    (gSeq (gPutA (mOp gAdd (mIxA (fVar false 0) (fC (.str "at"))) (fC (.int (1)))) (fVar false 0) (fC (.str "at")))
    (gIf (mB (mOp gGe (fVar false 2) (mOp gPow (fC (.int (10))) (fC (.int (18)))))) (gPutA (mOp DL.gSub (fVar false 2) (mOp gPow (fC (.int (10))) (fC (.int (18))))) (fVar false 0) (fC (.str "digits"))) (gPutA (mOp gMod (mCB gInt (fCons (mOp gAdd (mOp gMul (mIxA (fVar false 0) (fC (.str "fold"))) (fC (.int (69069)))) (fVar false 2)) fNil)) (fC (.int (2147483587)))) (fVar false 0) (fC (.str "fold")))))) DL.gNil)
    (gSeq (gIf (mB (mOp gGt (mIxA (fVar false 0) (fC (.str "digits"))) (fC (.int (0))))) (gSeq (gBind (mOp gMod (mCB gInt (fCons (mIxA (fVar false 0) (fC (.str "digits"))) fNil)) (fVar false 1)) (kPut (.nm 3)))
    (gSeq (gPutA (mOp gFdiv (mIxA (fVar false 0) (fC (.str "digits"))) (fVar false 1)) (fVar false 0) (fC (.str "digits")))
    (gRet (fVar true 3)))) DL.gNil)
    (gSeq (gBind (mOp gMod (mCB gInt (fCons (mOp gAdd (mOp gAdd (mOp gMul (mIxA (fVar false 0) (fC (.str "fold"))) (fC (.int (48271)))) (mOp gMul (mIxA (fVar false 0) (fC (.str "count"))) (fC (.int (7919))))) (fC (.int (13)))) fNil)) (fC (.int (2147483647)))) (kPut (.nm 4)))
    (gSeq (gBind (mOp gMod (mCB gInt (fCons (mOp gAdd (mOp gAdd (mOp gMul (fVar false 4) (fVar false 4)) (mOp gMul (fC (.int (31))) (fVar false 4))) (mIxA (fVar false 0) (fC (.str "count")))) fNil)) (fC (.int (2147483629)))) (kPut (.nm 4)))
    (gSeq (gPutA (mOp gMod (mCB gInt (fCons (mOp gAdd (mOp gMul (fVar false 4) (fC (.int (16807)))) (fC (.int (7)))) fNil)) (fC (.int (2147483647)))) (fVar false 0) (fC (.str "fold")))
    (gRet (mOp gMod (mCB gInt (fCons (mOp gFdiv (fVar false 4) (fC (.int (64)))) fNil)) (fVar false 1)))))))))
def m__law_draw (CL : Addr) (a_HEADS : Addr) : Mir := mirOf (g__law_draw CL a_HEADS) 2 5

theorem fd__law_draw {f : Addr} {fd : FuncData} {CL a_HEADS : Addr} (T : Txt K mg CL a_HEADS) (F : L2.Fun K "_law_draw" "_law_draw" s__law_draw f fd) (hm : mg "_law_draw" = some (.ref f)) : Fd P w K mg base 1 "_law_draw" 2 (m__law_draw CL a_HEADS) :=
  fd_of F hm (F.binds (ps := ["pen", "many"]) fun _ _ _ _ _ _ us hl => match us, hl with | [_, _], _ => rfl) sc__law_draw rfl rfl fun cdv A outer s H E hr => by
    have hu := hr.units
    have hN := sc__law_draw.nd
    exact ⟨_, (dss_cons (ds_putA hu (dv 0) dc_str (de_op op_add4 (v_add (q1 := false) (q2 := false)) (de_ixA hu (dv 0) dc_str) dc_int))
    (dss_cons (ds_if (DW.dt (dw_and (dt_cmpR (op_eqP hu) (v_eq (q1 := false) (q2 := false)) (de_ixA hu (dv 0) dc_str) dc_int (by rfl)) (dw_and1 (dt_cmpR op_lt (v_lt (q1 := false) (q2 := false)) (de_ixA hu (dv 0) dc_str) (de_callB call_len3 (v_len (q1 := false)) (by rfl) T.b_len (by decide +kernel) (da_cons (de_ixA hu (dv 0) dc_str) da_nil)) (by rfl))))) (dss_cons (ds_set (i := 2) hN (de_ix hu (de_ixA hu (dv 0) dc_str) (de_ixA hu (dv 0) dc_str)))
    (dss_cons (ds_putA hu (dv 0) dc_str (de_op op_add4 (v_add (q1 := false) (q2 := false)) (de_ixA hu (dv 0) dc_str) dc_int))
    (dss_one (ds_if (dt_cmpR op_ge (v_ge (q1 := false) (q2 := false)) (dv 2) (de_op op_pow (v_pow (q1 := false) (q2 := false)) dc_int dc_int) (by rfl)) (dss_one (ds_putA hu (dv 0) dc_str (de_op op_sub (v_sub (q1 := false) (q2 := false)) (dv 2) (de_op op_pow (v_pow (q1 := false) (q2 := false)) dc_int dc_int)))) (dss_one (ds_putA hu (dv 0) dc_str (de_op op_mod (v_mod (q1 := false) (q2 := false)) (de_callTy call_int1 (v_int (q1 := false)) (by rfl) T.b_int (by decide +kernel) (da_cons (de_op op_add4 (v_add (q1 := false) (q2 := false)) (de_op op_mul (v_mul (q1 := false) (q2 := false)) (de_ixA hu (dv 0) dc_str) dc_int) (dv 2)) da_nil)) dc_int))))))) dss_nil)
    (dss_cons (ds_if (dt_cmpR op_gt (v_gt (q1 := false) (q2 := false)) (de_ixA hu (dv 0) dc_str) dc_int (by rfl)) (dss_cons (ds_set (i := 3) hN (de_op op_mod (v_mod (q1 := false) (q2 := false)) (de_callTy call_int1 (v_int (q1 := false)) (by rfl) T.b_int (by decide +kernel) (da_cons (de_ixA hu (dv 0) dc_str) da_nil)) (dv 1)))
    (dss_cons (ds_putA hu (dv 0) dc_str (de_op op_fdiv (v_fdiv (q1 := false) (q2 := false)) (de_ixA hu (dv 0) dc_str) (dv 1)))
    (dss_one (ds_ret (dv 3))))) dss_nil)
    (dss_cons (ds_set (i := 4) hN (de_op op_mod (v_mod (q1 := false) (q2 := false)) (de_callTy call_int1 (v_int (q1 := false)) (by rfl) T.b_int (by decide +kernel) (da_cons (de_op op_add4 (v_add (q1 := false) (q2 := false)) (de_op op_add4 (v_add (q1 := false) (q2 := false)) (de_op op_mul (v_mul (q1 := false) (q2 := false)) (de_ixA hu (dv 0) dc_str) dc_int) (de_op op_mul (v_mul (q1 := false) (q2 := false)) (de_ixA hu (dv 0) dc_str) dc_int)) dc_int) da_nil)) dc_int))
    (dss_cons (ds_set (i := 4) hN (de_op op_mod (v_mod (q1 := false) (q2 := false)) (de_callTy call_int1 (v_int (q1 := false)) (by rfl) T.b_int (by decide +kernel) (da_cons (de_op op_add4 (v_add (q1 := false) (q2 := false)) (de_op op_add4 (v_add (q1 := false) (q2 := false)) (de_op op_mul (v_mul (q1 := false) (q2 := false)) (dv 4) (dv 4)) (de_op op_mul (v_mul (q1 := false) (q2 := false)) dc_int (dv 4))) (de_ixA hu (dv 0) dc_str)) da_nil)) dc_int))
    (dss_cons (ds_putA hu (dv 0) dc_str (de_op op_mod (v_mod (q1 := false) (q2 := false)) (de_callTy call_int1 (v_int (q1 := false)) (by rfl) T.b_int (by decide +kernel) (da_cons (de_op op_add4 (v_add (q1 := false) (q2 := false)) (de_op op_mul (v_mul (q1 := false) (q2 := false)) (dv 4) dc_int) dc_int) da_nil)) dc_int))
    (dss_one (ds_ret (de_op op_mod (v_mod (q1 := false) (q2 := false)) (de_callTy call_int1 (v_int (q1 := false)) (by rfl) T.b_int (by decide +kernel) (da_cons (de_op op_fdiv (v_fdiv (q1 := false) (q2 := false)) (dv 4) dc_int) da_nil)) (dv 1))))))))))⟩

/-! ### _law_pick -/
abbrev s__law_pick : Stmt := top 58
theorem sc__law_pick : FnScope ["pen", "some"] ["pen", "some"] (defScope s__law_pick) := ⟨rfl, rfl, rfl, by decide +kernel, rfl, by decide +kernel, by decide +kernel⟩
def g__law_pick (CL : Addr) (a_HEADS : Addr) : G := (gRet (mOp gIx (fVar false 1) (mCall (m__law_draw CL a_HEADS) (fCons (fVar true 0) (fCons (mCB gLen (fCons (fVar false 1) fNil)) fNil)))))
def m__law_pick (CL : Addr) (a_HEADS : Addr) : Mir := mirOf (g__law_pick CL a_HEADS) 2 2

theorem fd__law_pick {f : Addr} {fd : FuncData} {CL a_HEADS : Addr} (T : Txt K mg CL a_HEADS) (F : L2.Fun K "_law_pick" "_law_pick" s__law_pick f fd) (hm : mg "_law_pick" = some (.ref f)) (C__law_draw : Fd P w K mg base 1 "_law_draw" 2 (m__law_draw CL a_HEADS)) : Fd P w K mg base 2 "_law_pick" 2 (m__law_pick CL a_HEADS) :=
  fd_of F hm (F.binds (ps := ["pen", "some"]) fun _ _ _ _ _ _ us hl => match us, hl with | [_, _], _ => rfl) sc__law_pick rfl rfl fun cdv A outer s H E hr => by
    have hu := hr.units
    have hN := sc__law_pick.nd
    exact ⟨_, (dss_one (ds_ret (de_ix hu (dv 1) (de_call (Fd.fn C__law_draw hr) (by rfl) (da_cons (dv 0) (da_cons (de_callB call_len3 (v_len (q1 := false)) (by rfl) T.b_len (by decide +kernel) (da_cons (dv 1) da_nil)) da_nil)) (lng_cons (lng_cons lng_nil))))))⟩

/-! ### _law_shuffled -/
abbrev s__law_shuffled : Stmt := top 59
theorem sc__law_shuffled : FnScope ["pen", "some", "left", "found", "lap"] ["pen", "some"] (defScope s__law_shuffled) := ⟨rfl, rfl, rfl, by decide +kernel, rfl, by decide +kernel, by decide +kernel⟩
def g__law_shuffled (CL : Addr) (a_HEADS : Addr) : G := (gSeq (gParOO 2 3 (mCBF gListA (fCons (fVar false 1) fNil)) (fBound fNil))
    (gSeq (gFor (.nm 4) (mRg rg1 (fCons (mCB gLen (fCons (fVar false 1) fNil)) fNil)) (gAppPop 3 2 (mCall (m__law_draw CL a_HEADS) (fCons (fVar true 0) (fCons (mCB gLen (fCons (fVar false 2) fNil)) fNil)))))
    (gRet (fVar true 3))))
def m__law_shuffled (CL : Addr) (a_HEADS : Addr) : Mir := mirOf (g__law_shuffled CL a_HEADS) 2 5

theorem fd__law_shuffled {f : Addr} {fd : FuncData} {CL a_HEADS : Addr} (T : Txt K mg CL a_HEADS) (F : L2.Fun K "_law_shuffled" "_law_shuffled" s__law_shuffled f fd) (hm : mg "_law_shuffled" = some (.ref f)) (C__law_draw : Fd P w K mg base 1 "_law_draw" 2 (m__law_draw CL a_HEADS)) : Fd P w K mg base 2 "_law_shuffled" 2 (m__law_shuffled CL a_HEADS) :=
  fd_of F hm (F.binds (ps := ["pen", "some"]) fun _ _ _ _ _ _ us hl => match us, hl with | [_, _], _ => rfl) sc__law_shuffled rfl rfl fun cdv A outer s H E hr => by
    have hu := hr.units
    have hN := sc__law_shuffled.nd
    exact ⟨_, (dss_cons (ds_parOO (i := 2) (j := 3) (by rfl) hN (df_callTy (call_listA (by rfl)) (vf_listA (q1 := false)) (by rfl) T.b_list (by decide +kernel) (da_cons (dv 1) da_nil)) (df_lst da_nil))
    (dss_cons (ds_for PassesOwn.never (by rfl) (dit_range1 (by rfl) T.b_range (da_cons (de_callB call_len3 (v_len (q1 := false)) (by rfl) T.b_len (by decide +kernel) (da_cons (dv 1) da_nil)) da_nil)) (dg_name (i := 4) hN) (dss_one (ds_appPop 3 2 (by decide) (de_call (Fd.fn C__law_draw hr) (by rfl) (da_cons (dv 0) (da_cons (de_callB call_len3 (v_len (q1 := false)) (by rfl) T.b_len (by decide +kernel) (da_cons (dv 2) da_nil)) da_nil)) (lng_cons (lng_cons lng_nil))))))
    (dss_one (ds_ret (dv 3)))))⟩

/-! ### _law_unlike -/
abbrev s__law_unlike : Stmt := top 60
theorem sc__law_unlike : FnScope ["row", "some", "at"] ["row"] (defScope s__law_unlike) := ⟨rfl, rfl, rfl, by decide +kernel, rfl, by decide +kernel, by decide +kernel⟩
def g__law_unlike (CL : Addr) (a_HEADS : Addr) : G := (gSeq (gBind (mLst (mCBF gSortI (fCons (fVar false 0) fNil))) (kPut (.nm 1)))
    (gRet (mLst (mLc [2] (.nm 2) (mRg rg1 (fCons (mCB gLen (fCons (fVar false 1) fNil)) fNil)) (mOr (mB (mOp gEq (fVar false 2) (fC (.int (0))))) (mB (mOp gNe (mOp gIx (fVar false 1) (fVar false 2)) (mOp gIx (fVar false 1) (mOp DL.gSub (fVar false 2) (fC (.int (1)))))))) (mOp gIx (fVar false 1) (fVar false 2))))))
def m__law_unlike (CL : Addr) (a_HEADS : Addr) : Mir := mirOf (g__law_unlike CL a_HEADS) 1 3

theorem fd__law_unlike {f : Addr} {fd : FuncData} {CL a_HEADS : Addr} (T : Txt K mg CL a_HEADS) (F : L2.Fun K "_law_unlike" "_law_unlike" s__law_unlike f fd) (hm : mg "_law_unlike" = some (.ref f)) : Fd P w K mg base 1 "_law_unlike" 1 (m__law_unlike CL a_HEADS) :=
  fd_of F hm (F.binds (ps := ["row"]) fun _ _ _ _ _ _ us hl => match us, hl with | [_], _ => rfl) sc__law_unlike rfl rfl fun cdv A outer s H E hr => by
    have hu := hr.units
    have hN := sc__law_unlike.nd
    exact ⟨_, (dss_cons (ds_set (i := 1) hN (DF.de (df_callB cr_sortedI (vf_sortI (q1 := false)) (by rfl) T.b_sorted (by decide +kernel) (da_cons (dv 0) da_nil))))
    (dss_one (ds_ret (DF.de (df_lc (q := false) (own := [("at", 2)]) (w := (iRng1 (tCons (tCB (rLen3 K) (tCons (tVar 1) tNil)) tNil))) (g := (gName 2)) (tt := (tOr (tTest (tOp (rEqP K) (tVar 2) (tC (.int (0))))) (tTest (tOp (rNeP K) (tOp (rIx5 K) (tVar 1) (tVar 2)) (tOp (rIx5 K) (tVar 1) (tOp xSub (tVar 2) (tC (.int (1))))))))) (te := (tOp (rIx5 K) (tVar 1) (tVar 2))) (by rfl) hN (dit_range1 (by rfl) T.b_range (da_cons (de_callB call_len3 (v_len (q1 := false)) (by rfl) T.b_len (by decide +kernel) (da_cons (dv 1) da_nil)) da_nil)) (blkOk_by (by kernel_rfl)) (fun _ _ _ _ _ => (dg_name (i := 2) hN)) (fun _ _ _ _ _ => (dts_one (DW.dt (dw_or (dt_cmpR (op_eqP hu) (v_eq (q1 := false) (q2 := false)) (dv 2) dc_int (by rfl)) (dw_or1 (dt_cmpR (op_neP hu) (v_ne (q1 := false) (q2 := false)) (de_ix hu (dv 1) (dv 2)) (de_ix hu (dv 1) (de_op op_sub (v_sub (q1 := false) (q2 := false)) (dv 2) dc_int)) (by rfl))))))) (fun _ _ _ _ _ => (de_ix hu (dv 1) (dv 2))))))))⟩

/-! ### _law_letters -/
abbrev s__law_letters : Stmt := top 61
theorem sc__law_letters : FnScope ["pen"] ["pen"] (defScope s__law_letters) := ⟨rfl, rfl, rfl, by decide +kernel, rfl, by decide +kernel, by decide +kernel⟩
def g__law_letters (CL : Addr) (a_HEADS : Addr) : G := (gRet (mJoin (fC (.str "")) (mSl (mCall (m__law_shuffled CL a_HEADS) (fCons (fVar true 0) (fCons (mLst (mCBF gListA (fCons (fC (.str "abcxy")) fNil))) fNil))) fNoPart (fPart (mOp gAdd (fC (.int (1))) (mCall (m__law_draw CL a_HEADS) (fCons (fVar true 0) (fCons (fC (.int (3))) fNil))))))))
def m__law_letters (CL : Addr) (a_HEADS : Addr) : Mir := mirOf (g__law_letters CL a_HEADS) 1 1

theorem fd__law_letters {f : Addr} {fd : FuncData} {CL a_HEADS : Addr} (T : Txt K mg CL a_HEADS) (F : L2.Fun K "_law_letters" "_law_letters" s__law_letters f fd) (hm : mg "_law_letters" = some (.ref f)) (C__law_draw : Fd P w K mg base 1 "_law_draw" 2 (m__law_draw CL a_HEADS)) (C__law_shuffled : Fd P w K mg base 2 "_law_shuffled" 2 (m__law_shuffled CL a_HEADS)) : Fd P w K mg base 3 "_law_letters" 1 (m__law_letters CL a_HEADS) :=
  fd_of F hm (F.binds (ps := ["pen"]) fun _ _ _ _ _ _ us hl => match us, hl with | [_], _ => rfl) sc__law_letters rfl rfl fun cdv A outer s H E hr => by
    have hu := hr.units
    have hN := sc__law_letters.nd
    exact ⟨_, (dss_one (ds_ret (de_join dc_str (de_slice (de_call (Fd.fn C__law_shuffled hr) (by rfl) (da_cons (dv 0) (da_cons (DF.de (df_callTy (call_listA (by rfl)) (vf_listA (q1 := false)) (by rfl) T.b_list (by decide +kernel) (da_cons dc_str da_nil))) da_nil)) (lng_cons (lng_cons lng_nil))) do_none (do_some (de_op op_add4 (v_add (q1 := false) (q2 := false)) dc_int (de_call (Fd.fn C__law_draw hr) (by rfl) (da_cons (dv 0) (da_cons dc_int da_nil)) (lng_cons (lng_cons lng_nil)))))))))⟩

/-! ### _law_drawn_term -/
abbrev s__law_drawn_term : Stmt := top 62
theorem sc__law_drawn_term : FnScope ["pen", "letters", "deep"] ["pen", "letters", "deep"] (defScope s__law_drawn_term) := ⟨rfl, rfl, rfl, by decide +kernel, rfl, by decide +kernel, by decide +kernel⟩
def g__law_drawn_term (CL : Addr) (a_HEADS : Addr) (rec : Mir) : G := (gSeq (gIf (mOr (mB (mOp gEq (fVar false 2) (fC (.int (0))))) (mB (mOp gEq (mCall (m__law_draw CL a_HEADS) (fCons (fVar true 0) (fCons (fC (.int (4))) fNil))) (fC (.int (0)))))) (gRet (mCall (m__law_pick CL a_HEADS) (fCons (fVar true 0) (fCons (mLst (mCBF gListA (fCons (fVar false 1) fNil))) fNil)))) DL.gNil)
    (gRet (mTup (fCons (mCall (m__law_pick CL a_HEADS) (fCons (fVar true 0) (fCons (mLst (fBound (fCons (fC (.str "both")) (fCons (fC (.str "either")) fNil)))) fNil))) (fCons (mCall rec (fCons (fVar true 0) (fCons (fVar true 1) (fCons (mOp DL.gSub (fVar false 2) (fC (.int (1)))) fNil)))) (fCons (mCall rec (fCons (fVar true 0) (fCons (fVar true 1) (fCons (mOp DL.gSub (fVar false 2) (fC (.int (1)))) fNil)))) fNil))))))
def m__law_drawn_term (CL : Addr) (a_HEADS : Addr) (rec : Mir) : Mir := mirOf (g__law_drawn_term CL a_HEADS rec) 3 3

theorem fd__law_drawn_term {f : Addr} {fd : FuncData} {CL a_HEADS : Addr} {rec : Mir} (T : Txt K mg CL a_HEADS) (F : L2.Fun K "_law_drawn_term" "_law_drawn_term" s__law_drawn_term f fd) (hm : mg "_law_drawn_term" = some (.ref f)) (C__law_draw : Fd P w K mg base 1 "_law_draw" 2 (m__law_draw CL a_HEADS)) (C__law_pick : Fd P w K mg base 2 "_law_pick" 2 (m__law_pick CL a_HEADS)) {k : Nat} (hk : 2 ≤ k) (C__law_drawn_term : Fd P w K mg base k "_law_drawn_term" 3 rec) : Fd P w K mg base (k + 1) "_law_drawn_term" 3 (m__law_drawn_term CL a_HEADS rec) :=
  fd_of F hm (F.binds (ps := ["pen", "letters", "deep"]) fun _ _ _ _ _ _ us hl => match us, hl with | [_, _, _], _ => rfl) sc__law_drawn_term rfl rfl fun cdv A outer s H E hr => by
    have hu := hr.units
    have hN := sc__law_drawn_term.nd
    exact ⟨_, (dss_cons (ds_if (DW.dt (dw_or (dt_cmpR (op_eqP hu) (v_eq (q1 := false) (q2 := false)) (dv 2) dc_int (by rfl)) (dw_or1 (dt_cmpR (op_eqP hu) (v_eq (q1 := false) (q2 := false)) (de_call (Fd.fn C__law_draw hr (by omega)) (by rfl) (da_cons (dv 0) (da_cons dc_int da_nil)) (lng_cons (lng_cons lng_nil))) dc_int (by rfl))))) (dss_one (ds_ret (de_call (Fd.fn C__law_pick hr (by omega)) (by rfl) (da_cons (dv 0) (da_cons (DF.de (df_callTy (call_listA (by rfl)) (vf_listA (q1 := false)) (by rfl) T.b_list (by decide +kernel) (da_cons (dv 1) da_nil))) da_nil)) (lng_cons (lng_cons lng_nil))))) dss_nil)
    (dss_one (ds_ret (de_tup (da_cons (de_call (Fd.fn C__law_pick hr (by omega)) (by rfl) (da_cons (dv 0) (da_cons (DF.de (df_lst (da_cons dc_str (da_cons dc_str da_nil)))) da_nil)) (lng_cons (lng_cons lng_nil))) (da_cons (de_call (Fd.fn C__law_drawn_term hr (Nat.le_refl _)) (by rfl) (da_cons (dv 0) (da_cons (dv 1) (da_cons (de_op op_sub (v_sub (q1 := false) (q2 := false)) (dv 2) dc_int) da_nil))) (lng_cons (lng_cons (lng_cons lng_nil)))) (da_cons (de_call (Fd.fn C__law_drawn_term hr (Nat.le_refl _)) (by rfl) (da_cons (dv 0) (da_cons (dv 1) (da_cons (de_op op_sub (v_sub (q1 := false) (q2 := false)) (dv 2) dc_int) da_nil))) (lng_cons (lng_cons (lng_cons lng_nil)))) da_nil)))))))⟩

def md__law_drawn_term (CL : Addr) (a_HEADS : Addr) : Nat → Mir
  | 0 => fun _ _ => none
  | d + 1 => m__law_drawn_term CL a_HEADS (md__law_drawn_term CL a_HEADS d)
theorem fdd__law_drawn_term {f : Addr} {fd : FuncData} {CL a_HEADS : Addr} (T : Txt K mg CL a_HEADS) (F : L2.Fun K "_law_drawn_term" "_law_drawn_term" s__law_drawn_term f fd) (hm : mg "_law_drawn_term" = some (.ref f)) (C__law_draw : Fd P w K mg base 1 "_law_draw" 2 (m__law_draw CL a_HEADS)) (C__law_pick : Fd P w K mg base 2 "_law_pick" 2 (m__law_pick CL a_HEADS)) : ∀ d : Nat, Fd P w K mg base (2 + d) "_law_drawn_term" 3 (md__law_drawn_term CL a_HEADS d)
  | 0 => fd_none F hm (F.binds (ps := ["pen", "letters", "deep"]) fun _ _ _ _ _ _ us hl => match us, hl with | [_, _, _], _ => rfl) rfl
  | d + 1 => fd__law_drawn_term T F hm C__law_draw C__law_pick (Nat.le_add_right _ _) (fdd__law_drawn_term T F hm C__law_draw C__law_pick d)

/-! ### _law_closed -/
abbrev s__law_closed : Stmt := top 63
theorem sc__law_closed : FnScope ["pairs", "many", "below", "lap", "one", "other", "at", "row"] ["pairs", "many"] (defScope s__law_closed) := ⟨rfl, rfl, rfl, by decide +kernel, rfl, by decide +kernel, by decide +kernel⟩
def g__law_closed (CL : Addr) (a_HEADS : Addr) : G := (gSeq (gBind (mLc [6] (.nm 6) (mRg rg1 (fCons (fVar true 1) fNil)) fYes (mLst (fBound (fCons (fVar true 6) fNil)))) (kOwn 2))
    (gSeq (gFor (.nm 3) (mRg rg1 (fCons (fVar true 1) fNil)) (gFor (.tp [4, 5]) (mSeq (fVar true 0)) (gSetI 2 (mCallP true (m__law_unlike CL a_HEADS) (fCons (mLst (mOpF gCat (mOp gAdd (mOp gIx (fVar false 2) (fVar false 5)) (mOp gIx (fVar false 2) (fVar false 4))) (mLst (fBound (fCons (fVar true 4) fNil))))) fNil)) (fVar true 5))))
    (gRet (mCB gTuple (fCons (mLst (mLc [7] (.nm 7) (mSeq (fVar false 2)) fYes (mCB gTuple (fCons (mLst (mCBF gSortI (fCons (fVar false 7) fNil))) fNil)))) fNil)))))
def m__law_closed (CL : Addr) (a_HEADS : Addr) : Mir := mirOf (g__law_closed CL a_HEADS) 2 8

theorem fd__law_closed {f : Addr} {fd : FuncData} {CL a_HEADS : Addr} (T : Txt K mg CL a_HEADS) (F : L2.Fun K "_law_closed" "_law_closed" s__law_closed f fd) (hm : mg "_law_closed" = some (.ref f)) (C__law_unlike : Fd P w K mg base 1 "_law_unlike" 1 (m__law_unlike CL a_HEADS)) : Fd P w K mg base 2 "_law_closed" 2 (m__law_closed CL a_HEADS) :=
  fd_of F hm (F.binds (ps := ["pairs", "many"]) fun _ _ _ _ _ _ us hl => match us, hl with | [_, _], _ => rfl) sc__law_closed rfl rfl fun cdv A outer s H E hr => by
    have hu := hr.units
    have hN := sc__law_closed.nd
    exact ⟨_, (dss_cons (ds_ownLc (q := false) (own := [("at", 6)]) (w := (iRng1 (tCons (tVar 1) tNil))) (g := (gName 6)) (tt := tYes) (te := (tLst (tCons (tVar 6) tNil))) (i := 2) (by rfl) hN (dit_range1 (by rfl) T.b_range (da_cons (dv 1) da_nil)) (blkOk_by (by kernel_rfl)) (fun _ _ _ _ _ => (dg_name (i := 6) hN)) (fun _ _ _ _ _ => dts_nil) (fun _ _ _ _ _ => (DF.de (df_lst (da_cons (dv 6) da_nil)))))
    (dss_cons (ds_for PassesOwn.never (by rfl) (dit_range1 (by rfl) T.b_range (da_cons (dv 1) da_nil)) (dg_name (i := 3) hN) (dss_one (ds_for PassesOwn.never (by rfl) (dit_seq (dv 0)) (dg_tup (by rfl) (dgs_cons (dg_name (i := 4) hN) (dgs_cons (dg_name (i := 5) hN) dgs_nil))) (dss_one (ds_setI 2 (de_callP (q1 := true) (Fd.fn C__law_unlike hr) (by rfl) (da_cons (DF.de (df_op op_cat (vf_cat (q1 := false) (q2 := false)) (de_op op_add4 (v_add (q1 := false) (q2 := false)) (de_ix hu (dv 2) (dv 5)) (de_ix hu (dv 2) (dv 4))) (DF.de (df_lst (da_cons (dv 4) da_nil))))) da_nil) (lng_cons lng_nil)) (dv 5))))))
    (dss_one (ds_ret (de_callTy call_tuple_of (v_tuple (q1 := false)) (by rfl) T.b_tuple (by decide +kernel) (da_cons (DF.de (df_lc (q := false) (own := [("row", 7)]) (w := (iSeq K (tVar 2))) (g := (gName 7)) (tt := tYes) (te := (tCB (xTuple K) (tCons (tCB (rSortedI K) (tCons (tVar 7) tNil)) tNil))) (by rfl) hN (dit_seq (dv 2)) (blkOk_by (by kernel_rfl)) (fun _ _ _ _ _ => (dg_name (i := 7) hN)) (fun _ _ _ _ _ => dts_nil) (fun _ _ _ _ _ => (de_callTy call_tuple_of (v_tuple (q1 := false)) (by rfl) T.b_tuple (by decide +kernel) (da_cons (DF.de (df_callB cr_sortedI (vf_sortI (q1 := false)) (by rfl) T.b_sorted (by decide +kernel) (da_cons (dv 7) da_nil))) da_nil))))) da_nil))))))⟩

/-! ### _law_known_lattices -/
abbrev s__law_known_lattices : Stmt := top 64
theorem sc__law_known_lattices : FnScope ["pairs", "name", "many", "rows"] [] (defScope s__law_known_lattices) := ⟨rfl, rfl, rfl, by decide +kernel, rfl, by decide +kernel, by decide +kernel⟩
def g__law_known_lattices (CL : Addr) (a_HEADS : Addr) : G := (gSeq (gBind (fBound (fCons (mTup (fCons (fC (.str "one")) (fCons (fC (.int (1))) (fCons (mTup fNil) fNil)))) (fCons (mTup (fCons (fC (.str "two")) (fCons (fC (.int (2))) (fCons (mTup (fCons (mTup (fCons (fC (.int (0))) (fCons (fC (.int (1))) fNil))) fNil)) fNil)))) (fCons (mTup (fCons (fC (.str "chain")) (fCons (fC (.int (4))) (fCons (mTup (fCons (mTup (fCons (fC (.int (0))) (fCons (fC (.int (1))) fNil))) (fCons (mTup (fCons (fC (.int (1))) (fCons (fC (.int (2))) fNil))) (fCons (mTup (fCons (fC (.int (2))) (fCons (fC (.int (3))) fNil))) fNil)))) fNil)))) (fCons (mTup (fCons (fC (.str "square")) (fCons (fC (.int (4))) (fCons (mTup (fCons (mTup (fCons (fC (.int (0))) (fCons (fC (.int (1))) fNil))) (fCons (mTup (fCons (fC (.int (0))) (fCons (fC (.int (2))) fNil))) (fCons (mTup (fCons (fC (.int (1))) (fCons (fC (.int (3))) fNil))) (fCons (mTup (fCons (fC (.int (2))) (fCons (fC (.int (3))) fNil))) fNil))))) fNil)))) fNil))))) (kOwn 0))
    (gSeq (gMut 0 aApp (mTup (fCons (fC (.str "diamond")) (fCons (fC (.int (5))) (fCons (mTup (fCons (mTup (fCons (fC (.int (0))) (fCons (fC (.int (1))) fNil))) (fCons (mTup (fCons (fC (.int (0))) (fCons (fC (.int (2))) fNil))) (fCons (mTup (fCons (fC (.int (0))) (fCons (fC (.int (3))) fNil))) (fCons (mTup (fCons (fC (.int (1))) (fCons (fC (.int (4))) fNil))) (fCons (mTup (fCons (fC (.int (2))) (fCons (fC (.int (4))) fNil))) (fCons (mTup (fCons (fC (.int (3))) (fCons (fC (.int (4))) fNil))) fNil))))))) fNil)))))
    (gSeq (gBind (mOpF gCat (fVar false 0) (mLst (fBound (fCons (mTup (fCons (fC (.str "pentagon")) (fCons (fC (.int (5))) (fCons (mTup (fCons (mTup (fCons (fC (.int (0))) (fCons (fC (.int (1))) fNil))) (fCons (mTup (fCons (fC (.int (1))) (fCons (fC (.int (2))) fNil))) (fCons (mTup (fCons (fC (.int (0))) (fCons (fC (.int (3))) fNil))) (fCons (mTup (fCons (fC (.int (2))) (fCons (fC (.int (4))) fNil))) (fCons (mTup (fCons (fC (.int (3))) (fCons (fC (.int (4))) fNil))) fNil)))))) fNil)))) (fCons (mTup (fCons (fC (.str "kite")) (fCons (fC (.int (5))) (fCons (mTup (fCons (mTup (fCons (fC (.int (0))) (fCons (fC (.int (1))) fNil))) (fCons (mTup (fCons (fC (.int (1))) (fCons (fC (.int (2))) fNil))) (fCons (mTup (fCons (fC (.int (1))) (fCons (fC (.int (3))) fNil))) (fCons (mTup (fCons (fC (.int (2))) (fCons (fC (.int (4))) fNil))) (fCons (mTup (fCons (fC (.int (3))) (fCons (fC (.int (4))) fNil))) fNil)))))) fNil)))) fNil))))) (kOwn 0))
    (gSeq (gMut 0 aApp (mTup (fCons (fC (.str "cube")) (fCons (fC (.int (8))) (fCons (mTup (fCons (mTup (fCons (fC (.int (0))) (fCons (fC (.int (1))) fNil))) (fCons (mTup (fCons (fC (.int (0))) (fCons (fC (.int (2))) fNil))) (fCons (mTup (fCons (fC (.int (0))) (fCons (fC (.int (3))) fNil))) (fCons (mTup (fCons (fC (.int (1))) (fCons (fC (.int (4))) fNil))) (fCons (mTup (fCons (fC (.int (1))) (fCons (fC (.int (5))) fNil))) (fCons (mTup (fCons (fC (.int (2))) (fCons (fC (.int (4))) fNil))) (fCons (mTup (fCons (fC (.int (2))) (fCons (fC (.int (6))) fNil))) (fCons (mTup (fCons (fC (.int (3))) (fCons (fC (.int (5))) fNil))) (fCons (mTup (fCons (fC (.int (3))) (fCons (fC (.int (6))) fNil))) (fCons (mTup (fCons (fC (.int (4))) (fCons (fC (.int (7))) fNil))) (fCons (mTup (fCons (fC (.int (5))) (fCons (fC (.int (7))) fNil))) (fCons (mTup (fCons (fC (.int (6))) (fCons (fC (.int (7))) fNil))) fNil))))))))))))) fNil)))))
    (gRet (mLst (mLc [1, 2, 3] (.tp [1, 2, 3]) (mSeq (fVar false 0)) fYes (mTup (fCons (fVar true 1) (fCons (mCallP true (m__law_closed CL a_HEADS) (fCons (fVar true 3) (fCons (fVar true 2) fNil))) fNil))))))))))
def m__law_known_lattices (CL : Addr) (a_HEADS : Addr) : Mir := mirOf (g__law_known_lattices CL a_HEADS) 0 4

theorem fd__law_known_lattices {f : Addr} {fd : FuncData} {CL a_HEADS : Addr} (T : Txt K mg CL a_HEADS) (F : L2.Fun K "_law_known_lattices" "_law_known_lattices" s__law_known_lattices f fd) (hm : mg "_law_known_lattices" = some (.ref f)) (C__law_closed : Fd P w K mg base 2 "_law_closed" 2 (m__law_closed CL a_HEADS)) : Fd P w K mg base 3 "_law_known_lattices" 0 (m__law_known_lattices CL a_HEADS) :=
  fd_of F hm (F.binds (ps := []) fun _ _ _ _ _ _ us hl => match us, hl with | [], _ => rfl) sc__law_known_lattices rfl rfl fun cdv A outer s H E hr => by
    have hu := hr.units
    have hN := sc__law_known_lattices.nd
    exact ⟨_, (dss_cons (ds_own (i := 0) hN (df_lst (da_cons (de_tup (da_cons dc_str (da_cons dc_int (da_cons (de_tup da_nil) da_nil)))) (da_cons (de_tup (da_cons dc_str (da_cons dc_int (da_cons (de_tup (da_cons (de_tup (da_cons dc_int (da_cons dc_int da_nil))) da_nil)) da_nil)))) (da_cons (de_tup (da_cons dc_str (da_cons dc_int (da_cons (de_tup (da_cons (de_tup (da_cons dc_int (da_cons dc_int da_nil))) (da_cons (de_tup (da_cons dc_int (da_cons dc_int da_nil))) (da_cons (de_tup (da_cons dc_int (da_cons dc_int da_nil))) da_nil)))) da_nil)))) (da_cons (de_tup (da_cons dc_str (da_cons dc_int (da_cons (de_tup (da_cons (de_tup (da_cons dc_int (da_cons dc_int da_nil))) (da_cons (de_tup (da_cons dc_int (da_cons dc_int da_nil))) (da_cons (de_tup (da_cons dc_int (da_cons dc_int da_nil))) (da_cons (de_tup (da_cons dc_int (da_cons dc_int da_nil))) da_nil))))) da_nil)))) da_nil))))))
    (dss_cons (ds_append 0 (de_tup (da_cons dc_str (da_cons dc_int (da_cons (de_tup (da_cons (de_tup (da_cons dc_int (da_cons dc_int da_nil))) (da_cons (de_tup (da_cons dc_int (da_cons dc_int da_nil))) (da_cons (de_tup (da_cons dc_int (da_cons dc_int da_nil))) (da_cons (de_tup (da_cons dc_int (da_cons dc_int da_nil))) (da_cons (de_tup (da_cons dc_int (da_cons dc_int da_nil))) (da_cons (de_tup (da_cons dc_int (da_cons dc_int da_nil))) da_nil))))))) da_nil)))))
    (dss_cons (ds_own (i := 0) hN (df_op op_cat (vf_cat (q1 := false) (q2 := false)) (dv 0) (DF.de (df_lst (da_cons (de_tup (da_cons dc_str (da_cons dc_int (da_cons (de_tup (da_cons (de_tup (da_cons dc_int (da_cons dc_int da_nil))) (da_cons (de_tup (da_cons dc_int (da_cons dc_int da_nil))) (da_cons (de_tup (da_cons dc_int (da_cons dc_int da_nil))) (da_cons (de_tup (da_cons dc_int (da_cons dc_int da_nil))) (da_cons (de_tup (da_cons dc_int (da_cons dc_int da_nil))) da_nil)))))) da_nil)))) (da_cons (de_tup (da_cons dc_str (da_cons dc_int (da_cons (de_tup (da_cons (de_tup (da_cons dc_int (da_cons dc_int da_nil))) (da_cons (de_tup (da_cons dc_int (da_cons dc_int da_nil))) (da_cons (de_tup (da_cons dc_int (da_cons dc_int da_nil))) (da_cons (de_tup (da_cons dc_int (da_cons dc_int da_nil))) (da_cons (de_tup (da_cons dc_int (da_cons dc_int da_nil))) da_nil)))))) da_nil)))) da_nil))))))
    (dss_cons (ds_append 0 (de_tup (da_cons dc_str (da_cons dc_int (da_cons (de_tup (da_cons (de_tup (da_cons dc_int (da_cons dc_int da_nil))) (da_cons (de_tup (da_cons dc_int (da_cons dc_int da_nil))) (da_cons (de_tup (da_cons dc_int (da_cons dc_int da_nil))) (da_cons (de_tup (da_cons dc_int (da_cons dc_int da_nil))) (da_cons (de_tup (da_cons dc_int (da_cons dc_int da_nil))) (da_cons (de_tup (da_cons dc_int (da_cons dc_int da_nil))) (da_cons (de_tup (da_cons dc_int (da_cons dc_int da_nil))) (da_cons (de_tup (da_cons dc_int (da_cons dc_int da_nil))) (da_cons (de_tup (da_cons dc_int (da_cons dc_int da_nil))) (da_cons (de_tup (da_cons dc_int (da_cons dc_int da_nil))) (da_cons (de_tup (da_cons dc_int (da_cons dc_int da_nil))) (da_cons (de_tup (da_cons dc_int (da_cons dc_int da_nil))) da_nil))))))))))))) da_nil)))))
    (dss_one (ds_ret (DF.de (df_lc (q := false) (own := [("name", 1), ("many", 2), ("rows", 3)]) (w := (iSeq K (tVar 0))) (g := (gTup K 3 (gCons (gName 1) (gCons (gName 2) (gCons (gName 3) L2.gNil))))) (tt := tYes) (te := (tTup (tCons (tVar 1) (tCons (tCall (spD K 2 (m__law_closed CL a_HEADS)) [] L2.E0 (tCons (tVar 3) (tCons (tVar 2) tNil))) tNil)))) (by rfl) hN (dit_seq (dv 0)) (blkOk_by (by kernel_rfl)) (fun _ _ _ _ _ => (dg_tup (by rfl) (dgs_cons (dg_name (i := 1) hN) (dgs_cons (dg_name (i := 2) hN) (dgs_cons (dg_name (i := 3) hN) dgs_nil))))) (fun _ _ _ _ _ => dts_nil) (fun _ _ _ _ _ => (de_tup (da_cons (dv 1) (da_cons (de_callP (q1 := true) (Fd.fn C__law_closed hr) (by rfl) (da_cons (dv 3) (da_cons (dv 2) da_nil)) (lng_cons (lng_cons lng_nil))) da_nil))))))))))))⟩

/-! ### _law_led_rows -/
abbrev s__law_led_rows : Stmt := top 65
theorem sc__law_led_rows : FnScope ["rows", "images", "found", "at", "row", "one"] ["rows", "images"] (defScope s__law_led_rows) := ⟨rfl, rfl, rfl, by decide +kernel, rfl, by decide +kernel, by decide +kernel⟩
def g__law_led_rows (CL : Addr) (a_HEADS : Addr) : G := (gSeq (gBind (mOpF gRep (mLst (fBound (fCons (mTup fNil) fNil))) (mCB gLen (fCons (fVar false 0) fNil))) (kOwn 2))
    (gSeq (gFor (.tp [3, 4]) (mRg enD (fCons (fVar true 0) fNil)) (gSetI 2 (mCB gTuple (fCons (mLst (mCBF gSortI (fCons (mLst (mLc [5] (.nm 5) (mSeq (fVar false 4)) fYes (mOp gIx (fVar false 1) (fVar false 5)))) fNil))) fNil)) (mOp gIx (fVar false 1) (fVar false 3))))
    (gRet (mCB gTuple (fCons (fVar false 2) fNil)))))
def m__law_led_rows (CL : Addr) (a_HEADS : Addr) : Mir := mirOf (g__law_led_rows CL a_HEADS) 2 6

theorem fd__law_led_rows {f : Addr} {fd : FuncData} {CL a_HEADS : Addr} (T : Txt K mg CL a_HEADS) (F : L2.Fun K "_law_led_rows" "_law_led_rows" s__law_led_rows f fd) (hm : mg "_law_led_rows" = some (.ref f)) : Fd P w K mg base 1 "_law_led_rows" 2 (m__law_led_rows CL a_HEADS) :=
  fd_of F hm (F.binds (ps := ["rows", "images"]) fun _ _ _ _ _ _ us hl => match us, hl with | [_, _], _ => rfl) sc__law_led_rows rfl rfl fun cdv A outer s H E hr => by
    have hu := hr.units
    have hN := sc__law_led_rows.nd
    exact ⟨_, (dss_cons (ds_own (i := 2) hN (df_op op_rep (vf_rep (q1 := false) (q2 := false)) (DF.de (df_lst (da_cons (de_tup da_nil) da_nil))) (de_callB call_len3 (v_len (q1 := false)) (by rfl) T.b_len (by decide +kernel) (da_cons (dv 0) da_nil))))
    (dss_cons (ds_for PassesOwn.never (by rfl) (dit_enum (by rfl) T.b_enumerate (da_cons (dv 0) da_nil)) (dg_tup (by rfl) (dgs_cons (dg_name (i := 3) hN) (dgs_cons (dg_name (i := 4) hN) dgs_nil))) (dss_one (ds_setI 2 (de_callTy call_tuple_of (v_tuple (q1 := false)) (by rfl) T.b_tuple (by decide +kernel) (da_cons (DF.de (df_callB cr_sortedI (vf_sortI (q1 := false)) (by rfl) T.b_sorted (by decide +kernel) (da_cons (DF.de (df_lc (q := false) (own := [("one", 5)]) (w := (iSeq K (tVar 4))) (g := (gName 5)) (tt := tYes) (te := (tOp (rIx5 K) (tVar 1) (tVar 5))) (by rfl) hN (dit_seq (dv 4)) (blkOk_by (by kernel_rfl)) (fun _ _ _ _ _ => (dg_name (i := 5) hN)) (fun _ _ _ _ _ => dts_nil) (fun _ _ _ _ _ => (de_ix hu (dv 1) (dv 5))))) da_nil))) da_nil)) (de_ix hu (dv 1) (dv 3)))))
    (dss_one (ds_ret (de_callTy call_tuple_of (v_tuple (q1 := false)) (by rfl) T.b_tuple (by decide +kernel) (da_cons (dv 2) da_nil))))))⟩

/-! ### _law_lattice -/
abbrev s__law_lattice : Stmt := top 66
theorem sc__law_lattice : FnScope ["pen", "rows"] ["pen"] (defScope s__law_lattice) := ⟨rfl, rfl, rfl, by decide +kernel, rfl, by decide +kernel, by decide +kernel⟩
def g__law_lattice (CL : Addr) (a_HEADS : Addr) : G := (gSeq (gBind (mOp gIx (mCall (m__law_pick CL a_HEADS) (fCons (fVar true 0) (fCons (mCall (m__law_known_lattices CL a_HEADS) fNil) fNil))) (fC (.int (1)))) (kPut (.nm 1)))
    (gRet (mCallP true (m__law_led_rows CL a_HEADS) (fCons (fVar true 1) (fCons (mCall (m__law_shuffled CL a_HEADS) (fCons (fVar true 0) (fCons (mLst (fRgL (fRg1 (mCB gLen (fCons (fVar false 1) fNil))))) fNil))) fNil)))))
def m__law_lattice (CL : Addr) (a_HEADS : Addr) : Mir := mirOf (g__law_lattice CL a_HEADS) 1 2

theorem fd__law_lattice {f : Addr} {fd : FuncData} {CL a_HEADS : Addr} (T : Txt K mg CL a_HEADS) (F : L2.Fun K "_law_lattice" "_law_lattice" s__law_lattice f fd) (hm : mg "_law_lattice" = some (.ref f)) (C__law_known_lattices : Fd P w K mg base 3 "_law_known_lattices" 0 (m__law_known_lattices CL a_HEADS)) (C__law_led_rows : Fd P w K mg base 1 "_law_led_rows" 2 (m__law_led_rows CL a_HEADS)) (C__law_pick : Fd P w K mg base 2 "_law_pick" 2 (m__law_pick CL a_HEADS)) (C__law_shuffled : Fd P w K mg base 2 "_law_shuffled" 2 (m__law_shuffled CL a_HEADS)) : Fd P w K mg base 4 "_law_lattice" 1 (m__law_lattice CL a_HEADS) :=
  fd_of F hm (F.binds (ps := ["pen"]) fun _ _ _ _ _ _ us hl => match us, hl with | [_], _ => rfl) sc__law_lattice rfl rfl fun cdv A outer s H E hr => by
    have hu := hr.units
    have hN := sc__law_lattice.nd
    exact ⟨_, (dss_cons (ds_set (i := 1) hN (de_ix hu (de_call (Fd.fn C__law_pick hr) (by rfl) (da_cons (dv 0) (da_cons (de_call0 (Fd.fn C__law_known_lattices hr) (by rfl)) da_nil)) (lng_cons (lng_cons lng_nil))) dc_int))
    (dss_one (ds_ret (de_callP (q1 := true) (Fd.fn C__law_led_rows hr) (by rfl) (da_cons (dv 1) (da_cons (de_call (Fd.fn C__law_shuffled hr) (by rfl) (da_cons (dv 0) (da_cons (DF.de (df_listRg (by rfl) (by rfl) T.b_list (drg_1 (by rfl) T.b_range (de_callB call_len3 (v_len (q1 := false)) (by rfl) T.b_len (by decide +kernel) (da_cons (dv 1) da_nil))))) da_nil)) (lng_cons (lng_cons lng_nil))) da_nil)) (lng_cons (lng_cons lng_nil))))))⟩

/-! ### law -/
abbrev s_law : Stmt := top 67
theorem sc_law : FnScope ["script", "pen", "lap", "rows", "letters", "made", "many", "turned", "turn", "one", "two", "three", "both", "either", "less", "images", "more", "over", "term", "other", "value", "terms", "led", "small", "order", "there", "at", "lap2", "sign", "first", "second"] ["script"] (defScope s_law) := ⟨rfl, rfl, rfl, by decide +kernel, rfl, by decide +kernel, by decide +kernel⟩
def g_law (CL : Addr) (a_HEADS : Addr) : G := (gSeq (gFor (.nm 2) (mRg rg1 (fCons (fC (.int (4))) fNil)) (gSeq (gBind (mTup (fCons (mCall (m__law_lattice CL a_HEADS) (fCons (fVar true 1) fNil)) (fCons (mCall (m__law_letters CL a_HEADS) (fCons (fVar true 1) fNil)) fNil))) (kPut (.tp [3, 4])))
    (gSeq (gBind (mTup (fCons (mMake CL (mk_Lattice CL a_HEADS) (fCons (fVar true 3) fNil)) (fCons (mCB gLen (fCons (fVar false 3) fNil)) fNil))) (kPut (.tp [5, 6])))
    (gSeq (gBind (mCallP true (m_turned_lattice CL a_HEADS) (fCons (fVar true 5) fNil)) (kPut (.nm 7)))
    (gSeq (gFor (.nm 8) (mRg rg1 (fCons (fC (.int (6))) fNil)) (gSeq (gBind (mLst (mLc [26] (.nm 26) (mRg rg1 (fCons (fC (.int (3))) fNil)) fYes (mCall (m__law_draw CL a_HEADS) (fCons (fVar true 1) (fCons (fVar true 6) fNil))))) (kPut (.ls [9, 10, 11])))
    (gSeq (gPar 12 13 (mCallP true (m_both_of CL a_HEADS) (fCons (fVar true 5) (fCons (fVar true 9) (fCons (fVar true 10) fNil)))) (mCallP true (m_either_of CL a_HEADS) (fCons (fVar true 5) (fCons (fVar true 9) (fCons (fVar true 10) fNil)))))
    (gSeq (gIf (mOr (mB (mOp gNe (fVar false 12) (mCallP true (m_both_of CL a_HEADS) (fCons (fVar true 5) (fCons (fVar true 10) (fCons (fVar true 9) fNil)))))) (mOr (mB (mOp gNe (fVar false 13) (mCallP true (m_either_of CL a_HEADS) (fCons (fVar true 5) (fCons (fVar true 10) (fCons (fVar true 9) fNil)))))) (mOr (mB (mOp gNe (mCallP true (m_both_of CL a_HEADS) (fCons (fVar true 5) (fCons (fVar true 9) (fCons (fVar true 13) fNil)))) (fVar false 9))) (mB (mOp gNe (mCallP true (m_either_of CL a_HEADS) (fCons (fVar true 5) (fCons (fVar true 9) (fCons (fVar true 12) fNil)))) (fVar false 9)))))) (gRet (fC (.bl false))) DL.gNil)
    (gSeq (gIf (mOr (mB (mOp gNe (mCallP true (m_both_of CL a_HEADS) (fCons (fVar true 5) (fCons (fVar true 12) (fCons (fVar true 11) fNil)))) (mCallP true (m_both_of CL a_HEADS) (fCons (fVar true 5) (fCons (fVar true 9) (fCons (mCallP true (m_both_of CL a_HEADS) (fCons (fVar true 5) (fCons (fVar true 10) (fCons (fVar true 11) fNil)))) fNil)))))) (mB (mOp gNe (mCallP true (m_either_of CL a_HEADS) (fCons (fVar true 5) (fCons (fVar true 13) (fCons (fVar true 11) fNil)))) (mCallP true (m_either_of CL a_HEADS) (fCons (fVar true 5) (fCons (fVar true 9) (fCons (mCallP true (m_either_of CL a_HEADS) (fCons (fVar true 5) (fCons (fVar true 10) (fCons (fVar true 11) fNil)))) fNil))))))) (gRet (fC (.bl false))) DL.gNil)
    (gSeq (gBind (mCallP true (m_is_at_most CL a_HEADS) (fCons (fVar true 5) (fCons (fVar true 9) (fCons (fVar true 10) fNil)))) (kPut (.nm 14)))
    (gIf (mOr (mB (mOp gNe (fVar false 14) (mOp gEq (fVar false 12) (fVar false 9)))) (mOr (mB (mOp gNe (fVar false 14) (mOp gEq (fVar false 13) (fVar false 10)))) (mAnd (mTru (fVar false 14)) (mNot (mTru (mCallP true (m_is_at_most CL a_HEADS) (fCons (fVar true 5) (fCons (mCallP true (m_both_of CL a_HEADS) (fCons (fVar true 5) (fCons (fVar true 9) (fCons (fVar true 11) fNil)))) (fCons (mCallP true (m_both_of CL a_HEADS) (fCons (fVar true 5) (fCons (fVar true 10) (fCons (fVar true 11) fNil)))) fNil))))))))) (gRet (fC (.bl false))) DL.gNil)))))))
    (gSeq (gBind (mLst (mLc [27] (.nm 27) (mRg rg1 (fCons (fC (.int (2))) fNil)) fYes (mCB gTuple (fCons (mLst (mLc [28] (.nm 28) (mSeq (fVar false 4)) fYes (mCall (m__law_draw CL a_HEADS) (fCons (fVar true 1) (fCons (fVar true 6) fNil))))) fNil)))) (kPut (.ls [15, 16])))
    (gSeq (gBind (mCB gTuple (fCons (mLst (mLc [29, 30] (.tp [29, 30]) (mRg zpD (fCons (fVar false 15) (fCons (fVar false 16) fNil))) fYes (mCallP true (m_either_of CL a_HEADS) (fCons (fVar true 5) (fCons (fVar true 29) (fCons (fVar true 30) fNil)))))) fNil)) (kPut (.nm 17)))
    (gSeq (gPar 18 19 (mCall (md__law_drawn_term CL a_HEADS 5) (fCons (fVar true 1) (fCons (fVar true 4) (fCons (fC (.int (3))) fNil)))) (mCall (md__law_drawn_term CL a_HEADS 5) (fCons (fVar true 1) (fCons (fVar true 4) (fCons (fC (.int (2))) fNil)))))
    (gSeq (gBind (mCallP true (m_term_value CL a_HEADS) (fCons (fVar true 4) (fCons (fVar true 5) (fCons (fVar true 15) (fCons (fVar true 18) fNil))))) (kPut (.nm 20)))
    (gSeq (gIf (mOr (mNot (mTru (mCallP true (m_is_at_most CL a_HEADS) (fCons (fVar true 5) (fCons (fVar true 20) (fCons (mCallP true (m_term_value CL a_HEADS) (fCons (fVar true 4) (fCons (fVar true 5) (fCons (fVar true 17) (fCons (fVar true 18) fNil))))) fNil)))))) (mB (mOp gNe (mCallP true (m_term_value CL a_HEADS) (fCons (fVar true 4) (fCons (fVar true 7) (fCons (fVar true 15) (fCons (mCallP true (m_turned_term CL a_HEADS) (fCons (fVar true 4) (fCons (fVar true 18) fNil))) fNil))))) (fVar false 20)))) (gRet (fC (.bl false))) DL.gNil)
    (gSeq (gIf (mB (mOp gNe (mCallP true (m_is_so CL a_HEADS) (fCons (fVar true 4) (fCons (fVar true 7) (fCons (fVar true 15) (fCons (mCallP true (m_turned_term CL a_HEADS) (fCons (fVar true 4) (fCons (fVar true 19) fNil))) (fCons (mCallP true (m_turned_term CL a_HEADS) (fCons (fVar true 4) (fCons (fVar true 18) fNil))) fNil)))))) (mCallP true (m_is_so CL a_HEADS) (fCons (fVar true 4) (fCons (fVar true 5) (fCons (fVar true 15) (fCons (fVar true 18) (fCons (fVar true 19) fNil)))))))) (gRet (fC (.bl false))) DL.gNil)
    (gSeq (gBind (mCB gTuple (fCons (mLst (mLc [28] (.nm 28) (mSeq (fVar false 4)) fYes (mCall (md__law_drawn_term CL a_HEADS 5) (fCons (fVar true 1) (fCons (fVar true 4) (fCons (fC (.int (1))) fNil)))))) fNil)) (kPut (.nm 21)))
    (gSeq (gBind (mCB gTuple (fCons (mLst (mLc [9] (.nm 9) (mSeq (fVar false 21)) fYes (mCallP true (m_term_value CL a_HEADS) (fCons (fVar true 4) (fCons (fVar true 5) (fCons (fVar true 15) (fCons (fVar true 9) fNil))))))) fNil)) (kPut (.nm 22)))
    (gSeq (gBind (mCall (md__law_drawn_term CL a_HEADS 5) (fCons (fVar true 1) (fCons (fVar true 4) (fCons (fC (.int (2))) fNil)))) (kPut (.nm 23)))
    (gSeq (gIf (mB (mOp gNe (mCallP true (m_term_value CL a_HEADS) (fCons (fVar true 4) (fCons (fVar true 5) (fCons (fVar true 15) (fCons (mCallP true (m_put_in CL a_HEADS) (fCons (fVar true 4) (fCons (fVar true 23) (fCons (fVar true 21) fNil)))) fNil))))) (mCallP true (m_term_value CL a_HEADS) (fCons (fVar true 4) (fCons (fVar true 5) (fCons (fVar true 22) (fCons (fVar true 23) fNil))))))) (gRet (fC (.bl false))) DL.gNil)
    (gSeq (gBind (mCall (m__law_shuffled CL a_HEADS) (fCons (fVar true 1) (fCons (mLst (fRgL (fRg1 (fVar false 6)))) fNil))) (kPut (.nm 24)))
    (gSeq (gBind (mMake CL (mk_Lattice CL a_HEADS) (fCons (mCallP true (m__law_led_rows CL a_HEADS) (fCons (fVar true 3) (fCons (fVar true 24) fNil))) fNil)) (kPut (.nm 25)))
    (gIf (mB (mOp gNe (mCallP true (m_term_value CL a_HEADS) (fCons (fVar true 4) (fCons (fVar true 25) (fCons (mCB gTuple (fCons (mLst (mLc [9] (.nm 9) (mSeq (fVar false 15)) fYes (mOp gIx (fVar false 24) (fVar false 9)))) fNil)) (fCons (fVar true 18) fNil))))) (mOp gIx (fVar false 24) (fVar false 20)))) (gRet (fC (.bl false))) DL.gNil))))))))))))))))))
    (gRet (fC (.bl true))))
def m_law (CL : Addr) (a_HEADS : Addr) : Mir := mirOf (g_law CL a_HEADS) 1 31

theorem bd_law {f : Addr} {CL a_HEADS : Addr} (T : Txt K mg CL a_HEADS) (C__law_draw : Fd P w K mg base 1 "_law_draw" 2 (m__law_draw CL a_HEADS)) (C__law_drawn_term : Fd P w K mg base 7 "_law_drawn_term" 3 (md__law_drawn_term CL a_HEADS 5)) (C__law_lattice : Fd P w K mg base 4 "_law_lattice" 1 (m__law_lattice CL a_HEADS)) (C__law_led_rows : Fd P w K mg base 1 "_law_led_rows" 2 (m__law_led_rows CL a_HEADS)) (C__law_letters : Fd P w K mg base 3 "_law_letters" 1 (m__law_letters CL a_HEADS)) (C__law_shuffled : Fd P w K mg base 2 "_law_shuffled" 2 (m__law_shuffled CL a_HEADS)) (C_both_of : Fd P w K mg base 5 "both_of" 3 (m_both_of CL a_HEADS)) (C_either_of : Fd P w K mg base 5 "either_of" 3 (m_either_of CL a_HEADS)) (C_is_at_most : Fd P w K mg base 5 "is_at_most" 3 (m_is_at_most CL a_HEADS)) (C_is_so : Fd P w K mg base 11 "is_so" 5 (m_is_so CL a_HEADS)) (C_put_in : Fd P w K mg base 11 "put_in" 3 (m_put_in CL a_HEADS)) (C_term_value : Fd P w K mg base 11 "term_value" 4 (m_term_value CL a_HEADS)) (C_turned_lattice : Fd P w K mg base 7 "turned_lattice" 1 (m_turned_lattice CL a_HEADS)) (C_turned_term : Fd P w K mg base 9 "turned_term" 2 (m_turned_term CL a_HEADS)) (M_Lattice : Cd P w K mg base 5 "Lattice" CL 1 (m_Lattice___init__ CL a_HEADS) (mk_Lattice CL a_HEADS)) (cdv : Value) (A : Around) (outer : List Env) (s : Shared) (H : Hp) (E : XK) (hr : Room 11 (A.deeper (envOfC "law" (defScope s_law) s.heap.objs.size f cdv))) :
    ∃ t, DSs (cxOf L2.CX0 P w K mg base ["script", "pen", "lap", "rows", "letters", "made", "many", "turned", "turn", "one", "two", "three", "both", "either", "less", "images", "more", "over", "term", "other", "value", "terms", "led", "small", "order", "there", "at", "lap2", "sign", "first", "second"] "law" (defScope s_law) f cdv A outer s H E).nox L2.E0 ((defBody s_law).drop 1) t (g_law CL a_HEADS) := by
  have hu := hr.units
  have hN := sc_law.nd
  exact ⟨_, (dss_cons (ds_for PassesOwn.never (by rfl) (dit_range1 (by rfl) T.b_range (da_cons dc_int da_nil)) (dg_name (i := 2) hN) (dss_cons (ds_asg (de_tup (da_cons (de_call (Fd.fn C__law_lattice hr) (by rfl) (da_cons (dv 1) da_nil) (lng_cons lng_nil)) (da_cons (de_call (Fd.fn C__law_letters hr) (by rfl) (da_cons (dv 1) da_nil) (lng_cons lng_nil)) da_nil))) (dg_tup (by rfl) (dgs_cons (dg_name (i := 3) hN) (dgs_cons (dg_name (i := 4) hN) dgs_nil))))
    (dss_cons (ds_asg (de_tup (da_cons (de_make (Cd.cn M_Lattice hr) (by rfl) (da_cons (dv 3) da_nil) (lng_cons lng_nil)) (da_cons (de_callB call_len3 (v_len (q1 := false)) (by rfl) T.b_len (by decide +kernel) (da_cons (dv 3) da_nil)) da_nil))) (dg_tup (by rfl) (dgs_cons (dg_name (i := 5) hN) (dgs_cons (dg_name (i := 6) hN) dgs_nil))))
    (dss_cons (ds_set (i := 7) hN (de_callP (q1 := true) (Fd.fn C_turned_lattice hr) (by rfl) (da_cons (dv 5) da_nil) (lng_cons lng_nil)))
    (dss_cons (ds_for PassesOwn.never (by rfl) (dit_range1 (by rfl) T.b_range (da_cons dc_int da_nil)) (dg_name (i := 8) hN) (dss_cons (ds_asg (DF.de (df_lc (q := false) (own := [("at", 26)]) (w := (iRng1 (tCons (tC (.int (3))) tNil))) (g := (gName 26)) (tt := tYes) (te := (tCall (spD K 2 (m__law_draw CL a_HEADS)) [] L2.E0 (tCons (tVar 1) (tCons (tVar 6) tNil)))) (by rfl) hN (dit_range1 (by rfl) T.b_range (da_cons dc_int da_nil)) (blkOk_by (by kernel_rfl)) (fun _ _ _ _ _ => (dg_name (i := 26) hN)) (fun _ _ _ _ _ => dts_nil) (fun _ _ _ _ _ => (de_call (Fd.fn C__law_draw hr) (by rfl) (da_cons (dv 1) (da_cons (dv 6) da_nil)) (lng_cons (lng_cons lng_nil)))))) (dg_lst (by rfl) (dgs_cons (dg_name (i := 9) hN) (dgs_cons (dg_name (i := 10) hN) (dgs_cons (dg_name (i := 11) hN) dgs_nil)))))
    (dss_cons (ds_par (i := 12) (j := 13) (by rfl) hN (de_callP (q1 := true) (Fd.fn C_both_of hr) (by rfl) (da_cons (dv 5) (da_cons (dv 9) (da_cons (dv 10) da_nil))) (lng_cons (lng_cons (lng_cons lng_nil)))) (de_callP (q1 := true) (Fd.fn C_either_of hr) (by rfl) (da_cons (dv 5) (da_cons (dv 9) (da_cons (dv 10) da_nil))) (lng_cons (lng_cons (lng_cons lng_nil)))))
    (dss_cons (ds_if (DW.dt (dw_or (dt_cmpR (op_neP hu) (v_ne (q1 := false) (q2 := false)) (dv 12) (de_callP (q1 := true) (Fd.fn C_both_of hr) (by rfl) (da_cons (dv 5) (da_cons (dv 10) (da_cons (dv 9) da_nil))) (lng_cons (lng_cons (lng_cons lng_nil)))) (by rfl)) (dw_or (dt_cmpR (op_neP hu) (v_ne (q1 := false) (q2 := false)) (dv 13) (de_callP (q1 := true) (Fd.fn C_either_of hr) (by rfl) (da_cons (dv 5) (da_cons (dv 10) (da_cons (dv 9) da_nil))) (lng_cons (lng_cons (lng_cons lng_nil)))) (by rfl)) (dw_or (dt_cmpR (op_neP hu) (v_ne (q1 := false) (q2 := false)) (de_callP (q1 := true) (Fd.fn C_both_of hr) (by rfl) (da_cons (dv 5) (da_cons (dv 9) (da_cons (dv 13) da_nil))) (lng_cons (lng_cons (lng_cons lng_nil)))) (dv 9) (by rfl)) (dw_or1 (dt_cmpR (op_neP hu) (v_ne (q1 := false) (q2 := false)) (de_callP (q1 := true) (Fd.fn C_either_of hr) (by rfl) (da_cons (dv 5) (da_cons (dv 9) (da_cons (dv 12) da_nil))) (lng_cons (lng_cons (lng_cons lng_nil)))) (dv 9) (by rfl))))))) (dss_one (ds_ret dc_bl)) dss_nil)
    (dss_cons (ds_if (DW.dt (dw_or (dt_cmpR (op_neP hu) (v_ne (q1 := false) (q2 := false)) (de_callP (q1 := true) (Fd.fn C_both_of hr) (by rfl) (da_cons (dv 5) (da_cons (dv 12) (da_cons (dv 11) da_nil))) (lng_cons (lng_cons (lng_cons lng_nil)))) (de_callP (q1 := true) (Fd.fn C_both_of hr) (by rfl) (da_cons (dv 5) (da_cons (dv 9) (da_cons (de_callP (q1 := true) (Fd.fn C_both_of hr) (by rfl) (da_cons (dv 5) (da_cons (dv 10) (da_cons (dv 11) da_nil))) (lng_cons (lng_cons (lng_cons lng_nil)))) da_nil))) (lng_cons (lng_cons (lng_cons lng_nil)))) (by rfl)) (dw_or1 (dt_cmpR (op_neP hu) (v_ne (q1 := false) (q2 := false)) (de_callP (q1 := true) (Fd.fn C_either_of hr) (by rfl) (da_cons (dv 5) (da_cons (dv 13) (da_cons (dv 11) da_nil))) (lng_cons (lng_cons (lng_cons lng_nil)))) (de_callP (q1 := true) (Fd.fn C_either_of hr) (by rfl) (da_cons (dv 5) (da_cons (dv 9) (da_cons (de_callP (q1 := true) (Fd.fn C_either_of hr) (by rfl) (da_cons (dv 5) (da_cons (dv 10) (da_cons (dv 11) da_nil))) (lng_cons (lng_cons (lng_cons lng_nil)))) da_nil))) (lng_cons (lng_cons (lng_cons lng_nil)))) (by rfl))))) (dss_one (ds_ret dc_bl)) dss_nil)
    (dss_cons (ds_set (i := 14) hN (de_callP (q1 := true) (Fd.fn C_is_at_most hr) (by rfl) (da_cons (dv 5) (da_cons (dv 9) (da_cons (dv 10) da_nil))) (lng_cons (lng_cons (lng_cons lng_nil)))))
    (dss_one (ds_if (DW.dt (dw_or (dt_cmpR (op_neP hu) (v_ne (q1 := false) (q2 := false)) (dv 14) (de_cmpR (op_eqP hu) (v_eq (q1 := false) (q2 := false)) (dv 12) (dv 9) (by rfl)) (by rfl)) (dw_or (dt_cmpR (op_neP hu) (v_ne (q1 := false) (q2 := false)) (dv 14) (de_cmpR (op_eqP hu) (v_eq (q1 := false) (q2 := false)) (dv 13) (dv 10) (by rfl)) (by rfl)) (dw_or1 (DW.dt (dw_and (dt_tru (dv 14)) (dw_and1 (dt_not (dt_tru (de_callP (q1 := true) (Fd.fn C_is_at_most hr) (by rfl) (da_cons (dv 5) (da_cons (de_callP (q1 := true) (Fd.fn C_both_of hr) (by rfl) (da_cons (dv 5) (da_cons (dv 9) (da_cons (dv 11) da_nil))) (lng_cons (lng_cons (lng_cons lng_nil)))) (da_cons (de_callP (q1 := true) (Fd.fn C_both_of hr) (by rfl) (da_cons (dv 5) (da_cons (dv 10) (da_cons (dv 11) da_nil))) (lng_cons (lng_cons (lng_cons lng_nil)))) da_nil))) (lng_cons (lng_cons (lng_cons lng_nil))))))))))))) (dss_one (ds_ret dc_bl)) dss_nil))))))))
    (dss_cons (ds_asg (DF.de (df_lc (q := false) (own := [("lap2", 27)]) (w := (iRng1 (tCons (tC (.int (2))) tNil))) (g := (gName 27)) (tt := tYes) (te := (tCB (xTuple K) (tCons (tLc (iSeq K (tVar 4)) (gName 28) tYes (tCall (spD K 2 (m__law_draw CL a_HEADS)) [] L2.E0 (tCons (tVar 1) (tCons (tVar 6) tNil))) [28]) tNil))) (by rfl) hN (dit_range1 (by rfl) T.b_range (da_cons dc_int da_nil)) (blkOk_by (by kernel_rfl)) (fun _ _ _ _ _ => (dg_name (i := 27) hN)) (fun _ _ _ _ _ => dts_nil) (fun _ _ _ _ _ => (de_callTy call_tuple_of (v_tuple (q1 := false)) (by rfl) T.b_tuple (by decide +kernel) (da_cons (DF.de (df_lc (q := false) (own := [("sign", 28)]) (w := (iSeq K (tVar 4))) (g := (gName 28)) (tt := tYes) (te := (tCall (spD K 2 (m__law_draw CL a_HEADS)) [] L2.E0 (tCons (tVar 1) (tCons (tVar 6) tNil)))) (by rfl) hN (dit_seq (dv 4)) (blkOk_by (by kernel_rfl)) (fun _ _ _ _ _ => (dg_name (i := 28) hN)) (fun _ _ _ _ _ => dts_nil) (fun _ _ _ _ _ => (de_call (Fd.fn C__law_draw hr) (by rfl) (da_cons (dv 1) (da_cons (dv 6) da_nil)) (lng_cons (lng_cons lng_nil)))))) da_nil))))) (dg_lst (by rfl) (dgs_cons (dg_name (i := 15) hN) (dgs_cons (dg_name (i := 16) hN) dgs_nil))))
    (dss_cons (ds_set (i := 17) hN (de_callTy call_tuple_of (v_tuple (q1 := false)) (by rfl) T.b_tuple (by decide +kernel) (da_cons (DF.de (df_lc (q := false) (own := [("first", 29), ("second", 30)]) (w := (RZ.iZipA K (tCons (tVar 15) (tCons (tVar 16) tNil)))) (g := (gTup K 2 (gCons (gName 29) (gCons (gName 30) L2.gNil)))) (tt := tYes) (te := (tCall (spD K 3 (m_either_of CL a_HEADS)) [] L2.E0 (tCons (tVar 5) (tCons (tVar 29) (tCons (tVar 30) tNil))))) (by rfl) hN (dit_zip (by rfl) T.b_zip (da_cons (dv 15) (da_cons (dv 16) da_nil))) (blkOk_by (by kernel_rfl)) (fun _ _ _ _ _ => (dg_tup (by rfl) (dgs_cons (dg_name (i := 29) hN) (dgs_cons (dg_name (i := 30) hN) dgs_nil)))) (fun _ _ _ _ _ => dts_nil) (fun _ _ _ _ _ => (de_callP (q1 := true) (Fd.fn C_either_of hr) (by rfl) (da_cons (dv 5) (da_cons (dv 29) (da_cons (dv 30) da_nil))) (lng_cons (lng_cons (lng_cons lng_nil))))))) da_nil)))
    (dss_cons (ds_par (i := 18) (j := 19) (by rfl) hN (de_call (Fd.fn C__law_drawn_term hr) (by rfl) (da_cons (dv 1) (da_cons (dv 4) (da_cons dc_int da_nil))) (lng_cons (lng_cons (lng_cons lng_nil)))) (de_call (Fd.fn C__law_drawn_term hr) (by rfl) (da_cons (dv 1) (da_cons (dv 4) (da_cons dc_int da_nil))) (lng_cons (lng_cons (lng_cons lng_nil)))))
    (dss_cons (ds_set (i := 20) hN (de_callP (q1 := true) (Fd.fn C_term_value hr) (by rfl) (da_cons (dv 4) (da_cons (dv 5) (da_cons (dv 15) (da_cons (dv 18) da_nil)))) (lng_cons (lng_cons (lng_cons (lng_cons lng_nil))))))
    (dss_cons (ds_if (DW.dt (dw_or (dt_not (dt_tru (de_callP (q1 := true) (Fd.fn C_is_at_most hr) (by rfl) (da_cons (dv 5) (da_cons (dv 20) (da_cons (de_callP (q1 := true) (Fd.fn C_term_value hr) (by rfl) (da_cons (dv 4) (da_cons (dv 5) (da_cons (dv 17) (da_cons (dv 18) da_nil)))) (lng_cons (lng_cons (lng_cons (lng_cons lng_nil))))) da_nil))) (lng_cons (lng_cons (lng_cons lng_nil)))))) (dw_or1 (dt_cmpR (op_neP hu) (v_ne (q1 := false) (q2 := false)) (de_callP (q1 := true) (Fd.fn C_term_value hr) (by rfl) (da_cons (dv 4) (da_cons (dv 7) (da_cons (dv 15) (da_cons (de_callP (q1 := true) (Fd.fn C_turned_term hr) (by rfl) (da_cons (dv 4) (da_cons (dv 18) da_nil)) (lng_cons (lng_cons lng_nil))) da_nil)))) (lng_cons (lng_cons (lng_cons (lng_cons lng_nil))))) (dv 20) (by rfl))))) (dss_one (ds_ret dc_bl)) dss_nil)
    (dss_cons (ds_if (dt_cmpR (op_neP hu) (v_ne (q1 := false) (q2 := false)) (de_callP (q1 := true) (Fd.fn C_is_so hr) (by rfl) (da_cons (dv 4) (da_cons (dv 7) (da_cons (dv 15) (da_cons (de_callP (q1 := true) (Fd.fn C_turned_term hr) (by rfl) (da_cons (dv 4) (da_cons (dv 19) da_nil)) (lng_cons (lng_cons lng_nil))) (da_cons (de_callP (q1 := true) (Fd.fn C_turned_term hr) (by rfl) (da_cons (dv 4) (da_cons (dv 18) da_nil)) (lng_cons (lng_cons lng_nil))) da_nil))))) (lng_cons (lng_cons (lng_cons (lng_cons (lng_cons lng_nil)))))) (de_callP (q1 := true) (Fd.fn C_is_so hr) (by rfl) (da_cons (dv 4) (da_cons (dv 5) (da_cons (dv 15) (da_cons (dv 18) (da_cons (dv 19) da_nil))))) (lng_cons (lng_cons (lng_cons (lng_cons (lng_cons lng_nil)))))) (by rfl)) (dss_one (ds_ret dc_bl)) dss_nil)
    (dss_cons (ds_set (i := 21) hN (de_callTy call_tuple_of (v_tuple (q1 := false)) (by rfl) T.b_tuple (by decide +kernel) (da_cons (DF.de (df_lc (q := false) (own := [("sign", 28)]) (w := (iSeq K (tVar 4))) (g := (gName 28)) (tt := tYes) (te := (tCall (spD K 3 (md__law_drawn_term CL a_HEADS 5)) [] L2.E0 (tCons (tVar 1) (tCons (tVar 4) (tCons (tC (.int (1))) tNil))))) (by rfl) hN (dit_seq (dv 4)) (blkOk_by (by kernel_rfl)) (fun _ _ _ _ _ => (dg_name (i := 28) hN)) (fun _ _ _ _ _ => dts_nil) (fun _ _ _ _ _ => (de_call (Fd.fn C__law_drawn_term hr) (by rfl) (da_cons (dv 1) (da_cons (dv 4) (da_cons dc_int da_nil))) (lng_cons (lng_cons (lng_cons lng_nil))))))) da_nil)))
    (dss_cons (ds_set (i := 22) hN (de_callTy call_tuple_of (v_tuple (q1 := false)) (by rfl) T.b_tuple (by decide +kernel) (da_cons (DF.de (df_lc (q := false) (own := [("one", 9)]) (w := (iSeq K (tVar 21))) (g := (gName 9)) (tt := tYes) (te := (tCall (spD K 4 (m_term_value CL a_HEADS)) [] L2.E0 (tCons (tVar 4) (tCons (tVar 5) (tCons (tVar 15) (tCons (tVar 9) tNil)))))) (by rfl) hN (dit_seq (dv 21)) (blkOk_by (by kernel_rfl)) (fun _ _ _ _ _ => (dg_name (i := 9) hN)) (fun _ _ _ _ _ => dts_nil) (fun _ _ _ _ _ => (de_callP (q1 := true) (Fd.fn C_term_value hr) (by rfl) (da_cons (dv 4) (da_cons (dv 5) (da_cons (dv 15) (da_cons (dv 9) da_nil)))) (lng_cons (lng_cons (lng_cons (lng_cons lng_nil)))))))) da_nil)))
    (dss_cons (ds_set (i := 23) hN (de_call (Fd.fn C__law_drawn_term hr) (by rfl) (da_cons (dv 1) (da_cons (dv 4) (da_cons dc_int da_nil))) (lng_cons (lng_cons (lng_cons lng_nil)))))
    (dss_cons (ds_if (dt_cmpR (op_neP hu) (v_ne (q1 := false) (q2 := false)) (de_callP (q1 := true) (Fd.fn C_term_value hr) (by rfl) (da_cons (dv 4) (da_cons (dv 5) (da_cons (dv 15) (da_cons (de_callP (q1 := true) (Fd.fn C_put_in hr) (by rfl) (da_cons (dv 4) (da_cons (dv 23) (da_cons (dv 21) da_nil))) (lng_cons (lng_cons (lng_cons lng_nil)))) da_nil)))) (lng_cons (lng_cons (lng_cons (lng_cons lng_nil))))) (de_callP (q1 := true) (Fd.fn C_term_value hr) (by rfl) (da_cons (dv 4) (da_cons (dv 5) (da_cons (dv 22) (da_cons (dv 23) da_nil)))) (lng_cons (lng_cons (lng_cons (lng_cons lng_nil))))) (by rfl)) (dss_one (ds_ret dc_bl)) dss_nil)
    (dss_cons (ds_set (i := 24) hN (de_call (Fd.fn C__law_shuffled hr) (by rfl) (da_cons (dv 1) (da_cons (DF.de (df_listRg (by rfl) (by rfl) T.b_list (drg_1 (by rfl) T.b_range (dv 6)))) da_nil)) (lng_cons (lng_cons lng_nil))))
    (dss_cons (ds_set (i := 25) hN (de_make (Cd.cn M_Lattice hr) (by rfl) (da_cons (de_callP (q1 := true) (Fd.fn C__law_led_rows hr) (by rfl) (da_cons (dv 3) (da_cons (dv 24) da_nil)) (lng_cons (lng_cons lng_nil))) da_nil) (lng_cons lng_nil)))
    (dss_one (ds_if (dt_cmpR (op_neP hu) (v_ne (q1 := false) (q2 := false)) (de_callP (q1 := true) (Fd.fn C_term_value hr) (by rfl) (da_cons (dv 4) (da_cons (dv 25) (da_cons (de_callTy call_tuple_of (v_tuple (q1 := false)) (by rfl) T.b_tuple (by decide +kernel) (da_cons (DF.de (df_lc (q := false) (own := [("one", 9)]) (w := (iSeq K (tVar 15))) (g := (gName 9)) (tt := tYes) (te := (tOp (rIx5 K) (tVar 24) (tVar 9))) (by rfl) hN (dit_seq (dv 15)) (blkOk_by (by kernel_rfl)) (fun _ _ _ _ _ => (dg_name (i := 9) hN)) (fun _ _ _ _ _ => dts_nil) (fun _ _ _ _ _ => (de_ix hu (dv 24) (dv 9))))) da_nil)) (da_cons (dv 18) da_nil)))) (lng_cons (lng_cons (lng_cons (lng_cons lng_nil))))) (de_ix hu (dv 24) (dv 20)) (by rfl)) (dss_one (ds_ret dc_bl)) dss_nil)))))))))))))))))))
    (dss_one (ds_ret dc_bl)))⟩

end
end
end K17
set_option Elab.async false
set_option linter.all false
set_option maxRecDepth 100000
namespace K17
open PySem L2 DL DLk
def pks : List Key := [.inr "cells", .inr "at", .inr "digits", .inr "count", .inr "fold"]
def penAr (p : Addr) (cs : List D) (i dg ct fo : Int) : Ar := [(p, .dk pks [.lst cs, .int i, .int dg, .int ct, .int fo])]
section
variable {p : Addr} {cs : List D} {i dg ct fo : Int} {sl : List Sl}
theorem look (p : Addr) (m : MO) : ([(p, m)] : Ar).lookup p = some m := by simp
theorem pk (j : Nat) (k : Str) : True := trivial
theorem ix_count : kIxA (.adr p) (.str "count") ⟨sl, penAr p cs i dg ct fo⟩ = some (.ok (.int ct) (penAr p cs i dg ct fo)) := by
  simp only [kIxA, penAr, look, D.key, Option.bind_some]
  rfl
theorem ix_digits : kIxA (.adr p) (.str "digits") ⟨sl, penAr p cs i dg ct fo⟩ = some (.ok (.int dg) (penAr p cs i dg ct fo)) := by
  simp only [kIxA, penAr, look, D.key, Option.bind_some]
  rfl
theorem ix_at : kIxA (.adr p) (.str "at") ⟨sl, penAr p cs i dg ct fo⟩ = some (.ok (.int i) (penAr p cs i dg ct fo)) := by
  simp only [kIxA, penAr, look, D.key, Option.bind_some]
  rfl
theorem ix_cells : kIxA (.adr p) (.str "cells") ⟨sl, penAr p cs i dg ct fo⟩ = some (.ok (.lst cs) (penAr p cs i dg ct fo)) := by
  simp only [kIxA, penAr, look, D.key, Option.bind_some]
  rfl
theorem ix_fold : kIxA (.adr p) (.str "fold") ⟨sl, penAr p cs i dg ct fo⟩ = some (.ok (.int fo) (penAr p cs i dg ct fo)) := by
  simp only [kIxA, penAr, look, D.key, Option.bind_some]
  rfl
theorem pt_count {v : Int} : kPutA (.adr p) (.str "count") (.int v) ⟨sl, penAr p cs i dg ct fo⟩ = some (.nx ⟨sl, penAr p cs i dg v fo⟩) := by
  simp only [kPutA, penAr, look, D.key, Option.bind_some]
  rw [if_pos (show ([D.lst cs, D.int i, D.int dg, D.int ct, D.int fo] : List D).length < LIM by show 5 < 1000000; decide)]
  simp [arSet, S.wa]
  exact ⟨rfl, rfl⟩
theorem pt_at {v : Int} : kPutA (.adr p) (.str "at") (.int v) ⟨sl, penAr p cs i dg ct fo⟩ = some (.nx ⟨sl, penAr p cs v dg ct fo⟩) := by
  simp only [kPutA, penAr, look, D.key, Option.bind_some]
  rw [if_pos (show ([D.lst cs, D.int i, D.int dg, D.int ct, D.int fo] : List D).length < LIM by show 5 < 1000000; decide)]
  simp [arSet, S.wa]
  exact ⟨rfl, rfl⟩
theorem pt_digits {v : Int} : kPutA (.adr p) (.str "digits") (.int v) ⟨sl, penAr p cs i dg ct fo⟩ = some (.nx ⟨sl, penAr p cs i v ct fo⟩) := by
  simp only [kPutA, penAr, look, D.key, Option.bind_some]
  rw [if_pos (show ([D.lst cs, D.int i, D.int dg, D.int ct, D.int fo] : List D).length < LIM by show 5 < 1000000; decide)]
  simp [arSet, S.wa]
  exact ⟨rfl, rfl⟩
theorem pt_fold {v : Int} : kPutA (.adr p) (.str "fold") (.int v) ⟨sl, penAr p cs i dg ct fo⟩ = some (.nx ⟨sl, penAr p cs i dg ct v⟩) := by
  simp only [kPutA, penAr, look, D.key, Option.bind_some]
  rw [if_pos (show ([D.lst cs, D.int i, D.int dg, D.int ct, D.int fo] : List D).length < LIM by show 5 < 1000000; decide)]
  simp [arSet, S.wa]
  exact ⟨rfl, rfl⟩
/-! ### expressions at a state -/
theorem e_var {q : Bool} {j : Nat} {d : D} {s : DL.S} (h : s.sl[j]? = some (.va d)) : fVar q j s = some (.ok d s.ar) := by
  unfold fVar
  rw [h]
theorem e_c {d : D} {s : DL.S} : fC d s = some (.ok d s.ar) := rfl
theorem e_op {g : D → D → Option D} {f1 f2 : M D} {s : DL.S} {a b c : D} {ar1 ar2 : Ar} (h1 : f1 s = some (.ok a ar1)) (h2 : f2 (s.wa ar1) = some (.ok b ar2)) (h3 : g a b = some c) : mOp g f1 f2 s = some (.ok c ar2) := by
  unfold mOp bindM
  rw [h1]
  dsimp only
  rw [h2]
  dsimp only
  unfold DL.liftM
  rw [h3]
  rfl
theorem e_ixA {f1 f2 : M D} {s : DL.S} {a b c : D} {ar1 ar2 ar3 : Ar} (h1 : f1 s = some (.ok a ar1)) (h2 : f2 (s.wa ar1) = some (.ok b ar2)) (h3 : kIxA a b (s.wa ar2) = some (.ok c ar3)) : mIxA f1 f2 s = some (.ok c ar3) := by
  unfold mIxA bindM
  rw [h1]
  dsimp only
  rw [h2]
  exact h3
theorem e_cb {g : List D → Option D} {f : M (List D)} {s : DL.S} {ds : List D} {c : D} {ar1 : Ar} (h1 : f s = some (.ok ds ar1)) (h3 : g ds = some c) : mCB g f s = some (.ok c ar1) := by
  unfold mCB DL.bindM
  rw [h1]
  dsimp only
  unfold DL.liftM
  rw [h3]
  rfl
theorem e_nil {s : DL.S} : fNil s = some (.ok [] s.ar) := rfl
theorem e_cons {f : M D} {g : M (List D)} {s : DL.S} {d : D} {ds : List D} {ar1 ar2 : Ar} (h1 : f s = some (.ok d ar1)) (h2 : g (s.wa ar1) = some (.ok ds ar2)) : fCons f g s = some (.ok (d :: ds) ar2) := by
  unfold fCons DL.bindM
  rw [h1]
  dsimp only
  rw [h2]
  rfl
theorem e_mB {f : M D} {s : DL.S} {b : Bool} {ar1 : Ar} (h1 : f s = some (.ok (.bl b) ar1)) : mB f s = some (.ok b ar1) := by
  unfold mB DL.bindM
  rw [h1]
  rfl
theorem e_andT {f g : M Bool} {s : DL.S} {b : Bool} {ar1 ar2 : Ar} (h1 : f s = some (.ok true ar1)) (h2 : g (s.wa ar1) = some (.ok b ar2)) : mAnd f g s = some (.ok b ar2) := by
  unfold mAnd DL.bindM
  rw [h1]
  exact h2
theorem e_andF {f g : M Bool} {s : DL.S} {ar1 : Ar} (h1 : f s = some (.ok false ar1)) : mAnd f g s = some (.ok false ar1) := by
  unfold mAnd DL.bindM
  rw [h1]
  rfl
/-! ### statements at a state -/
theorem x_seq {g1 g2 : G} {s s' : DL.S} {r : Option Out} (h1 : g1 s = some (.nx s')) (h2 : g2 s' = r) : gSeq g1 g2 s = r := by
  unfold gSeq
  rw [h1]
  exact h2
theorem x_seqR {g1 g2 : G} {s : DL.S} {d : D} {ar : Ar} (h1 : g1 s = some (.rt d ar)) : gSeq g1 g2 s = some (.rt d ar) := by
  unfold gSeq
  rw [h1]
theorem x_bind {α : Type} {f : M α} {k : α → DL.S → Option Out} {s : DL.S} {a : α} {ar : Ar} {r : Option Out} (h1 : f s = some (.ok a ar)) (h2 : k a (s.wa ar) = r) : gBind f k s = r := by
  unfold gBind
  rw [h1]
  exact h2
theorem x_putA {fv f fi : M D} {s : DL.S} {v d k : D} {a1 a2 a3 : Ar} {r : Option Out} (h1 : fv s = some (.ok v a1)) (h2 : f (s.wa a1) = some (.ok d a2)) (h3 : fi (s.wa a2) = some (.ok k a3)) (h4 : kPutA d k v (s.wa a3) = r) : gPutA fv f fi s = r :=
  x_bind h1 (x_bind h2 (x_bind h3 h4))
theorem x_ifT {c : M Bool} {g1 g2 : G} {s : DL.S} {ar : Ar} {r : Option Out} (h1 : c s = some (.ok true ar)) (h2 : g1 (s.wa ar) = r) : gIf c g1 g2 s = r := x_bind h1 h2
theorem x_ifF {c : M Bool} {g1 g2 : G} {s : DL.S} {ar : Ar} {r : Option Out} (h1 : c s = some (.ok false ar)) (h2 : g2 (s.wa ar) = r) : gIf c g1 g2 s = r := x_bind h1 h2
theorem x_ret {f : M D} {s : DL.S} {d : D} {ar : Ar} (h : f s.fz = some (.ok d ar)) : gRet f s = some (.rt d ar) := by
  unfold gRet gBind
  rw [h]
theorem mir_rt {g : G} {n L : Nat} {ds : List D} {ar ar' : Ar} {d : D} (hn : ds.length = n) (h : g ⟨ds.map .va ++ List.replicate (L - n) .no, ar⟩ = some (.rt d ar')) : mirOf g n L ds ar = some (.ok d ar') := by
  unfold mirOf
  rw [if_pos hn, h]
theorem draw_last {CL aH : Addr} {ns : List Int} {many : Int} : True := trivial
/-- the draw's first statement -/
theorem t1 {cell : Sl} {many : D} : gPutA (mOp gAdd (mIxA (fVar false 0) (fC (.str "count"))) (fC (.int (1)))) (fVar false 0) (fC (.str "count")) ⟨.va (.adr p) :: sl, penAr p cs i dg ct fo⟩ = some (.nx ⟨.va (.adr p) :: sl, penAr p cs i dg (ct + 1) fo⟩) := by
  apply x_putA
  all_goals repeat' first
    | exact e_c
    | exact e_var rfl
    | exact ix_count
    | exact pt_count
    | apply e_op
    | apply e_ixA
    | rfl
/-! ### operators on ints -/
theorem g_mod {a b : Int} (h : 0 < b) : gMod (.int a) (.int b) = some (.int (a % b)) := by
  simp [gMod, g2I, h]
theorem g_fdiv {a b : Int} (h : 0 < b) (h2 : b < 1073741824) : gFdiv (.int a) (.int b) = some (.int (a / b)) := by
  simp [gFdiv, g2I, h, h2]
theorem g_mulR {a b : Int} (h1 : -(2 ^ 64) < b) (h2 : b < 2 ^ 64) : gMul (.int a) (.int b) = some (.int (a * b)) := by
  unfold gMul g2I
  simp only []
  rw [if_pos]
  simp only [Bool.or_eq_true, Bool.and_eq_true, decide_eq_true_eq]
  exact .inr ⟨h1, h2⟩
theorem g_mulL {a b : Int} (h1 : -(2 ^ 64) < a) (h2 : a < 2 ^ 64) : gMul (.int a) (.int b) = some (.int (a * b)) := by
  unfold gMul g2I
  simp only []
  rw [if_pos]
  simp only [Bool.or_eq_true, Bool.and_eq_true, decide_eq_true_eq]
  exact .inl ⟨h1, h2⟩
theorem g_eqI {a b : Int} : gEq (.int a) (.int b) = some (.bl (decide (a = b))) := by
  have h : (D.okc (.int a) && D.okc (.int b)) = true := rfl
  unfold gEq
  rw [if_pos h]
  have h2 : PyData.eqv (D.py (.int a)) (D.py (.int b)) = decide (a = b) := by
    show PyData.eqv (.int a) (.int b) = _
    simp only [PyData.eqv]
    rw [Bool.eq_iff_iff, beq_iff_eq, decide_eq_true_eq]
  rw [h2]
theorem g_lt {a b : Int} : gLt (.int a) (.int b) = some (.bl (decide (a < b))) := rfl
theorem g_gt {a b : Int} : gGt (.int a) (.int b) = some (.bl (decide (b < a))) := rfl
theorem g_ge {a b : Int} : gGe (.int a) (.int b) = some (.bl (decide (b ≤ a))) := rfl
theorem b_mod_pos {a b : Int} (h : 0 < b) : 0 ≤ a % b ∧ a % b < b := ⟨Int.emod_nonneg a (by omega), Int.emod_lt_of_pos a h⟩
def gD2 : G := gIf (mB (mOp gGe (fVar false 2) (mOp gPow (fC (.int (10))) (fC (.int (18)))))) (gPutA (mOp DL.gSub (fVar false 2) (mOp gPow (fC (.int (10))) (fC (.int (18))))) (fVar false 0) (fC (.str "digits"))) (gPutA (mOp gMod (mCB gInt (fCons (mOp gAdd (mOp gMul (mIxA (fVar false 0) (fC (.str "fold"))) (fC (.int (69069)))) (fVar false 2)) fNil)) (fC (.int (2147483587)))) (fVar false 0) (fC (.str "fold")))
theorem d2 {c : Int} {many x y : Sl} : ∃ dg' fo', gD2 ⟨[.va (.adr p), many, .va (.int c), x, y], penAr p cs i 0 ct fo⟩ = some (.nx ⟨[.va (.adr p), many, .va (.int c), x, y], penAr p cs i dg' ct fo'⟩) ∧ 0 ≤ dg' := by
  have hp : gPow (.int 10) (.int 18) = some (.int (10 ^ 18)) := rfl
  by_cases h : (10 : Int) ^ 18 ≤ c
  · refine ⟨c - 10 ^ 18, fo, ?_, by omega⟩
    have hc : mB (mOp gGe (fVar false 2) (mOp gPow (fC (.int (10))) (fC (.int (18))))) ⟨[.va (.adr p), many, .va (.int c), x, y], penAr p cs i 0 ct fo⟩ = some (.ok true (penAr p cs i 0 ct fo)) := by
      apply e_mB
      apply e_op
      · exact e_var rfl
      · apply e_op
        · exact e_c
        · exact e_c
        · exact hp
      · rw [g_ge, decide_eq_true h]
    refine x_ifT hc ?_
    apply x_putA
    all_goals repeat' first
      | exact hp
      | exact e_c
      | exact e_var rfl
      | exact e_nil
      | exact ix_count
      | exact ix_digits
      | exact ix_at
      | exact ix_cells
      | exact ix_fold
      | exact pt_count
      | exact pt_digits
      | exact pt_at
      | exact pt_fold
      | exact g_eqI
      | exact g_mulR (by decide) (by decide)
      | exact g_mod (by first | assumption | decide)
      | exact g_fdiv (by first | assumption | decide) (by first | assumption | decide)
      | apply e_op
      | apply e_ixA
      | apply e_cb
      | apply e_cons
      | apply e_mB
      | rfl
  · refine ⟨0, (fo * 69069 + c) % 2147483587, ?_, Int.le_refl 0⟩
    have hc : mB (mOp gGe (fVar false 2) (mOp gPow (fC (.int (10))) (fC (.int (18))))) ⟨[.va (.adr p), many, .va (.int c), x, y], penAr p cs i 0 ct fo⟩ = some (.ok false (penAr p cs i 0 ct fo)) := by
      apply e_mB
      apply e_op
      · exact e_var rfl
      · apply e_op
        · exact e_c
        · exact e_c
        · exact hp
      · rw [g_ge, decide_eq_false h]
    refine x_ifF hc ?_
    apply x_putA
    all_goals repeat' first
      | exact e_c
      | exact e_var rfl
      | exact e_nil
      | exact ix_count
      | exact ix_digits
      | exact ix_at
      | exact ix_cells
      | exact ix_fold
      | exact pt_count
      | exact pt_digits
      | exact pt_at
      | exact pt_fold
      | exact g_eqI
      | exact g_mulR (by decide) (by decide)
      | exact g_mod (by first | assumption | decide)
      | exact g_fdiv (by first | assumption | decide) (by first | assumption | decide)
      | apply e_op
      | apply e_ixA
      | apply e_cb
      | apply e_cons
      | apply e_mB
      | rfl
theorem g_ixN {ns : List Int} {i : Int} (h0 : 0 ≤ i) (h1 : i < (ns.length : Int)) : ∃ c, gIx (.lst (ns.map D.int)) (.int i) = some (.int c) := by
  have hn : i.toNat < ns.length := by omega
  refine ⟨ns[i.toNat], ?_⟩
  show atI (ns.map D.int) i = _
  unfold atI ixN
  rw [if_pos h0, List.length_map, if_pos h1]
  show (ns.map D.int)[i.toNat]? = _
  rw [List.getElem?_map, List.getElem?_eq_getElem hn]
  rfl
theorem g_len {xs : List D} : gLen [.lst xs] = some (.int xs.length) := rfl
def gD1 : G := gIf (mAnd (mB (mOp gEq (mIxA (fVar false 0) (fC (.str "digits"))) (fC (.int (0))))) (mB (mOp gLt (mIxA (fVar false 0) (fC (.str "at"))) (mCB gLen (fCons (mIxA (fVar false 0) (fC (.str "cells"))) fNil))))) (gSeq (gBind (mOp gIx (mIxA (fVar false 0) (fC (.str "cells"))) (mIxA (fVar false 0) (fC (.str "at")))) (kPut (.nm 2)))
    (gSeq (gPutA (mOp gAdd (mIxA (fVar false 0) (fC (.str "at"))) (fC (.int (1)))) (fVar false 0) (fC (.str "at"))) gD2)) DL.gNil
theorem d1 {ns : List Int} {many x y : Sl} (hi : 0 ≤ i) (hd : 0 ≤ dg) : ∃ c i' dg' fo', gD1 ⟨[.va (.adr p), many, .no, x, y], penAr p (ns.map D.int) i dg ct fo⟩ = some (.nx ⟨[.va (.adr p), many, c, x, y], penAr p (ns.map D.int) i' dg' ct fo'⟩) ∧ 0 ≤ i' ∧ 0 ≤ dg' := by
  have c1 : mB (mOp gEq (mIxA (fVar false 0) (fC (.str "digits"))) (fC (.int (0)))) ⟨[.va (.adr p), many, .no, x, y], penAr p (ns.map D.int) i dg ct fo⟩ = some (.ok (decide (dg = 0)) (penAr p (ns.map D.int) i dg ct fo)) := by
    apply e_mB
    all_goals repeat' first
      | exact e_c
      | exact e_var rfl
      | exact e_nil
      | exact ix_count
      | exact ix_digits
      | exact ix_at
      | exact ix_cells
      | exact ix_fold
      | exact pt_count
      | exact pt_digits
      | exact pt_at
      | exact pt_fold
      | exact g_eqI
      | exact g_mulR (by decide) (by decide)
      | exact g_mod (by first | assumption | decide)
      | exact g_fdiv (by first | assumption | decide) (by first | assumption | decide)
      | apply e_op
      | apply e_ixA
      | apply e_cb
      | apply e_cons
      | apply e_mB
      | rfl
  have c2 : mB (mOp gLt (mIxA (fVar false 0) (fC (.str "at"))) (mCB gLen (fCons (mIxA (fVar false 0) (fC (.str "cells"))) fNil))) ⟨[.va (.adr p), many, .no, x, y], penAr p (ns.map D.int) i dg ct fo⟩ = some (.ok (decide (i < (((ns.map D.int).length : Nat) : Int))) (penAr p (ns.map D.int) i dg ct fo)) := by
    apply e_mB
    all_goals repeat' first
      | exact e_c
      | exact e_var rfl
      | exact e_nil
      | exact ix_count
      | exact ix_digits
      | exact ix_at
      | exact ix_cells
      | exact ix_fold
      | exact pt_count
      | exact pt_digits
      | exact pt_at
      | exact pt_fold
      | exact g_eqI
      | exact g_mulR (by decide) (by decide)
      | exact g_mod (by first | assumption | decide)
      | exact g_fdiv (by first | assumption | decide) (by first | assumption | decide)
      | apply e_op
      | apply e_ixA
      | apply e_cb
      | apply e_cons
      | apply e_mB
      | rfl
  by_cases h1 : dg = 0
  · by_cases h2 : i < (((ns.map D.int).length : Nat) : Int)
    · rw [decide_eq_true h1] at c1
      rw [decide_eq_true h2] at c2
      rw [List.length_map] at h2
      obtain ⟨c, hc⟩ := g_ixN hi h2
      obtain ⟨dg', fo', hg, hd'⟩ := d2 (p := p) (cs := ns.map D.int) (i := i + 1) (ct := ct) (fo := fo) (c := c) (many := many) (x := x) (y := y)
      refine ⟨.va (.int c), i + 1, dg', fo', ?_, by omega, hd'⟩
      refine x_ifT (e_andT c1 c2) ?_
      refine x_seq (s' := ⟨[.va (.adr p), many, .va (.int c), x, y], penAr p (ns.map D.int) i dg ct fo⟩) ?_ ?_
      · refine x_bind (a := .int c) (ar := penAr p (ns.map D.int) i dg ct fo) ?_ rfl
        apply e_op
        all_goals repeat' first
          | exact hc
          | exact e_c
          | exact e_var rfl
          | exact e_nil
          | exact ix_count
          | exact ix_digits
          | exact ix_at
          | exact ix_cells
          | exact ix_fold
          | exact pt_count
          | exact pt_digits
          | exact pt_at
          | exact pt_fold
          | exact g_eqI
          | exact g_mulR (by decide) (by decide)
          | exact g_mod (by first | assumption | decide)
          | exact g_fdiv (by first | assumption | decide) (by first | assumption | decide)
          | apply e_op
          | apply e_ixA
          | apply e_cb
          | apply e_cons
          | apply e_mB
          | rfl
      · subst h1
        refine x_seq (s' := ⟨[.va (.adr p), many, .va (.int c), x, y], penAr p (ns.map D.int) (i + 1) 0 ct fo⟩) ?_ hg
        apply x_putA
        all_goals repeat' first
          | exact e_c
          | exact e_var rfl
          | exact e_nil
          | exact ix_count
          | exact ix_digits
          | exact ix_at
          | exact ix_cells
          | exact ix_fold
          | exact pt_count
          | exact pt_digits
          | exact pt_at
          | exact pt_fold
          | exact g_eqI
          | exact g_mulR (by decide) (by decide)
          | exact g_mod (by first | assumption | decide)
          | exact g_fdiv (by first | assumption | decide) (by first | assumption | decide)
          | apply e_op
          | apply e_ixA
          | apply e_cb
          | apply e_cons
          | apply e_mB
          | rfl
    · rw [decide_eq_true h1] at c1
      rw [decide_eq_false h2] at c2
      exact ⟨.no, i, dg, fo, x_ifF (e_andT c1 c2) rfl, hi, hd⟩
  · rw [decide_eq_false h1] at c1
    exact ⟨.no, i, dg, fo, x_ifF (e_andF c1) rfl, hi, hd⟩
/-- the draw, behind its two changes of the pen -/
def gD4 : G := gIf (mB (mOp gGt (mIxA (fVar false 0) (fC (.str "digits"))) (fC (.int (0))))) (gSeq (gBind (mOp gMod (mCB gInt (fCons (mIxA (fVar false 0) (fC (.str "digits"))) fNil)) (fVar false 1)) (kPut (.nm 3)))
    (gSeq (gPutA (mOp gFdiv (mIxA (fVar false 0) (fC (.str "digits"))) (fVar false 1)) (fVar false 0) (fC (.str "digits")))
    (gRet (fVar true 3)))) DL.gNil
def gD5 : G := (gSeq (gBind (mOp gMod (mCB gInt (fCons (mOp gAdd (mOp gAdd (mOp gMul (mIxA (fVar false 0) (fC (.str "fold"))) (fC (.int (48271)))) (mOp gMul (mIxA (fVar false 0) (fC (.str "count"))) (fC (.int (7919))))) (fC (.int (13)))) fNil)) (fC (.int (2147483647)))) (kPut (.nm 4)))
    (gSeq (gBind (mOp gMod (mCB gInt (fCons (mOp gAdd (mOp gAdd (mOp gMul (fVar false 4) (fVar false 4)) (mOp gMul (fC (.int (31))) (fVar false 4))) (mIxA (fVar false 0) (fC (.str "count")))) fNil)) (fC (.int (2147483629)))) (kPut (.nm 4)))
    (gSeq (gPutA (mOp gMod (mCB gInt (fCons (mOp gAdd (mOp gMul (fVar false 4) (fC (.int (16807)))) (fC (.int (7)))) fNil)) (fC (.int (2147483647)))) (fVar false 0) (fC (.str "fold")))
    (gRet (mOp gMod (mCB gInt (fCons (mOp gFdiv (fVar false 4) (fC (.int (64)))) fNil)) (fVar false 1))))))
theorem d4 {many : Int} {c x y : Sl} (hm : 0 < many) (hm2 : many < 1073741824) (hd : 0 < dg) : ∃ r dg', gD4 ⟨[.va (.adr p), .va (.int many), c, x, y], penAr p cs i dg ct fo⟩ = some (.rt (.int r) (penAr p cs i dg' ct fo)) ∧ 0 ≤ r ∧ r < many ∧ 0 ≤ dg' := by
  have hc : mB (mOp gGt (mIxA (fVar false 0) (fC (.str "digits"))) (fC (.int (0)))) ⟨[.va (.adr p), .va (.int many), c, x, y], penAr p cs i dg ct fo⟩ = some (.ok true (penAr p cs i dg ct fo)) := by
    apply e_mB
    apply e_op
    · apply e_ixA
      · exact e_var rfl
      · exact e_c
      · exact ix_digits
    · exact e_c
    · rw [g_gt, decide_eq_true hd]
  refine ⟨dg % many, dg / many, x_ifT hc ?_, (b_mod_pos hm).1, (b_mod_pos hm).2, Int.ediv_nonneg (Int.le_of_lt hd) (Int.le_of_lt hm)⟩
  refine x_seq (s' := ⟨[.va (.adr p), .va (.int many), c, .va (.int (dg % many)), y], penAr p cs i dg ct fo⟩) ?_ ?_
  · refine x_bind (a := .int (dg % many)) (ar := penAr p cs i dg ct fo) ?_ rfl
    apply e_op
    all_goals repeat' first
      | exact e_c
      | exact e_var rfl
      | exact e_nil
      | exact ix_count
      | exact ix_digits
      | exact ix_at
      | exact ix_cells
      | exact ix_fold
      | exact pt_count
      | exact pt_digits
      | exact pt_at
      | exact pt_fold
      | exact g_eqI
      | exact g_mulR (by decide) (by decide)
      | exact g_mod (by first | assumption | decide)
      | exact g_fdiv (by first | assumption | decide) (by first | assumption | decide)
      | apply e_op
      | apply e_ixA
      | apply e_cb
      | apply e_cons
      | apply e_mB
      | rfl
  · refine x_seq (s' := ⟨[.va (.adr p), .va (.int many), c, .va (.int (dg % many)), y], penAr p cs i (dg / many) ct fo⟩) ?_ ?_
    · apply x_putA
      all_goals repeat' first
        | exact e_c
        | exact e_var rfl
        | exact e_nil
        | exact ix_count
        | exact ix_digits
        | exact ix_at
        | exact ix_cells
        | exact ix_fold
        | exact pt_count
        | exact pt_digits
        | exact pt_at
        | exact pt_fold
        | exact g_eqI
        | exact g_mulR (by decide) (by decide)
        | exact g_mod (by first | assumption | decide)
        | exact g_fdiv (by first | assumption | decide) (by first | assumption | decide)
        | apply e_op
        | apply e_ixA
        | apply e_cb
        | apply e_cons
        | apply e_mB
        | rfl
    · exact x_ret (e_var rfl)
theorem d4F {many : Int} {c x y : Sl} (hd : ¬ 0 < dg) : gD4 ⟨[.va (.adr p), .va (.int many), c, x, y], penAr p cs i dg ct fo⟩ = some (.nx ⟨[.va (.adr p), .va (.int many), c, x, y], penAr p cs i dg ct fo⟩) := by
  have hc : mB (mOp gGt (mIxA (fVar false 0) (fC (.str "digits"))) (fC (.int (0)))) ⟨[.va (.adr p), .va (.int many), c, x, y], penAr p cs i dg ct fo⟩ = some (.ok false (penAr p cs i dg ct fo)) := by
    apply e_mB
    apply e_op
    · apply e_ixA
      · exact e_var rfl
      · exact e_c
      · exact ix_digits
    · exact e_c
    · rw [g_gt, decide_eq_false hd]
  exact x_ifF hc rfl
theorem d5 {many : Int} {c x y : Sl} (hm : 0 < many) : ∃ r fo', gD5 ⟨[.va (.adr p), .va (.int many), c, x, y], penAr p cs i dg ct fo⟩ = some (.rt (.int r) (penAr p cs i dg ct fo')) ∧ 0 ≤ r ∧ r < many := by
  obtain ⟨b1, hb1, l1, u1⟩ : ∃ b, (fo * 48271 + ct * 7919 + 13) % 2147483647 = b ∧ 0 ≤ b ∧ b < 2147483647 := ⟨_, rfl, b_mod_pos (by decide)⟩
  obtain ⟨b2, hb2, l2, u2⟩ : ∃ b, (b1 * b1 + 31 * b1 + ct) % 2147483629 = b ∧ 0 ≤ b ∧ b < 2147483629 := ⟨_, rfl, b_mod_pos (by decide)⟩
  refine ⟨(b2 / 64) % many, (b2 * 16807 + 7) % 2147483647, ?_, (b_mod_pos hm).1, (b_mod_pos hm).2⟩
  refine x_seq (s' := ⟨[.va (.adr p), .va (.int many), c, x, .va (.int b1)], penAr p cs i dg ct fo⟩) ?_ ?_
  · refine x_bind (a := .int b1) (ar := penAr p cs i dg ct fo) ?_ rfl
    rw [← hb1]
    apply e_op
    all_goals repeat' first
      | exact e_c
      | exact e_var rfl
      | exact e_nil
      | exact ix_count
      | exact ix_digits
      | exact ix_at
      | exact ix_cells
      | exact ix_fold
      | exact pt_count
      | exact pt_digits
      | exact pt_at
      | exact pt_fold
      | exact g_eqI
      | exact g_mulR (by decide) (by decide)
      | exact g_mod (by first | assumption | decide)
      | exact g_fdiv (by first | assumption | decide) (by first | assumption | decide)
      | apply e_op
      | apply e_ixA
      | apply e_cb
      | apply e_cons
      | apply e_mB
      | rfl
  have hsq : gMul (.int b1) (.int b1) = some (.int (b1 * b1)) := g_mulL (by omega) (by omega)
  have h31 : gMul (.int 31) (.int b1) = some (.int (31 * b1)) := g_mulL (by decide) (by decide)
  refine x_seq (s' := ⟨[.va (.adr p), .va (.int many), c, x, .va (.int b2)], penAr p cs i dg ct fo⟩) ?_ ?_
  · refine x_bind (a := .int b2) (ar := penAr p cs i dg ct fo) ?_ rfl
    rw [← hb2]
    apply e_op
    all_goals repeat' first
      | exact hsq
      | exact h31
      | exact e_c
      | exact e_var rfl
      | exact e_nil
      | exact ix_count
      | exact ix_digits
      | exact ix_at
      | exact ix_cells
      | exact ix_fold
      | exact pt_count
      | exact pt_digits
      | exact pt_at
      | exact pt_fold
      | exact g_eqI
      | exact g_mulR (by decide) (by decide)
      | exact g_mod (by first | assumption | decide)
      | exact g_fdiv (by first | assumption | decide) (by first | assumption | decide)
      | apply e_op
      | apply e_ixA
      | apply e_cb
      | apply e_cons
      | apply e_mB
      | rfl
  refine x_seq (s' := ⟨[.va (.adr p), .va (.int many), c, x, .va (.int b2)], penAr p cs i dg ct ((b2 * 16807 + 7) % 2147483647)⟩) ?_ ?_
  · apply x_putA
    all_goals repeat' first
      | exact e_c
      | exact e_var rfl
      | exact e_nil
      | exact ix_count
      | exact ix_digits
      | exact ix_at
      | exact ix_cells
      | exact ix_fold
      | exact pt_count
      | exact pt_digits
      | exact pt_at
      | exact pt_fold
      | exact g_eqI
      | exact g_mulR (by decide) (by decide)
      | exact g_mod (by first | assumption | decide)
      | exact g_fdiv (by first | assumption | decide) (by first | assumption | decide)
      | apply e_op
      | apply e_ixA
      | apply e_cb
      | apply e_cons
      | apply e_mB
      | rfl
  · apply x_ret
    apply e_op
    all_goals repeat' first
      | exact e_c
      | exact e_var rfl
      | exact e_nil
      | exact ix_count
      | exact ix_digits
      | exact ix_at
      | exact ix_cells
      | exact ix_fold
      | exact pt_count
      | exact pt_digits
      | exact pt_at
      | exact pt_fold
      | exact g_eqI
      | exact g_mulR (by decide) (by decide)
      | exact g_mod (by first | assumption | decide)
      | exact g_fdiv (by first | assumption | decide) (by first | assumption | decide)
      | apply e_op
      | apply e_ixA
      | apply e_cb
      | apply e_cons
      | apply e_mB
      | rfl
theorem draw_ok {CL aH : Addr} {ns : List Int} {many : Int} (hm : 0 < many) (hm2 : many < 1073741824) (hi : 0 ≤ i) (hd : 0 ≤ dg) : ∃ r i' dg' ct' fo', m__law_draw CL aH [.adr p, .int many] (penAr p (ns.map D.int) i dg ct fo) = some (.ok (.int r) (penAr p (ns.map D.int) i' dg' ct' fo')) ∧ 0 ≤ r ∧ r < many ∧ 0 ≤ i' ∧ 0 ≤ dg' := by
  obtain ⟨c, i', dg', fo', h1, hi', hd'⟩ := d1 (p := p) (ct := ct + 1) (fo := fo) (ns := ns) (many := .va (.int many)) (x := .no) (y := .no) hi hd
  have hs1 : gPutA (mOp gAdd (mIxA (fVar false 0) (fC (.str "count"))) (fC (.int (1)))) (fVar false 0) (fC (.str "count")) ⟨[.va (.adr p), .va (.int many), .no, .no, .no], penAr p (ns.map D.int) i dg ct fo⟩ = some (.nx ⟨[.va (.adr p), .va (.int many), .no, .no, .no], penAr p (ns.map D.int) i dg (ct + 1) fo⟩) := t1 (cell := .no) (many := .non)
  by_cases h0 : 0 < dg'
  · obtain ⟨r, dg2, h2, a1, a2, a3⟩ := d4 (p := p) (cs := ns.map D.int) (i := i') (ct := ct + 1) (fo := fo') (c := c) (x := .no) (y := .no) hm hm2 h0
    exact ⟨r, i', dg2, ct + 1, fo', mir_rt rfl (x_seq hs1 (x_seq h1 (x_seqR h2))), a1, a2, hi', a3⟩
  · obtain ⟨r, fo2, h2, a1, a2⟩ := d5 (p := p) (cs := ns.map D.int) (i := i') (dg := dg') (ct := ct + 1) (fo := fo') (c := c) (x := .no) (y := .no) hm
    exact ⟨r, i', dg', ct + 1, fo2, mir_rt rfl (x_seq hs1 (x_seq h1 (x_seq (d4F h0) h2))), a1, a2, hi', hd'⟩
end
end K17
set_option Elab.async false
set_option linter.all false
set_option maxRecDepth 100000
namespace K17
open PySem L2 DL DLk
/-- the pen stands -/
def PenOk (p : Addr) (ns : List Int) (ar : Ar) : Prop := ∃ i dg ct fo, ar = penAr p (ns.map D.int) i dg ct fo ∧ 0 ≤ i ∧ 0 ≤ dg
section
variable {p CL aH : Addr} {ns : List Int} {ar : Ar}
theorem draw' {many : Int} (h : PenOk p ns ar) (hm : 0 < many) (hm2 : many < 1073741824) : ∃ r ar', m__law_draw CL aH [.adr p, .int many] ar = some (.ok (.int r) ar') ∧ 0 ≤ r ∧ r < many ∧ PenOk p ns ar' := by
  obtain ⟨i, dg, ct, fo, rfl, hi, hd⟩ := h
  obtain ⟨r, i', dg', ct', fo', e, a1, a2, a3, a4⟩ := draw_ok (CL := CL) (aH := aH) (p := p) (ct := ct) (fo := fo) (ns := ns) hm hm2 hi hd
  exact ⟨r, _, e, a1, a2, i', dg', ct', fo', rfl, a3, a4⟩
theorem e_call {mir : Mir} {f : M (List D)} {s : DL.S} {ds : List D} {ar1 : Ar} {r : Option (R D)} (h1 : f s = some (.ok ds ar1)) (h2 : mir ds ar1 = r) : mCall mir f s = r := by
  unfold mCall DL.bindM
  rw [h1]
  exact h2
theorem g_ixL {xs : List D} {i : Int} (h0 : 0 ≤ i) (h1 : i < (xs.length : Int)) : ∃ d, gIx (.lst xs) (.int i) = some d ∧ xs[i.toNat]? = some d := by
  have hn : i.toNat < xs.length := by omega
  refine ⟨xs[i.toNat], ?_, List.getElem?_eq_getElem hn⟩
  show atI xs i = _
  unfold atI ixN
  rw [if_pos h0, if_pos h1]
  exact List.getElem?_eq_getElem hn
theorem e_len {j : Nat} {xs : List D} {q : Bool} {s : DL.S} (h : fVar q j s = some (.ok (.lst xs) s.ar)) : mCB gLen (fCons (fVar q j) fNil) s = some (.ok (.int xs.length) s.ar) := e_cb (e_cons h e_nil) rfl
theorem pick_ok {xs : List D} (h : PenOk p ns ar) (hx : xs ≠ []) (hl : xs.length < 1000000) : ∃ d ar', m__law_pick CL aH [.adr p, .lst xs] ar = some (.ok d ar') ∧ d ∈ xs ∧ PenOk p ns ar' := by
  have h0 : 0 < xs.length := List.length_pos_iff.mpr hx
  obtain ⟨r, ar', e, a1, a2, ok⟩ := draw' (CL := CL) (aH := aH) (many := (xs.length : Int)) h (by omega) (by omega)
  obtain ⟨d, e2, e3⟩ := g_ixL a1 a2
  refine ⟨d, ar', mir_rt rfl (x_ret ?_), List.mem_of_getElem? e3, ok⟩
  refine e_op (e_var rfl) (e_call (e_cons (e_var rfl) (e_cons (e_len (e_var rfl)) e_nil)) e) e2
theorem erase_perm {α : Type} : ∀ (l : List α) (n : Nat) (h : n < l.length), (l[n] :: l.eraseIdx n).Perm l
  | x :: l, 0, h => List.Perm.refl _
  | x :: l, n + 1, h => by
    have h' : n < l.length := by simpa using h
    exact (List.Perm.swap x l[n] (l.eraseIdx n)).trans ((erase_perm l n h').cons x)
theorem kapp {i j : Nat} {jd : D} {s : DL.S} : True := trivial
theorem shuf_loop {x1 : Sl} : ∀ (left found items : List D) (lap : Sl) (ar : Ar), items.length = left.length → left.length + found.length < 1000000 → PenOk p ns ar →
    ∃ found' lap' ar', forF (setT (.nm 4)) (gAppPop 3 2 (mCall (m__law_draw CL aH) (fCons (fVar true 0) (fCons (mCB gLen (fCons (fVar false 2) fNil)) fNil)))) items ⟨[.va (.adr p), x1, .ol left, .ol found, lap], ar⟩ = some (.nx ⟨[.va (.adr p), x1, .ol [], .ol found', lap'], ar'⟩) ∧ found'.Perm (found ++ left) ∧ PenOk p ns ar'
  | left, found, [], lap, ar, hl, hb, ok => by
    have : left = [] := List.eq_nil_of_length_eq_zero hl.symm
    subst this
    exact ⟨found, lap, ar, rfl, by simp, ok⟩
  | left, found, x :: items, lap, ar, hl, hb, ok => by
    have h0 : 0 < left.length := by rw [← hl]; simp
    obtain ⟨r, ar1, e, a1, a2, ok1⟩ := draw' (CL := CL) (aH := aH) (many := (left.length : Int)) ok (by omega) (by omega)
    have hr : r.toNat < left.length := by omega
    have hc : mCall (m__law_draw CL aH) (fCons (fVar true 0) (fCons (mCB gLen (fCons (fVar false 2) fNil)) fNil)) ⟨[.va (.adr p), x1, .ol left, .ol found, .va x], ar⟩ = some (.ok (.int r) ar1) :=
      e_call (e_cons (e_var rfl) (e_cons (e_cb (e_cons rfl e_nil) rfl) e_nil)) e
    have hk : kAppPop 3 2 (.int r) ⟨[.va (.adr p), x1, .ol left, .ol found, .va x], ar1⟩ = some (.nx ⟨[.va (.adr p), x1, .ol (left.eraseIdx r.toNat), .ol (found ++ [left[r.toNat]]), .va x], ar1⟩) := by
      have hi : ixN left.length r = some r.toNat := by
        unfold ixN
        rw [if_pos a1, if_pos a2]
      have hg : left[r.toNat]? = some left[r.toNat] := List.getElem?_eq_getElem hr
      have hf : found.length < LIM := by show found.length < 1000000; omega
      simp only [kAppPop, kPop, List.getElem?_cons_zero, List.getElem?_cons_succ, hi, hg, Option.bind_some, Option.map_some, List.set_cons_zero, List.set_cons_succ, if_pos hf]
    obtain ⟨f', lap', ar', e2, pe, ok2⟩ := shuf_loop (x1 := x1) (left.eraseIdx r.toNat) (found ++ [left[r.toNat]]) items (.va x) ar1 (by rw [List.length_eraseIdx_of_lt hr]; simp at hl; omega) (by rw [List.length_eraseIdx_of_lt hr, List.length_append]; simp; omega) ok1
    refine ⟨f', lap', ar', ?_, pe.trans ?_, ok2⟩
    · unfold forF
      show (match gAppPop 3 2 _ ⟨[.va (.adr p), x1, .ol left, .ol found, .va x], ar⟩ with
        | some (.nx s2) => _
        | some (.ct s2) => _
        | some (.bk s2) => _
        | o => _) = _
      have : gAppPop 3 2 (mCall (m__law_draw CL aH) (fCons (fVar true 0) (fCons (mCB gLen (fCons (fVar false 2) fNil)) fNil))) ⟨[.va (.adr p), x1, .ol left, .ol found, .va x], ar⟩ = some (.nx ⟨[.va (.adr p), x1, .ol (left.eraseIdx r.toNat), .ol (found ++ [left[r.toNat]]), .va x], ar1⟩) := by
        unfold gAppPop
        simp only [List.getElem?_cons_zero, List.getElem?_cons_succ]
        exact x_bind hc hk
      rw [this]
      exact e2
    · rw [List.append_assoc]
      refine List.Perm.append_left found ?_
      exact erase_perm left r.toNat hr
end
end K17
set_option Elab.async false
set_option linter.all false
set_option maxRecDepth 100000
namespace K17
open PySem L2 DL DLk
section
variable {p CL aH : Addr} {ns : List Int} {ar : Ar}
theorem f_bound {f : M (List D)} {s : DL.S} {ar1 : Ar} {xs : List D} (h : f s = some (.ok xs ar1)) (hl : xs.length ≤ LIM) : fBound f s = some (.ok xs ar1) := by
  unfold fBound DL.bindM
  rw [h]
  exact if_pos hl
theorem f_list {j : Nat} {xs : List D} {q : Bool} {s : DL.S} (h : fVar q j s = some (.ok (.lst xs) s.ar)) : mCBF gListA (fCons (fVar q j) fNil) s = some (.ok xs s.ar) := by
  unfold mCBF DL.bindM
  rw [e_cons h e_nil]
  rfl
theorem rg1_ok {n : Int} (h0 : 0 ≤ n) (h : n < 1000000) : rg1 [.int n] = some ((List.range n.toNat).map fun i : Nat => D.int ((0 : Int) + i)) := by
  unfold rg1
  exact if_pos (by
    rw [Bool.and_eq_true, decide_eq_true_eq, decide_eq_true_eq]
    omega)
theorem e_rg1 {f : M D} {s : DL.S} {n : Int} {ar1 : Ar} (h : f s = some (.ok (.int n) ar1)) (h2 : fCons f fNil s = some (.ok [.int n] ar1)) (h0 : 0 ≤ n) (h1 : n < 1000000) : mRg rg1 (fCons f fNil) s = some (.ok ((List.range n.toNat).map fun i : Nat => D.int ((0 : Int) + i)) ar1) := by
  unfold mRg DL.bindM
  rw [h2]
  dsimp only
  unfold DL.liftM
  rw [rg1_ok h0 h1]
  rfl
theorem s_parOO {i j : Nat} {f1 f2 : M (List D)} {s : DL.S} {xs ys : List D} {ar1 ar2 : Ar} (h1 : f1 s = some (.ok xs ar1)) (h2 : f2 { s with ar := ar1 } = some (.ok ys ar2)) (hi : i < s.sl.length) (hj : j < s.sl.length) : gParOO i j f1 f2 s = some (.nx ⟨(s.sl.set j (.ol ys)).set i (.ol xs), ar2⟩) := by
  unfold gParOO
  refine x_bind h1 ?_
  refine x_bind h2 ?_
  exact if_pos ⟨hi, hj⟩
theorem shuf1 {xs : List D} : gParOO 2 3 (mCBF gListA (fCons (fVar false 1) fNil)) (fBound fNil) ⟨[.va (.adr p), .va (.lst xs), .no, .no, .no], ar⟩ = some (.nx ⟨[.va (.adr p), .va (.lst xs), .ol xs, .ol [], .no], ar⟩) :=
  s_parOO (f_list (e_var rfl)) (f_bound e_nil (Nat.zero_le _)) (by show 2 < 5; decide) (by show 3 < 5; decide)
theorem shuf2 {xs : List D} {l1 l2 l3 : Sl} (hl : xs.length < 1000000) : mRg rg1 (fCons (mCB gLen (fCons (fVar false 1) fNil)) fNil) ⟨[.va (.adr p), .va (.lst xs), l1, l2, l3], ar⟩ = some (.ok ((List.range (xs.length : Int).toNat).map fun i : Nat => D.int ((0 : Int) + i)) ar) :=
  e_rg1 (e_len (e_var rfl)) (e_cons (e_len (e_var rfl)) e_nil) (by omega) (by omega)
theorem shuf_run {xs f' : List D} {lap' : Sl} {ar' : Ar} (hl : xs.length < 1000000) (e : forF (setT (.nm 4)) (gAppPop 3 2 (mCall (m__law_draw CL aH) (fCons (fVar true 0) (fCons (mCB gLen (fCons (fVar false 2) fNil)) fNil)))) ((List.range (xs.length : Int).toNat).map fun i : Nat => D.int ((0 : Int) + i)) ⟨[.va (.adr p), .va (.lst xs), .ol xs, .ol [], .no], ar⟩ = some (.nx ⟨[.va (.adr p), .va (.lst xs), .ol [], .ol f', lap'], ar'⟩)) : g__law_shuffled CL aH ⟨[.va (.adr p), .va (.lst xs), .no, .no, .no], ar⟩ = some (.rt (.lst f') ar') := by
  unfold g__law_shuffled
  refine x_seq shuf1 (x_seq (s' := ⟨[.va (.adr p), .va (.lst xs), .ol [], .ol f', lap'], ar'⟩) ?_ ?_)
  · unfold gFor
    exact x_bind (shuf2 hl) e
  · exact x_ret (e_var rfl)
theorem shuf_ok {xs : List D} (h : PenOk p ns ar) (hl : xs.length < 1000000) : ∃ ys ar', m__law_shuffled CL aH [.adr p, .lst xs] ar = some (.ok (.lst ys) ar') ∧ ys.Perm xs ∧ PenOk p ns ar' := by
  obtain ⟨f', lap', ar', e, pe, ok⟩ := shuf_loop (CL := CL) (aH := aH) (x1 := .va (.lst xs)) xs [] ((List.range (xs.length : Int).toNat).map fun i : Nat => D.int ((0 : Int) + i)) .no ar (by rw [List.length_map, List.length_range]; exact Int.toNat_natCast _) (by rw [List.length_nil]; exact hl) h
  refine ⟨f', ar', ?_, by rw [List.nil_append] at pe; exact pe, ok⟩
  unfold m__law_shuffled
  exact mir_rt rfl (shuf_run hl e)
end
end K17
set_option Elab.async false
set_option linter.all false
set_option maxRecDepth 100000
/-! PE: what expressions and statements come to at a state: the lemmas for going through a plain function -/
namespace K17
open PySem L2 DL DLk
theorem e_lstF {f : M (List D)} {s : DL.S} {xs : List D} {ar1 : Ar} (h : f s = some (.ok xs ar1)) : mLst f s = some (.ok (.lst xs) ar1) := by
  unfold mLst DL.bindM
  rw [h]
  rfl
theorem f_cb {f : M (List D)} {g : List D → Option (List D)} {s : DL.S} {ds xs : List D} {ar1 : Ar} (h : f s = some (.ok ds ar1)) (h2 : g ds = some xs) : mCBF g f s = some (.ok xs ar1) := by
  unfold mCBF DL.bindM
  rw [h]
  dsimp only
  unfold DL.liftM
  rw [h2]
  rfl
theorem f_op {g : D → D → Option (List D)} {f1 f2 : M D} {s : DL.S} {a b : D} {c : List D} {ar1 ar2 : Ar} (h1 : f1 s = some (.ok a ar1)) (h2 : f2 (s.wa ar1) = some (.ok b ar2)) (h3 : g a b = some c) : mOpF g f1 f2 s = some (.ok c ar2) := by
  unfold mOpF DL.bindM
  rw [h1]
  dsimp only
  rw [h2]
  dsimp only
  unfold DL.liftM
  rw [h3]
  rfl
theorem f_part {f : M D} {s : DL.S} {i : Int} {ar1 : Ar} (h : f s = some (.ok (.int i) ar1)) : fPart f s = some (.ok (some i) ar1) := by
  unfold fPart DL.bindM
  rw [h]
  rfl
theorem e_sl {f : M D} {fl fh : M (Option Int)} {s : DL.S} {d e : D} {lo hi : Option Int} {ar1 ar2 ar3 : Ar} (h1 : f s = some (.ok d ar1)) (h2 : fl (s.wa ar1) = some (.ok lo ar2)) (h3 : fh ((s.wa ar1).wa ar2) = some (.ok hi ar3)) (h4 : gSl d lo hi = some e) : mSl f fl fh s = some (.ok e ar3) := by
  unfold mSl DL.bindM
  rw [h1]
  dsimp only
  rw [h2]
  dsimp only
  rw [h3]
  dsimp only
  unfold DL.liftM
  rw [h4]
  rfl
theorem e_join {f g : M D} {s : DL.S} {z : Str} {d e : D} {ar1 ar2 : Ar} (h1 : f s = some (.ok (.str z) ar1)) (h2 : g (s.wa ar1) = some (.ok d ar2)) (h3 : gJoin (.str z) d = some e) : mJoin f g s = some (.ok e ar2) := by
  unfold mJoin DL.bindM
  rw [h1]
  dsimp only
  rw [if_pos (show isStrD (.str z) = true from rfl), h2]
  dsimp only
  unfold DL.liftM
  rw [h3]
  rfl
theorem e_tup {f : M (List D)} {s : DL.S} {xs : List D} {ar1 : Ar} (h : f s = some (.ok xs ar1)) (hl : xs.length ≤ LIM) : mTup f s = some (.ok (.tup xs) ar1) := by
  unfold mTup DL.bindM
  rw [h]
  exact if_pos hl
theorem e_mTru {f : M D} {s : DL.S} {d : D} {b : Bool} {ar1 : Ar} (h : f s = some (.ok d ar1)) (h2 : truD d = some b) : mTru f s = some (.ok b ar1) := by
  unfold mTru DL.bindM
  rw [h]
  dsimp only
  unfold DL.liftM
  rw [h2]
  rfl
theorem e_not {f : M Bool} {s : DL.S} {b : Bool} {ar1 : Ar} (h : f s = some (.ok b ar1)) : mNot f s = some (.ok (!b) ar1) := by
  unfold mNot DL.bindM
  rw [h]
  rfl
theorem e_notV {f : M D} {s : DL.S} {b : Bool} {ar1 : Ar} (h : f s = some (.ok (.bl b) ar1)) : mNotV f s = some (.ok (.bl (!b)) ar1) := by
  unfold mNotV DL.bindM
  rw [h]
  rfl
theorem e_orT {f g : M Bool} {s : DL.S} {ar1 : Ar} (h1 : f s = some (.ok true ar1)) : mOr f g s = some (.ok true ar1) := by
  unfold mOr DL.bindM
  rw [h1]
  rfl
theorem e_orF {f g : M Bool} {s : DL.S} {r : Option (R Bool)} {ar1 : Ar} (h1 : f s = some (.ok false ar1)) (h2 : g (s.wa ar1) = r) : mOr f g s = r := by
  unfold mOr DL.bindM
  rw [h1]
  exact h2
theorem e_andVT {f g : M D} {s : DL.S} {r : Option (R D)} {ar1 : Ar} (h1 : f s = some (.ok (.bl true) ar1)) (h2 : g (s.wa ar1) = r) : mAndV f g s = r := by
  unfold mAndV DL.bindM
  rw [h1]
  exact h2
theorem e_andVF {f g : M D} {s : DL.S} {ar1 : Ar} (h1 : f s = some (.ok (.bl false) ar1)) : mAndV f g s = some (.ok (.bl false) ar1) := by
  unfold mAndV DL.bindM
  rw [h1]
  rfl
theorem e_ifT {α : Type} {c : M Bool} {f g : M α} {s : DL.S} {ar : Ar} {r : Option (R α)} (h1 : c s = some (.ok true ar)) (h2 : f (s.wa ar) = r) : mIf c f g s = r := by
  unfold mIf DL.bindM
  rw [h1]
  exact h2
theorem e_ifF {α : Type} {c : M Bool} {f g : M α} {s : DL.S} {ar : Ar} {r : Option (R α)} (h1 : c s = some (.ok false ar)) (h2 : g (s.wa ar) = r) : mIf c f g s = r := by
  unfold mIf DL.bindM
  rw [h1]
  exact h2
theorem e_chain {g g' : D → D → Option D} {f1 f2 f3 : M D} {s : DL.S} {a b c d : D} {a1 a2 a3 : Ar} (h1 : f1 s = some (.ok a a1)) (h2 : f2 (s.wa a1) = some (.ok b a2)) (h3 : g a b = some (.bl true)) (h4 : f3 ((s.wa a1).wa a2) = some (.ok c a3)) (h5 : g' b c = some d) : mChain g g' f1 f2 f3 s = some (.ok d a3) := by
  unfold mChain DL.bindM
  rw [h1]
  dsimp only
  rw [h2]
  dsimp only
  unfold DL.liftM
  rw [h3]
  dsimp only [Option.map]
  rw [h4]
  dsimp only
  rw [h5]
theorem e_chainF {g g' : D → D → Option D} {f1 f2 f3 : M D} {s : DL.S} {a b : D} {a1 a2 : Ar} (h1 : f1 s = some (.ok a a1)) (h2 : f2 (s.wa a1) = some (.ok b a2)) (h3 : g a b = some (.bl false)) : mChain g g' f1 f2 f3 s = some (.ok (.bl false) a2) := by
  unfold mChain DL.bindM
  rw [h1]
  dsimp only
  rw [h2]
  dsimp only
  unfold DL.liftM
  rw [h3]
  rfl
theorem e_callP {q1 : Bool} {mir : Mir} {f : M (List D)} {s : DL.S} {ds : List D} {d : D} {ar1 : Ar} (h1 : f s = some (.ok ds ar1)) (h2 : mir ds [] = some (.ok d [])) (hq : (q1 || d.flat) = true) : mCallP q1 mir f s = some (.ok d ar1) := by
  unfold mCallP DL.bindM
  rw [h1]
  dsimp only
  rw [h2]
  exact if_pos hq
theorem e_fld {C : Addr} {f : Str} {m : M D} {s : DL.S} {ns : List Str} {xs : List D} {d : D} {ar1 : Ar} (h1 : m s = some (.ok (.ins C ns xs) ar1)) (h2 : kvAt ns xs f = some d) : mFld C f m s = some (.ok d ar1) := by
  unfold mFld DL.bindM
  rw [h1]
  show (if C = C then (kvAt ns xs f).map fun d => R.ok d ar1 else none) = _
  rw [if_pos rfl, h2]
  rfl
theorem e_make {C : Addr} {mk : List D → Option (List Str × List D)} {f : M (List D)} {s : DL.S} {ds : List D} {ns : List Str} {xs : List D} {ar1 : Ar} (h1 : f s = some (.ok ds ar1)) (h2 : mk ds = some (ns, xs)) : mMake C mk f s = some (.ok (.ins C ns xs) ar1) := by
  unfold mMake DL.bindM
  rw [h1]
  dsimp only
  rw [h2]
  rfl
theorem e_seqI {f : M D} {s : DL.S} {d : D} {xs : List D} {ar1 : Ar} (h1 : f s = some (.ok d ar1)) (h2 : sqItems d = some xs) : mSeq f s = some (.ok xs ar1) := by
  unfold mSeq DL.bindM
  rw [h1]
  dsimp only
  unfold DL.liftM
  rw [h2]
  rfl
theorem e_rg {g : List D → Option (List D)} {f : M (List D)} {s : DL.S} {ds xs : List D} {ar1 : Ar} (h1 : f s = some (.ok ds ar1)) (h2 : g ds = some xs) : mRg g f s = some (.ok xs ar1) := by
  unfold mRg DL.bindM
  rw [h1]
  dsimp only
  unfold DL.liftM
  rw [h2]
  rfl
theorem e_get {f g : M D} {s : DL.S} {d k r : D} {a1 a2 : Ar} (h1 : f s = some (.ok d a1)) (hd : isDk d = true) (h2 : g (s.wa a1) = some (.ok k a2)) (h3 : gGet d k = some r) : mGet f g s = some (.ok r a2) := by
  unfold mGet DL.bindM
  rw [h1]
  dsimp only
  rw [if_pos hd, h2]
  dsimp only
  unfold DL.liftM
  rw [h3]
  rfl
theorem f_star {f : M D} {g : M (List D)} {s : DL.S} {xs ds : List D} {a1 a2 : Ar} (h1 : f s = some (.ok (.lst xs) a1)) (h2 : g (s.wa a1) = some (.ok ds a2)) : fStar f g s = some (.ok (xs ++ ds) a2) := by
  unfold fStar DL.bindM
  rw [h1]
  dsimp only
  rw [h2]
  rfl
theorem rgOkN {n : Nat} (hn : n ≤ 1000000) : rgOk 0 (n : Int) = true := by
  have h1 : decide (-(2 ^ 62) ≤ (0 : Int)) = true := by decide
  have h2 : decide ((0 : Int) < 2 ^ 62) = true := by decide
  have h3 : decide (-(2 ^ 62) ≤ (n : Int)) = true := decide_eq_true (by omega)
  have h4 : decide ((n : Int) < 2 ^ 62) = true := decide_eq_true (by omega)
  have h5 : decide (((n : Int) - 0).toNat ≤ LIM) = true := decide_eq_true (by rw [Int.sub_zero, Int.toNat_natCast]; exact hn)
  unfold rgOk
  rw [h1, h2, h3, h4, h5]
  rfl
theorem f_rgL {f : M D} {s : DL.S} {n : Nat} {a1 : Ar} (h : f s = some (.ok (.int n) a1)) (hn : n ≤ 1000000) : fRgL (fRg1 f) s = some (.ok ((List.range n).map fun i : Nat => D.int (i : Nat)) a1) := by
  have hf : fRg1 f s = some (.ok (0, (n : Int)) a1) := by
    unfold fRg1 DL.bindM
    rw [h]
    rfl
  unfold fRgL DL.bindM
  rw [hf]
  dsimp only
  rw [if_pos (rgOkN hn)]
  unfold rgD
  rw [Int.sub_zero, Int.toNat_natCast]
  simp [DL.liftM]
theorem rgN {n : Nat} (h : n < 1000000) : rg1 [.int (n : Int)] = some ((List.range n).map fun i : Nat => D.int (i : Nat)) := by
  rw [rg1_ok (by omega) (by omega), Int.toNat_natCast]
  simp
/-! ### comprehensions -/
theorem lc_fm {α : Type} {set : D → DL.S → Option DL.S} {ft : M Bool} {fe : M D} {s0 : DL.S} {f : α → D} {g : α → D} {p : α → Bool} {ar : Ar} : ∀ (L : List α) (acc : List D),
    (∀ a ∈ L, ∃ s1, set (f a) (s0.wa ar) = some s1 ∧ ft s1 = some (.ok (p a) ar) ∧ (p a = true → fe (s1.wa ar) = some (.ok (g a) ar))) →
    lcF set ft fe s0 (L.map f) acc ar = some (acc ++ (L.filter p).map g, ar)
  | [], acc, _ => by simp [lcF]
  | a :: L, acc, h => by
    obtain ⟨s1, h1, h2, h3⟩ := h a (List.mem_cons_self ..)
    have ih := fun acc => lc_fm L acc fun b hb => h b (List.mem_cons_of_mem _ hb)
    rw [List.map_cons]
    unfold lcF
    rw [h1]
    dsimp only [Option.bind]
    rw [h2]
    cases z : p a with
    | true =>
      dsimp only
      rw [h3 z]
      dsimp only
      rw [ih, List.filter_cons_of_pos z, List.map_cons, List.append_assoc]
      rfl
    | false =>
      dsimp only
      rw [ih, List.filter_cons_of_neg (by rw [z]; decide)]
theorem e_lc {α : Type} {vs : List Nat} {T : Tg} {fi : M (List D)} {ft : M Bool} {fe : M D} {s s0 : DL.S} {L : List α} {f g : α → D} {p : α → Bool} {ar : Ar} (hi : fi s = some (.ok (L.map f) ar)) (hl : L.length ≤ LIM) (hw : wipeS vs (s.wa ar) = some s0)
    (h : ∀ a ∈ L, ∃ s1, setT T (f a) (s0.wa ar) = some s1 ∧ ft s1 = some (.ok (p a) ar) ∧ (p a = true → fe (s1.wa ar) = some (.ok (g a) ar))) : mLc vs T fi ft fe s = some (.ok ((L.filter p).map g) ar) := by
  unfold mLc DL.bindM
  rw [hi]
  dsimp only
  rw [if_pos (show (L.map f).length ≤ LIM from by rw [List.length_map]; exact hl), hw]
  dsimp only [Option.bind]
  rw [lc_fm L [] h]
  rfl
/-- without a test -/
theorem e_lcY {α : Type} {vs : List Nat} {T : Tg} {fi : M (List D)} {fe : M D} {s s0 : DL.S} {L : List α} {f g : α → D} {ar : Ar} (hi : fi s = some (.ok (L.map f) ar)) (hl : L.length ≤ LIM) (hw : wipeS vs (s.wa ar) = some s0)
    (h : ∀ a ∈ L, ∃ s1, setT T (f a) (s0.wa ar) = some s1 ∧ s1.ar = ar ∧ fe (s1.wa ar) = some (.ok (g a) ar)) : mLc vs T fi fYes fe s = some (.ok (L.map g) ar) := by
  have := e_lc (p := fun _ => true) (ft := fYes) hi hl hw fun a ha => by
    obtain ⟨s1, h1, h2, h3⟩ := h a ha
    exact ⟨s1, h1, by show some (R.ok true s1.ar) = _; rw [h2], fun _ => h3⟩
  rw [List.filter_eq_self.mpr (fun _ _ => rfl)] at this
  exact this
/-- elements that draw -/
theorem lc_ar {α : Type} {set : D → DL.S → Option DL.S} {fe : M D} {s0 : DL.S} {f : α → D} {I : Ar → Prop} {J : α → D → Prop} : ∀ (L : List α) (acc : List D) (ar : Ar), I ar →
    (∀ a ∈ L, ∀ ar, I ar → ∃ s1 d ar2, set (f a) (s0.wa ar) = some s1 ∧ s1.ar = ar ∧ fe (s1.wa ar) = some (.ok d ar2) ∧ I ar2 ∧ J a d) →
    ∃ ds ar2, lcF set fYes fe s0 (L.map f) acc ar = some (acc ++ ds, ar2) ∧ I ar2 ∧ ds.length = L.length ∧ ∀ d ∈ ds, ∃ a ∈ L, J a d
  | [], acc, ar, i, _ => ⟨[], ar, by simp [lcF], i, rfl, by simp⟩
  | a :: L, acc, ar, i, h => by
    obtain ⟨s1, d, ar1, h1, h2, h3, i1, j1⟩ := h a (List.mem_cons_self ..) ar i
    obtain ⟨ds, ar2, h4, i2, l2, j2⟩ := lc_ar L (acc ++ [d]) ar1 i1 fun b hb => h b (List.mem_cons_of_mem _ hb)
    refine ⟨d :: ds, ar2, ?_, i2, by rw [List.length_cons, List.length_cons, l2], fun x hx => ?_⟩
    · rw [List.map_cons]
      unfold lcF
      rw [h1]
      dsimp only [Option.bind]
      rw [show fYes s1 = some (.ok true ar) from by show some (R.ok true s1.ar) = _; rw [h2]]
      dsimp only
      rw [h3]
      dsimp only
      rw [h4, List.append_assoc]
      rfl
    · cases hx with
      | head => exact ⟨a, List.mem_cons_self .., j1⟩
      | tail _ hx =>
        obtain ⟨b, hb, jb⟩ := j2 x hx
        exact ⟨b, List.mem_cons_of_mem _ hb, jb⟩
theorem e_lcA {α : Type} {vs : List Nat} {T : Tg} {fi : M (List D)} {fe : M D} {s s0 : DL.S} {L : List α} {f : α → D} {I : Ar → Prop} {J : α → D → Prop} {ar : Ar} (hi : fi s = some (.ok (L.map f) ar)) (hl : L.length ≤ LIM) (hw : wipeS vs (s.wa ar) = some s0) (i : I ar)
    (h : ∀ a ∈ L, ∀ ar, I ar → ∃ s1 d ar2, setT T (f a) (s0.wa ar) = some s1 ∧ s1.ar = ar ∧ fe (s1.wa ar) = some (.ok d ar2) ∧ I ar2 ∧ J a d) :
    ∃ ds ar2, mLc vs T fi fYes fe s = some (.ok ds ar2) ∧ I ar2 ∧ ds.length = L.length ∧ ∀ d ∈ ds, ∃ a ∈ L, J a d := by
  obtain ⟨ds, ar2, h4, i2, l2, j2⟩ := lc_ar L [] ar i h
  refine ⟨ds, ar2, ?_, i2, l2, j2⟩
  unfold mLc DL.bindM
  rw [hi]
  dsimp only
  rw [if_pos (show (L.map f).length ≤ LIM from by rw [List.length_map]; exact hl), hw]
  dsimp only [Option.bind]
  rw [h4]
  rfl
/-! ### statements -/
theorem x_put {T : Tg} {f : M D} {s s' : DL.S} {d : D} {ar1 : Ar} (h : f s = some (.ok d ar1)) (h2 : setT T d (s.wa ar1) = some s') : gBind f (kPut T) s = some (.nx s') := by
  refine x_bind h ?_
  unfold kPut
  rw [h2]
  rfl
theorem x_own {i : Nat} {f : M (List D)} {s : DL.S} {xs : List D} {ar1 : Ar} (h : f s = some (.ok xs ar1)) (hi : i < s.sl.length) : gBind f (kOwn i) s = some (.nx ⟨s.sl.set i (.ol xs), ar1⟩) := by
  refine x_bind h ?_
  exact if_pos hi
theorem x_par {i j : Nat} {f1 f2 : M D} {s s1 s2 : DL.S} {d1 d2 : D} {a1 a2 : Ar} (h1 : f1 s = some (.ok d1 a1)) (h2 : f2 (s.wa a1) = some (.ok d2 a2)) (h3 : S.put ((s.wa a1).wa a2) i d1 = some s1) (h4 : s1.put j d2 = some s2) : gPar i j f1 f2 s = some (.nx s2) := by
  unfold gPar
  refine x_bind h1 (x_bind h2 ?_)
  unfold put2
  rw [h3]
  dsimp only [Option.bind]
  rw [h4]
  rfl
theorem x_expr {f : M D} {s : DL.S} {d : D} {ar1 : Ar} (h : f s = some (.ok d ar1)) : gBind f (fun _ s => some (.nx s)) s = some (.nx (s.wa ar1)) := x_bind h rfl
theorem x_nil {s : DL.S} : DL.gNil s = some (.nx s) := rfl
theorem x_ifN {c : M Bool} {g1 : G} {s : DL.S} {ar : Ar} (h1 : c s = some (.ok false ar)) : gIf c g1 DL.gNil s = some (.nx (s.wa ar)) := x_bind h1 rfl
theorem x_mut {i : Nat} {g : List D → D → Option (List D)} {f : M D} {s : DL.S} {xs ys : List D} {d : D} {ar1 : Ar} (h0 : s.sl[i]? = some (.ol xs)) (h1 : f s = some (.ok d ar1)) (h2 : g xs d = some ys) : gMut i g f s = some (.nx ⟨s.sl.set i (.ol ys), ar1⟩) := by
  unfold gMut
  rw [h0]
  dsimp only
  refine x_bind h1 ?_
  unfold kMut
  rw [show (s.wa ar1).sl[i]? = some (.ol xs) from h0]
  dsimp only
  rw [h2]
  rfl
theorem x_for {T : Tg} {fi : M (List D)} {g : G} {s : DL.S} {xs : List D} {ar1 : Ar} {r : Option Out} (h1 : fi s = some (.ok xs ar1)) (h2 : forF (setT T) g xs (s.wa ar1) = r) : gFor T fi g s = r := by
  unfold gFor
  exact x_bind h1 h2
/-- a loop that goes through -/
theorem for_inv {α : Type} {set : D → DL.S → Option DL.S} {g : G} {f : α → D} (I : List α → List α → DL.S → Prop) : ∀ (L done : List α) (s : DL.S), I done L s →
    (∀ done a L s, I done (a :: L) s → ∃ s1 s2, set (f a) s = some s1 ∧ g s1 = some (.nx s2) ∧ I (done ++ [a]) L s2) →
    ∃ s', forF set g (L.map f) s = some (.nx s') ∧ I (done ++ L) [] s'
  | [], done, s, i, _ => ⟨s, rfl, by rw [List.append_nil]; exact i⟩
  | a :: L, done, s, i, h => by
    obtain ⟨s1, s2, h1, h2, i2⟩ := h done a L s i
    obtain ⟨s', h3, i3⟩ := for_inv I L (done ++ [a]) s2 i2 h
    refine ⟨s', ?_, by rw [List.append_assoc] at i3; exact i3⟩
    rw [List.map_cons]
    unfold forF
    rw [h1]
    dsimp only [Option.bind]
    rw [h2]
    exact h3
theorem mir_nx {g : G} {n L : Nat} {ds : List D} {ar : Ar} {s : DL.S} (hn : ds.length = n) (h : g ⟨ds.map .va ++ List.replicate (L - n) .no, ar⟩ = some (.nx s)) : mirOf g n L ds ar = some (.ok .non s.ar) := by
  unfold mirOf
  rw [if_pos hn, h]
end K17
set_option Elab.async false
set_option linter.all false
set_option maxRecDepth 100000
namespace K17
open PySem L2 DL DLk
section
variable {p CL aH : Addr} {ns : List Int} {ar : Ar}
def abcxy : List Nat := [97, 98, 99, 120, 121]
def ltr (c : Nat) : D := .str ⟨#[c]⟩
theorem list_txt {cs : List Nat} (h : cs.length ≤ 1000) : gListA [.str ⟨cs.toArray⟩] = some (cs.map ltr) := by
  show (if (⟨cs.toArray⟩ : Str).cps.size ≤ 16777216 then some ((⟨cs.toArray⟩ : Str).cps.toList.map fun c => D.str ⟨#[c]⟩) else none) = _
  rw [if_pos (show cs.toArray.size ≤ 16777216 from by rw [List.size_toArray]; omega)]
  rfl
theorem abc_eq : ("abcxy" : Str) = ⟨abcxy.toArray⟩ := by decide +kernel
theorem perm_map {ys : List D} {xs : List Nat} (h : List.Perm ys (xs.map ltr)) : ∃ zs : List Nat, ys = zs.map ltr ∧ List.Perm zs xs := by
  have h0 : ∀ y ∈ ys, ∃ z, y = ltr z := fun y hy => by
    obtain ⟨z, _, rfl⟩ := List.mem_map.mp (h.mem_iff.mp hy)
    exact ⟨z, rfl⟩
  have : ∃ zs : List Nat, ys = zs.map ltr := by
    clear h
    induction ys with
    | nil => exact ⟨[], rfl⟩
    | cons y ys ih =>
      obtain ⟨z, rfl⟩ := h0 y (List.mem_cons_self ..)
      obtain ⟨zs, rfl⟩ := ih fun y hy => h0 y (List.mem_cons_of_mem _ hy)
      exact ⟨z :: zs, rfl⟩
  obtain ⟨zs, rfl⟩ := this
  refine ⟨zs, rfl, ?_⟩
  have h2 := h.map (fun d => match d with | D.str z => z.cps.getD 0 0 | _ => 0)
  have e : (fun d => match d with | D.str z => z.cps.getD 0 0 | _ => 0) ∘ ltr = id := by
    funext c; rfl
  rw [List.map_map, List.map_map, e, List.map_id, List.map_id] at h2
  exact h2
theorem strs_of : ∀ zs : List Nat, strsOf (zs.map ltr) = some (zs.map fun c => (⟨#[c]⟩ : Str))
  | [] => rfl
  | z :: zs => by
    have := strs_of zs
    simp only [List.map_cons, strsOf, ltr] at this ⊢
    rw [this]
    rfl
theorem join_ltr : ∀ zs : List Nat, Txt.join "" (zs.map fun c => (⟨#[c]⟩ : Str)) = ⟨zs.toArray⟩ := by
  intro zs
  have h0 : ("" : Str) = ⟨#[]⟩ := by decide +kernel
  rw [show ∀ y ps, Txt.join y ps = Str.join y ps from StrLaws.glued_eq_join, h0]
  induction zs with
  | nil => rfl
  | cons z zs ih =>
    cases zs with
    | nil => rfl
    | cons y zs =>
      rw [List.map_cons, List.map_cons]
      show (⟨#[z]⟩ : Str) ++ ⟨#[]⟩ ++ Str.join ⟨#[]⟩ _ = _
      rw [List.map_cons] at ih
      rw [ih]
      show (⟨#[z] ++ #[] ++ (y :: zs).toArray⟩ : Str) = _
      simp
theorem letters_ok (h : PenOk p ns ar) : ∃ (cs : List Nat) (ar' : Ar), m__law_letters CL aH [.adr p] ar = some (.ok (.str ⟨cs.toArray⟩) ar') ∧ cs.Nodup ∧ 1 ≤ cs.length ∧ cs.length ≤ 3 ∧ (∀ c ∈ cs, c ∈ abcxy) ∧ PenOk p ns ar' := by
  obtain ⟨ys, ar1, e1, pe, ok1⟩ := shuf_ok (CL := CL) (aH := aH) (xs := abcxy.map ltr) h (by show 5 < 1000000; decide)
  obtain ⟨zs, rfl, pz⟩ := perm_map pe
  obtain ⟨r, ar2, e2, a1, a2, ok2⟩ := draw' (CL := CL) (aH := aH) (many := 3) ok1 (by decide) (by decide)
  have hz : zs.length = 5 := pz.length_eq
  obtain ⟨k, rfl⟩ : ∃ k : Nat, r = (k : Int) := ⟨r.toNat, (Int.toNat_of_nonneg a1).symm⟩
  have hk : k < 3 := by omega
  have nd : zs.Nodup := pz.nodup_iff.mpr (by decide)
  refine ⟨zs.take (1 + k), ar2, ?_, nd.sublist (List.take_sublist _ _), by rw [List.length_take]; omega, by rw [List.length_take]; omega, fun c hc => pz.mem_iff.mp (List.mem_of_mem_take hc), ok2⟩
  unfold m__law_letters
  refine mir_rt rfl ?_
  unfold g__law_letters
  refine x_ret (e_join e_c (e_sl (lo := none) (hi := some (1 + (k : Int))) (e_call (e_cons (e_var rfl) (e_cons (e_lstF (f_cb (e_cons e_c e_nil) ?_)) e_nil)) e1) rfl (f_part (e_op e_c (e_call (e_cons (e_var rfl) (e_cons e_c e_nil)) e2) rfl)) rfl) ?_)
  · rw [abc_eq]; exact list_txt (by decide)
  · have hc : cutD (zs.map ltr) none (some (1 + (k : Int))) = (zs.take (1 + k)).map ltr := by
      unfold cutD
      rw [show (1 : Int) + (k : Int) = ((1 + k : Nat) : Int) from by omega, HT.sIx_nat, HT.sIx_none, List.length_map, Nat.sub_zero, List.drop_zero, Nat.min_eq_left (by omega), List.map_take]
    rw [hc]
    show (strsOf _).bind _ = _
    rw [strs_of]
    dsimp only [Option.bind]
    rw [if_pos, join_ltr]
    have hl : ((zs.take (1 + k)).map fun c => (⟨#[c]⟩ : Str)).length ≤ 3 := by rw [List.length_map, List.length_take]; omega
    have : ∀ l : List Nat, ((l.map fun c => (⟨#[c]⟩ : Str)).map (·.length)).sum = l.length := fun l => by
      induction l with
      | nil => rfl
      | cons a l ih => rw [List.map_cons, List.map_cons, List.sum_cons, ih, List.length_cons]; show 1 + _ = _; omega
    rw [this, show ("" : Str).length = 0 from by decide +kernel, Nat.mul_zero, List.length_take]
    omega
end
end K17
set_option Elab.async false
set_option linter.all false
/-! LM: lattices of numbers below n, terms, with no program in sight -/
namespace K17
structure Lat (n : Nat) (le : Nat → Nat → Bool) (B E : Nat → Nat → Nat) : Prop where
  refl : ∀ a, a < n → le a a = true
  anti : ∀ a, a < n → ∀ b, b < n → le a b = true → le b a = true → a = b
  tr : ∀ a, a < n → ∀ b, b < n → ∀ c, c < n → le a b = true → le b c = true → le a c = true
  bn : ∀ a, a < n → ∀ b, b < n → B a b < n
  en : ∀ a, a < n → ∀ b, b < n → E a b < n
  bi : ∀ a, a < n → ∀ b, b < n → ∀ c, c < n → le c (B a b) = (le c a && le c b)
  ei : ∀ a, a < n → ∀ b, b < n → ∀ c, c < n → le (E a b) c = (le a c && le b c)
namespace Lat
variable {n : Nat} {le : Nat → Nat → Bool} {B E : Nat → Nat → Nat}
theorem dual (L : Lat n le B E) : Lat n (fun a b => le b a) E B :=
  ⟨L.refl, fun a ha b hb h1 h2 => L.anti a ha b hb h2 h1, fun a ha b hb c hc h1 h2 => L.tr c hc b hb a ha h2 h1, L.en, L.bn, fun a ha b hb c hc => L.ei a ha b hb c hc, fun a ha b hb c hc => L.bi a ha b hb c hc⟩
variable (L : Lat n le B E) {a b c a' b' : Nat} (ha : a < n) (hb : b < n) (hc : c < n) (ha' : a' < n) (hb' : b' < n)
include L ha hb
theorem bl : le (B a b) a = true := by
  have h := L.bi a ha b hb (B a b) (L.bn a ha b hb)
  rw [L.refl _ (L.bn a ha b hb)] at h
  exact ((Bool.and_eq_true _ _).mp h.symm).1
theorem br : le (B a b) b = true := by
  have h := L.bi a ha b hb (B a b) (L.bn a ha b hb)
  rw [L.refl _ (L.bn a ha b hb)] at h
  exact ((Bool.and_eq_true _ _).mp h.symm).2
theorem el : le a (E a b) = true := L.dual.bl ha hb
theorem er : le b (E a b) = true := L.dual.br ha hb
include hc in
theorem glb (h1 : le c a = true) (h2 : le c b = true) : le c (B a b) = true := by
  rw [L.bi a ha b hb c hc, h1, h2]; rfl
include hc in
theorem lub (h1 : le a c = true) (h2 : le b c = true) : le (E a b) c = true := L.dual.glb ha hb hc h1 h2
theorem bcomm : B b a = B a b :=
  L.anti _ (L.bn b hb a ha) _ (L.bn a ha b hb) (L.glb ha hb (L.bn b hb a ha) (L.br hb ha) (L.bl hb ha)) (L.glb hb ha (L.bn a ha b hb) (L.br ha hb) (L.bl ha hb))
theorem ecomm : E b a = E a b := L.dual.bcomm ha hb
theorem babs : B a (E a b) = a :=
  L.anti _ (L.bn a ha _ (L.en a ha b hb)) _ ha (L.bl ha (L.en a ha b hb)) (L.glb ha (L.en a ha b hb) ha (L.refl a ha) (L.el ha hb))
theorem eabs : E a (B a b) = a := L.dual.babs ha hb
include hc in
theorem bassoc : B (B a b) c = B a (B b c) := by
  have h1 := L.bn a ha b hb
  have h2 := L.bn b hb c hc
  have h3 := L.bn _ h1 c hc
  have h4 := L.bn a ha _ h2
  refine L.anti _ h3 _ h4 ?_ ?_
  · refine L.glb ha h2 h3 (L.tr _ h3 _ h1 _ ha (L.bl h1 hc) (L.bl ha hb)) (L.glb hb hc h3 (L.tr _ h3 _ h1 _ hb (L.bl h1 hc) (L.br ha hb)) (L.br h1 hc))
  · refine L.glb h1 hc h4 (L.glb ha hb h4 (L.bl ha h2) (L.tr _ h4 _ h2 _ hb (L.br ha h2) (L.bl hb hc))) (L.tr _ h4 _ h2 _ hc (L.br ha h2) (L.br hb hc))
include hc in
theorem eassoc : E (E a b) c = E a (E b c) := L.dual.bassoc ha hb hc
theorem le_b : le a b = decide (B a b = a) := by
  rw [Bool.eq_iff_iff, decide_eq_true_eq]
  constructor
  · intro h
    exact L.anti _ (L.bn a ha b hb) _ ha (L.bl ha hb) (L.glb ha hb ha (L.refl a ha) h)
  · intro h
    have := L.br ha hb
    rw [h] at this
    exact this
theorem le_e : le a b = decide (E a b = b) := by
  have := L.dual.le_b hb ha
  rw [L.ecomm ha hb] at this
  exact this
include ha' hb' in
theorem bmono (h1 : le a a' = true) (h2 : le b b' = true) : le (B a b) (B a' b') = true :=
  L.glb ha' hb' (L.bn a ha b hb) (L.tr _ (L.bn a ha b hb) _ ha _ ha' (L.bl ha hb) h1) (L.tr _ (L.bn a ha b hb) _ hb _ hb' (L.br ha hb) h2)
include ha' hb' in
theorem emono (h1 : le a a' = true) (h2 : le b b' = true) : le (E a b) (E a' b') = true := L.dual.bmono ha' hb' ha hb h1 h2
end Lat
/-- a renumbering of the numbers below n -/
structure Ren (n : Nat) (σ τ : Nat → Nat) : Prop where
  sn : ∀ a, a < n → σ a < n
  tn : ∀ a, a < n → τ a < n
  ts : ∀ a, a < n → τ (σ a) = a
  st : ∀ a, a < n → σ (τ a) = a
theorem Lat.move {n : Nat} {le : Nat → Nat → Bool} {B E : Nat → Nat → Nat} {σ τ : Nat → Nat} (L : Lat n le B E) (R : Ren n σ τ) : Lat n (fun a b => le (τ a) (τ b)) (fun a b => σ (B (τ a) (τ b))) (fun a b => σ (E (τ a) (τ b))) where
  refl a ha := L.refl _ (R.tn a ha)
  anti a ha b hb h1 h2 := by
    have := L.anti _ (R.tn a ha) _ (R.tn b hb) h1 h2
    rw [← R.st a ha, ← R.st b hb, this]
  tr a ha b hb c hc h1 h2 := L.tr _ (R.tn a ha) _ (R.tn b hb) _ (R.tn c hc) h1 h2
  bn a ha b hb := R.sn _ (L.bn _ (R.tn a ha) _ (R.tn b hb))
  en a ha b hb := R.sn _ (L.en _ (R.tn a ha) _ (R.tn b hb))
  bi a ha b hb c hc := by
    show le (τ c) (τ (σ (B (τ a) (τ b)))) = _
    rw [R.ts _ (L.bn _ (R.tn a ha) _ (R.tn b hb))]
    exact L.bi _ (R.tn a ha) _ (R.tn b hb) _ (R.tn c hc)
  ei a ha b hb c hc := by
    show le (τ (σ (E (τ a) (τ b)))) (τ c) = _
    rw [R.ts _ (L.en _ (R.tn a ha) _ (R.tn b hb))]
    exact L.ei _ (R.tn a ha) _ (R.tn b hb) _ (R.tn c hc)
/-- a list of all numbers below n is a renumbering -/
theorem ren_of {n : Nat} {l : List Nat} (h : l.Perm (List.range n)) : ∃ τ, Ren n (fun a => l.getD a 0) τ := by
  have hl : l.length = n := by rw [h.length_eq, List.length_range]
  have nd : l.Nodup := h.nodup_iff.mpr List.nodup_range
  have pw := List.pairwise_iff_getElem.mp nd
  have hs : ∀ a (ha : a < n), l.getD a 0 = l[a]'(by omega) := fun a ha => by
    rw [List.getD_eq_getElem?_getD, List.getElem?_eq_getElem (by omega)]; rfl
  have sn : ∀ a, a < n → l.getD a 0 < n := fun a ha => by
    rw [hs a ha]
    exact List.mem_range.mp (h.mem_iff.mp (List.getElem_mem _))
  have inj : ∀ a, a < n → ∀ b, b < n → l.getD a 0 = l.getD b 0 → a = b := fun a ha b hb e => by
    rw [hs a ha, hs b hb] at e
    rcases Nat.lt_trichotomy a b with z | z | z
    · exact absurd e (pw a b (by omega) (by omega) z)
    · exact z
    · exact absurd e.symm (pw b a (by omega) (by omega) z)
  have sur : ∀ b, b < n → ∃ a, a < n ∧ l.getD a 0 = b := fun b hb => by
    obtain ⟨i, hi, e⟩ := List.getElem_of_mem (h.mem_iff.mpr (List.mem_range.mpr hb))
    exact ⟨i, by omega, by rw [hs i (by omega)]; exact e⟩
  refine ⟨fun b => if hb : b < n then (sur b hb).choose else 0, ⟨sn, fun b hb => ?_, fun a ha => ?_, fun b hb => ?_⟩⟩
  · rw [dif_pos hb]; exact (sur b hb).choose_spec.1
  · rw [dif_pos (sn a ha)]
    exact inj _ (sur _ (sn a ha)).choose_spec.1 _ ha (sur _ (sn a ha)).choose_spec.2
  · rw [dif_pos hb]; exact (sur b hb).choose_spec.2
theorem perm_eq_map {n : Nat} {l : List Nat} (h : l.Perm (List.range n)) : l = (List.range n).map fun a => l.getD a 0 := by
  have hl : l.length = n := by rw [h.length_eq, List.length_range]
  refine List.ext_getElem (by rw [List.length_map, List.length_range, hl]) fun i h1 h2 => ?_
  rw [List.getElem_map, List.getElem_range, List.getD_eq_getElem?_getD, List.getElem?_eq_getElem h1]
  rfl
/-- terms -/
inductive Tm where
  | lf (c : Nat)
  | nd (b : Bool) (l r : Tm)
namespace Tm
def ev (B E : Nat → Nat → Nat) (v : Nat → Nat) : Tm → Nat
  | lf c => v c
  | nd true l r => B (ev B E v l) (ev B E v r)
  | nd false l r => E (ev B E v l) (ev B E v r)
def turn : Tm → Tm
  | lf c => lf c
  | nd b l r => nd (!b) l.turn r.turn
def put (u : Nat → Tm) : Tm → Tm
  | lf c => u c
  | nd b l r => nd b (l.put u) (r.put u)
def In (cs : List Nat) : Tm → Prop
  | lf c => c ∈ cs
  | nd _ l r => l.In cs ∧ r.In cs
def dep : Tm → Nat
  | lf _ => 1
  | nd _ l r => 1 + max l.dep r.dep
def size : Tm → Nat
  | lf _ => 1
  | nd _ l r => 1 + l.size + r.size
variable {n : Nat} {le : Nat → Nat → Bool} {B E : Nat → Nat → Nat} {cs : List Nat} {v w : Nat → Nat}
theorem ev_lt (L : Lat n le B E) (hv : ∀ c ∈ cs, v c < n) : ∀ {t : Tm}, t.In cs → t.ev B E v < n
  | lf c, h => hv c h
  | nd true l r, h => L.bn _ (ev_lt L hv h.1) _ (ev_lt L hv h.2)
  | nd false l r, h => L.en _ (ev_lt L hv h.1) _ (ev_lt L hv h.2)
theorem ev_mono (L : Lat n le B E) (hv : ∀ c ∈ cs, v c < n) (hw : ∀ c ∈ cs, w c < n) (h : ∀ c ∈ cs, le (v c) (w c) = true) : ∀ {t : Tm}, t.In cs → le (t.ev B E v) (t.ev B E w) = true
  | lf c, i => h c i
  | nd true l r, i => L.bmono (ev_lt L hv i.1) (ev_lt L hv i.2) (ev_lt L hw i.1) (ev_lt L hw i.2) (ev_mono L hv hw h i.1) (ev_mono L hv hw h i.2)
  | nd false l r, i => L.emono (ev_lt L hv i.1) (ev_lt L hv i.2) (ev_lt L hw i.1) (ev_lt L hw i.2) (ev_mono L hv hw h i.1) (ev_mono L hv hw h i.2)
theorem ev_turn : ∀ t : Tm, t.turn.ev E B v = t.ev B E v
  | lf c => rfl
  | nd true l r => by simp [turn, ev, ev_turn l, ev_turn r]
  | nd false l r => by simp [turn, ev, ev_turn l, ev_turn r]
theorem ev_put {u : Nat → Tm} : ∀ t : Tm, (t.put u).ev B E v = t.ev B E (fun c => (u c).ev B E v)
  | lf c => rfl
  | nd true l r => by simp [put, ev, ev_put l, ev_put r]
  | nd false l r => by simp [put, ev, ev_put l, ev_put r]
theorem ev_cong (h : ∀ c ∈ cs, v c = w c) : ∀ {t : Tm}, t.In cs → t.ev B E v = t.ev B E w
  | lf c, i => h c i
  | nd true l r, i => by simp [ev, ev_cong h i.1, ev_cong h i.2]
  | nd false l r, i => by simp [ev, ev_cong h i.1, ev_cong h i.2]
theorem ev_move {σ τ : Nat → Nat} (L : Lat n le B E) (R : Ren n σ τ) (hv : ∀ c ∈ cs, v c < n) : ∀ {t : Tm}, t.In cs → t.ev (fun a b => σ (B (τ a) (τ b))) (fun a b => σ (E (τ a) (τ b))) (fun c => σ (v c)) = σ (t.ev B E v)
  | lf c, i => rfl
  | nd true l r, i => by
    simp only [ev]
    rw [ev_move L R hv i.1, ev_move L R hv i.2, R.ts _ (ev_lt L hv i.1), R.ts _ (ev_lt L hv i.2)]
  | nd false l r, i => by
    simp only [ev]
    rw [ev_move L R hv i.1, ev_move L R hv i.2, R.ts _ (ev_lt L hv i.1), R.ts _ (ev_lt L hv i.2)]
theorem turn_in : ∀ {t : Tm}, t.In cs → t.turn.In cs
  | lf c, i => i
  | nd b l r, i => ⟨turn_in i.1, turn_in i.2⟩
theorem put_in {u : Nat → Tm} {ds : List Nat} (hu : ∀ c ∈ cs, (u c).In ds) : ∀ {t : Tm}, t.In cs → (t.put u).In ds
  | lf c, i => hu c i
  | nd b l r, i => ⟨put_in hu i.1, put_in hu i.2⟩
theorem turn_dep : ∀ t : Tm, t.turn.dep = t.dep
  | lf c => rfl
  | nd b l r => by simp [turn, dep, turn_dep l, turn_dep r]
theorem dep_pos : ∀ t : Tm, 0 < t.dep
  | lf c => Nat.one_pos
  | nd b l r => by simp only [dep]; omega
theorem put_dep {u : Nat → Tm} {k : Nat} (hu : ∀ c ∈ cs, (u c).dep ≤ k + 1) : ∀ {t : Tm}, t.In cs → (t.put u).dep ≤ k + t.dep
  | lf c, i => hu c i
  | nd b l r, i => by
    have h1 := put_dep hu i.1
    have h2 := put_dep hu i.2
    simp only [put, dep]
    omega
theorem size_dep : ∀ t : Tm, t.size + 1 ≤ 2 ^ t.dep
  | lf c => by simp [size, dep]
  | nd b l r => by
    have h1 := size_dep l
    have h2 := size_dep r
    have h3 : 2 ^ l.dep ≤ 2 ^ (max l.dep r.dep) := Nat.pow_le_pow_right (by decide) (Nat.le_max_left _ _)
    have h4 : 2 ^ r.dep ≤ 2 ^ (max l.dep r.dep) := Nat.pow_le_pow_right (by decide) (Nat.le_max_right _ _)
    simp only [size, dep]
    rw [Nat.pow_add]
    omega
theorem size_pos : ∀ t : Tm, 0 < t.size
  | lf c => Nat.one_pos
  | nd b l r => by simp only [size]; omega
end Tm
end K17
set_option Elab.async false
set_option linter.all false
set_option maxRecDepth 100000
namespace K17
open PySem L2 DL DLk
section
variable {CL aH : Addr}
/-! ### operators -/
theorem e_notT {f : M Bool} {s : DL.S} {ar1 : Ar} (h : f s = some (.ok true ar1)) : mNot f s = some (.ok false ar1) := e_not h
theorem e_notF {f : M Bool} {s : DL.S} {ar1 : Ar} (h : f s = some (.ok false ar1)) : mNot f s = some (.ok true ar1) := e_not h
theorem g_le {a b : Int} : gLe (.int a) (.int b) = some (.bl (decide (a ≤ b))) := rfl
theorem g_lt' {a b : Int} : gLt (.int a) (.int b) = some (.bl (decide (a < b))) := rfl
theorem g_add {a b : Int} : DL.gAdd (.int a) (.int b) = some (.int (a + b)) := rfl
theorem g_sub {a b : Int} : DL.gSub (.int a) (.int b) = some (.int (a - b)) := rfl
theorem isi_int {i : Int} : gIsi CL [.int i, .ty "int"] = some (.bl true) := by rfl
theorem isi_intb {i : Int} : gIsi CL [.int i, .ty "bool"] = some (.bl false) := by rfl
theorem isi_tup {xs : List D} : gIsi CL [.tup xs, .ty "tuple"] = some (.bl true) := by rfl
theorem isi_tupS {xs : List D} : gIsi CL [.tup xs, .ty "str"] = some (.bl false) := by rfl
theorem isi_tupL {xs : List D} : gIsi CL [.tup xs, .ty "list"] = some (.bl false) := by rfl
theorem isi_str {z : Str} : gIsi CL [.str z, .ty "str"] = some (.bl true) := by rfl
theorem isi_ins {ns : List Str} {xs : List D} : gIsi CL [.ins CL ns xs, .adr CL] = some (.bl true) := by
  show ((if CL = CL then some (Value.ref CL) else none).bind fun t => (isiTab CL t (Value.ref CL)).map D.bl) = _
  rw [if_pos rfl]
  show (if (CL == CL && CL == CL) = true then some true else none).map D.bl = _
  rw [if_pos (by rw [Bool.and_eq_true]; exact ⟨beq_self_eq_true _, beq_self_eq_true _⟩)]
  rfl
theorem is_whole_ok {i : Int} : m_is_whole CL aH [.int i] [] = some (.ok (.bl true) []) := by
  unfold m_is_whole
  refine mir_rt rfl ?_
  unfold g_is_whole
  repeat' first
    | apply e_andVT
    | exact isi_int
    | exact isi_intb
    | exact e_c
    | exact e_var rfl
    | exact e_nil
    | apply e_mB
    | apply e_mTru
    | apply e_notT
    | apply e_notV
    | apply e_cons
    | apply e_op
    | apply e_cb
    | apply e_lstF
    | apply e_tup
    | apply e_callP
    | apply e_fld
    | apply e_seqI
    | apply e_rg
    | apply f_bound
    | apply f_cb
    | apply e_chain
    | apply x_seq
    | apply x_put
    | apply x_expr
    | apply x_ifN
    | apply x_ret
    | exact Nat.le_of_ble_eq_true rfl
    | rfl
theorem is_index_ok {i n : Int} : m_is_index CL aH [.int i, .int n] [] = some (.ok (.bl (decide (0 ≤ i ∧ i < n))) []) := by
  unfold m_is_index
  refine mir_rt rfl ?_
  unfold g_is_index
  have hw := is_whole_ok (CL := CL) (aH := aH) (i := i)
  by_cases h : 0 ≤ i
  · have e : decide (0 ≤ i ∧ i < n) = decide (i < n) := by simp [h]
    have g : gLe (.int 0) (.int i) = some (.bl true) := by rw [g_le, decide_eq_true h]
    rw [e]
    repeat' first
      | apply e_andVT
      | exact is_whole_ok
      | exact g
      | exact g_lt'
      | exact e_c
      | exact e_var rfl
      | exact e_nil
      | apply e_mB
      | apply e_mTru
      | apply e_notT
      | apply e_notV
      | apply e_cons
      | apply e_op
      | apply e_cb
      | apply e_lstF
      | apply e_tup
      | apply e_callP
      | apply e_fld
      | apply e_seqI
      | apply e_rg
      | apply f_bound
      | apply f_cb
      | apply e_chain
      | apply x_seq
      | apply x_put
      | apply x_expr
      | apply x_ifN
      | apply x_ret
      | exact Nat.le_of_ble_eq_true rfl
      | rfl
  · have e : decide (0 ≤ i ∧ i < n) = false := by simp [h]
    have g : gLe (.int 0) (.int i) = some (.bl false) := by rw [g_le, decide_eq_false h]
    rw [e]
    repeat' first
      | apply e_andVT
      | exact is_whole_ok
      | apply e_chainF
      | exact g
      | exact e_c
      | exact e_var rfl
      | exact e_nil
      | apply e_mB
      | apply e_mTru
      | apply e_notT
      | apply e_notV
      | apply e_cons
      | apply e_op
      | apply e_cb
      | apply e_lstF
      | apply e_tup
      | apply e_callP
      | apply e_fld
      | apply e_seqI
      | apply e_rg
      | apply f_bound
      | apply f_cb
      | apply e_chain
      | apply x_seq
      | apply x_put
      | apply x_expr
      | apply x_ifN
      | apply x_ret
      | exact Nat.le_of_ble_eq_true rfl
      | rfl
/-! ### lattices as data -/
def iD (j : Nat) : D := .int (j : Nat)
def rowL (n : Nat) (le : Nat → Nat → Bool) (i : Nat) : List D := ((List.range n).filter fun j => le j i).map iD
def rowsL (n : Nat) (le : Nat → Nat → Bool) : List D := (List.range n).map fun i => .tup (rowL n le i)
def tabL (n : Nat) (B : Nat → Nat → Nat) : List D := (List.range n).map fun i => .lst ((List.range n).map fun j => iD (B i j))
def latNs : List Str := ["rows", "both", "either"]
def latXs (n : Nat) (le : Nat → Nat → Bool) (B E : Nat → Nat → Nat) : List D := [.tup (rowsL n le), .lst (tabL n B), .lst (tabL n E)]
def latD (CL : Addr) (n : Nat) (le : Nat → Nat → Bool) (B E : Nat → Nat → Nat) : D := .ins CL latNs (latXs n le B E)
theorem ix_map {α : Type} {L : List α} {f : α → D} {i : Nat} {a : α} (h : L[i]? = some a) : gIx (.lst (L.map f)) (.int (i : Nat)) = some (f a) ∧ gIx (.tup (L.map f)) (.int (i : Nat)) = some (f a) := by
  have hn : i < L.length := (List.getElem?_eq_some_iff.mp h).1
  have : atI (L.map f) (i : Int) = some (f a) := by
    unfold atI ixN
    rw [if_pos (by omega), List.length_map, if_pos (by omega)]
    show (L.map f)[(i : Int).toNat]? = _
    rw [Int.toNat_natCast, List.getElem?_map, h]
    rfl
  exact ⟨this, this⟩
theorem range_at {n i : Nat} (h : i < n) : (List.range n)[i]? = some i := List.getElem?_range h
variable {n : Nat} {le : Nat → Nat → Bool} {B E : Nat → Nat → Nat} {a b : Nat}
theorem fl_rows : kvAt latNs (latXs n le B E) "rows" = some (.tup (rowsL n le)) := by rfl
theorem fl_both : kvAt latNs (latXs n le B E) "both" = some (.lst (tabL n B)) := by rfl
theorem fl_either : kvAt latNs (latXs n le B E) "either" = some (.lst (tabL n E)) := by rfl
theorem ix_tab (ha : a < n) : gIx (.lst (tabL n B)) (iD a) = some (.lst ((List.range n).map fun j => iD (B a j))) := (ix_map (f := fun i => D.lst ((List.range n).map fun j => iD (B i j))) (range_at ha)).1
theorem ix_tab2 (hb : b < n) : gIx (.lst ((List.range n).map fun j => iD (B a j))) (iD b) = some (iD (B a b)) := (ix_map (f := fun j => iD (B a j)) (range_at hb)).1
theorem need_lattice_ok : m_need_lattice CL aH [latD CL n le B E] [] = some (.ok (latD CL n le B E) []) := by
  unfold m_need_lattice
  refine mir_rt rfl ?_
  unfold g_need_lattice
  repeat' first
    | exact isi_ins
    | exact e_c
    | exact e_var rfl
    | exact e_nil
    | apply e_mB
    | apply e_mTru
    | apply e_notT
    | apply e_notV
    | apply e_cons
    | apply e_op
    | apply e_cb
    | apply e_lstF
    | apply e_tup
    | apply e_callP
    | apply e_fld
    | apply e_seqI
    | apply e_rg
    | apply f_bound
    | apply f_cb
    | apply e_chain
    | apply x_seq
    | apply x_put
    | apply x_expr
    | apply x_ifN
    | apply x_ret
    | exact Nat.le_of_ble_eq_true rfl
    | rfl
theorem both_by_ok (ha : a < n) (hb : b < n) : m_both_by CL aH [latD CL n le B E, iD a, iD b] [] = some (.ok (iD (B a b)) []) := by
  unfold m_both_by
  refine mir_rt rfl ?_
  unfold g_both_by
  repeat' first
    | exact ix_tab ha
    | exact ix_tab2 hb
    | exact fl_both
    | exact e_c
    | exact e_var rfl
    | exact e_nil
    | apply e_mB
    | apply e_mTru
    | apply e_notT
    | apply e_notV
    | apply e_cons
    | apply e_op
    | apply e_cb
    | apply e_lstF
    | apply e_tup
    | apply e_callP
    | apply e_fld
    | apply e_seqI
    | apply e_rg
    | apply f_bound
    | apply f_cb
    | apply e_chain
    | apply x_seq
    | apply x_put
    | apply x_expr
    | apply x_ifN
    | apply x_ret
    | exact Nat.le_of_ble_eq_true rfl
    | rfl
theorem either_by_ok (ha : a < n) (hb : b < n) : m_either_by CL aH [latD CL n le B E, iD a, iD b] [] = some (.ok (iD (E a b)) []) := by
  unfold m_either_by
  refine mir_rt rfl ?_
  unfold g_either_by
  repeat' first
    | exact ix_tab ha
    | exact ix_tab2 hb
    | exact fl_either
    | exact e_c
    | exact e_var rfl
    | exact e_nil
    | apply e_mB
    | apply e_mTru
    | apply e_notT
    | apply e_notV
    | apply e_cons
    | apply e_op
    | apply e_cb
    | apply e_lstF
    | apply e_tup
    | apply e_callP
    | apply e_fld
    | apply e_seqI
    | apply e_rg
    | apply f_bound
    | apply f_cb
    | apply e_chain
    | apply x_seq
    | apply x_put
    | apply x_expr
    | apply x_ifN
    | apply x_ret
    | exact Nat.le_of_ble_eq_true rfl
    | rfl
theorem eq_iD : gEq (iD a) (iD b) = some (.bl (decide (a = b))) := by
  unfold iD
  rw [g_eqI]
  congr 2
  rw [decide_eq_decide]
  omega
theorem is_below_ok (ha : a < n) (hb : b < n) : m_is_below CL aH [latD CL n le B E, iD a, iD b] [] = some (.ok (.bl (decide (B a b = a))) []) := by
  unfold m_is_below
  refine mir_rt rfl ?_
  unfold g_is_below
  repeat' first
    | exact ix_tab ha
    | exact ix_tab2 hb
    | exact fl_both
    | exact eq_iD
    | exact e_c
    | exact e_var rfl
    | exact e_nil
    | apply e_mB
    | apply e_mTru
    | apply e_notT
    | apply e_notV
    | apply e_cons
    | apply e_op
    | apply e_cb
    | apply e_lstF
    | apply e_tup
    | apply e_callP
    | apply e_fld
    | apply e_seqI
    | apply e_rg
    | apply f_bound
    | apply f_cb
    | apply e_chain
    | apply x_seq
    | apply x_put
    | apply x_expr
    | apply x_ifN
    | apply x_ret
    | exact Nat.le_of_ble_eq_true rfl
    | rfl
theorem len_tup {xs : List D} : gLen [.tup xs] = some (.int (xs.length : Nat)) := rfl
theorem need_element_ok {w : D} (ha : a < n) : m_need_element CL aH [w, latD CL n le B E, iD a] [] = some (.ok (iD a) []) := by
  unfold m_need_element
  refine mir_rt rfl ?_
  unfold g_need_element
  have hx : decide ((0 : Int) ≤ ((a : Nat) : Int) ∧ ((a : Nat) : Int) < (((rowsL n le).length : Nat) : Int)) = true := by
    unfold rowsL
    rw [List.length_map, List.length_range]
    exact decide_eq_true ⟨by omega, by omega⟩
  have hi := is_index_ok (CL := CL) (aH := aH) (i := ((a : Nat) : Int)) (n := (((rowsL n le).length : Nat) : Int))
  rw [hx] at hi
  repeat' first
    | exact hi
    | exact fl_rows
    | exact len_tup
    | exact e_c
    | exact e_var rfl
    | exact e_nil
    | apply e_mB
    | apply e_mTru
    | apply e_notT
    | apply e_notV
    | apply e_cons
    | apply e_op
    | apply e_cb
    | apply e_lstF
    | apply e_tup
    | apply e_callP
    | apply e_fld
    | apply e_seqI
    | apply e_rg
    | apply f_bound
    | apply f_cb
    | apply e_chain
    | apply x_seq
    | apply x_put
    | apply x_expr
    | apply x_ifN
    | apply x_ret
    | exact Nat.le_of_ble_eq_true rfl
    | rfl
theorem need_elements_ok (ha : a < n) (hb : b < n) : m_need_elements CL aH [latD CL n le B E, iD a, iD b] [] = some (.ok (.tup [iD a, iD b]) []) := by
  unfold m_need_elements
  refine mir_rt rfl ?_
  unfold g_need_elements
  repeat' first
    | exact need_lattice_ok
    | exact need_element_ok ha
    | exact need_element_ok hb
    | exact e_c
    | exact e_var rfl
    | exact e_nil
    | apply e_mB
    | apply e_mTru
    | apply e_notT
    | apply e_notV
    | apply e_cons
    | apply e_op
    | apply e_cb
    | apply e_lstF
    | apply e_tup
    | apply e_callP
    | apply e_fld
    | apply e_seqI
    | apply e_rg
    | apply f_bound
    | apply f_cb
    | apply e_chain
    | apply x_seq
    | apply x_put
    | apply x_expr
    | apply x_ifN
    | apply x_ret
    | exact Nat.le_of_ble_eq_true rfl
    | rfl
theorem is_at_most_ok (ha : a < n) (hb : b < n) : m_is_at_most CL aH [latD CL n le B E, iD a, iD b] [] = some (.ok (.bl (decide (B a b = a))) []) := by
  unfold m_is_at_most
  refine mir_rt rfl ?_
  unfold g_is_at_most
  repeat' first
    | exact need_elements_ok ha hb
    | exact is_below_ok ha hb
    | exact e_c
    | exact e_var rfl
    | exact e_nil
    | apply e_mB
    | apply e_mTru
    | apply e_notT
    | apply e_notV
    | apply e_cons
    | apply e_op
    | apply e_cb
    | apply e_lstF
    | apply e_tup
    | apply e_callP
    | apply e_fld
    | apply e_seqI
    | apply e_rg
    | apply f_bound
    | apply f_cb
    | apply e_chain
    | apply x_seq
    | apply x_put
    | apply x_expr
    | apply x_ifN
    | apply x_ret
    | exact Nat.le_of_ble_eq_true rfl
    | rfl
theorem both_of_ok (ha : a < n) (hb : b < n) : m_both_of CL aH [latD CL n le B E, iD a, iD b] [] = some (.ok (iD (B a b)) []) := by
  unfold m_both_of
  refine mir_rt rfl ?_
  unfold g_both_of
  repeat' first
    | exact need_elements_ok ha hb
    | exact both_by_ok ha hb
    | exact e_c
    | exact e_var rfl
    | exact e_nil
    | apply e_mB
    | apply e_mTru
    | apply e_notT
    | apply e_notV
    | apply e_cons
    | apply e_op
    | apply e_cb
    | apply e_lstF
    | apply e_tup
    | apply e_callP
    | apply e_fld
    | apply e_seqI
    | apply e_rg
    | apply f_bound
    | apply f_cb
    | apply e_chain
    | apply x_seq
    | apply x_put
    | apply x_expr
    | apply x_ifN
    | apply x_ret
    | exact Nat.le_of_ble_eq_true rfl
    | rfl
theorem either_of_ok (ha : a < n) (hb : b < n) : m_either_of CL aH [latD CL n le B E, iD a, iD b] [] = some (.ok (iD (E a b)) []) := by
  unfold m_either_of
  refine mir_rt rfl ?_
  unfold g_either_of
  repeat' first
    | exact need_elements_ok ha hb
    | exact either_by_ok ha hb
    | exact e_c
    | exact e_var rfl
    | exact e_nil
    | apply e_mB
    | apply e_mTru
    | apply e_notT
    | apply e_notV
    | apply e_cons
    | apply e_op
    | apply e_cb
    | apply e_lstF
    | apply e_tup
    | apply e_callP
    | apply e_fld
    | apply e_seqI
    | apply e_rg
    | apply f_bound
    | apply f_cb
    | apply e_chain
    | apply x_seq
    | apply x_put
    | apply x_expr
    | apply x_ifN
    | apply x_ret
    | exact Nat.le_of_ble_eq_true rfl
    | rfl
end
end K17
set_option Elab.async false
set_option linter.all false
set_option maxRecDepth 100000
/-! P6: what operators on lists, tuples, dicts of numbers come to -/
namespace K17
open PySem L2 DL DLk
section
variable {CL aH : Addr} {n : Nat} {le : Nat → Nat → Bool} {B E : Nat → Nat → Nat} {a b : Nat}
theorem pyL_ints : ∀ L : List Nat, PyData.plainAll (D.pyL (L.map iD)) = true ∧ PyData.depthAll (D.pyL (L.map iD)) = 0
  | [] => ⟨rfl, rfl⟩
  | a :: L => by
    obtain ⟨h1, h2⟩ := pyL_ints L
    refine ⟨?_, ?_⟩
    · show (true && PyData.plainAll (D.pyL (L.map iD))) = true
      rw [h1]; rfl
    · show max 0 (PyData.depthAll (D.pyL (L.map iD))) = 0
      rw [h2]; rfl
theorem okc_tup (L : List Nat) : D.okc (.tup (L.map iD)) = true := by
  obtain ⟨h1, h2⟩ := pyL_ints L
  show (PyData.plainAll (D.pyL (L.map iD)) && decide (PyData.depthAll (D.pyL (L.map iD)) + 1 ≤ 30)) = true
  rw [h1, h2]; rfl
theorem okc_lst (L : List Nat) : D.okc (.lst (L.map iD)) = true := by
  obtain ⟨h1, h2⟩ := pyL_ints L
  show (PyData.plainAll (D.pyL (L.map iD)) && decide (PyData.depthAll (D.pyL (L.map iD)) + 1 ≤ 30)) = true
  rw [h1, h2]; rfl
theorem okc_i : D.okc (iD a) = true := rfl
theorem eqv_i : PyData.eqv (D.py (iD a)) (D.py (iD b)) = decide (a = b) := by
  show PyData.eqv (.int (a : Nat)) (.int (b : Nat)) = _
  simp only [PyData.eqv]
  rw [Bool.eq_iff_iff, beq_iff_eq, decide_eq_true_eq]
  omega
theorem any_i : ∀ L : List Nat, ((L.map iD).any fun y => PyData.eqv y.py (D.py (iD a))) = L.contains a
  | [] => rfl
  | b :: L => by
    rw [List.map_cons, List.any_cons, any_i L, eqv_i, List.contains_cons]
    congr 1
    rw [Bool.eq_iff_iff, decide_eq_true_eq, beq_iff_eq]
    exact eq_comm
theorem in_tup {L : List Nat} : gIn (iD a) (.tup (L.map iD)) = some (.bl (L.contains a)) := by
  show (if (D.okc (iD a) && D.okc (.tup (L.map iD))) = true then some (D.bl ((L.map iD).any fun y => PyData.eqv y.py (D.py (iD a)))) else none) = _
  rw [okc_tup, okc_i, any_i]
  rfl
theorem any_non : ∀ L : List Nat, ((L.map iD).any fun y => PyData.eqv y.py (D.py .non)) = false
  | [] => rfl
  | b :: L => by rw [List.map_cons, List.any_cons, any_non L]; rfl
theorem non_in {L : List Nat} : gIn .non (.lst (L.map iD)) = some (.bl false) := by
  show (if (D.okc .non && D.okc (.lst (L.map iD))) = true then some (D.bl ((L.map iD).any fun y => PyData.eqv y.py (D.py .non))) else none) = _
  rw [okc_lst, any_non]
  rfl
theorem ne_iD : gNe (iD a) (iD b) = some (.bl (!decide (a = b))) := by
  show (if (D.okc (iD a) && D.okc (iD b)) = true then some (D.bl (!PyData.eqv (D.py (iD a)) (D.py (iD b)))) else none) = _
  rw [okc_i, okc_i, eqv_i]
  rfl
/-! ### dicts -/
section
variable {κ : Type} [DecidableEq κ]
theorem mergeD_nodup : ∀ (ps : List (κ × D)) (ks : List κ) (xs : List D), (ks ++ ps.map (·.1)).Nodup → mergeD ps (ks, xs) = (ks ++ ps.map (·.1), xs ++ ps.map (·.2))
  | [], ks, xs, _ => by simp [mergeD]
  | (k, d) :: ps, ks, xs, h => by
    have hk : kHas ks k = false := by
      unfold kHas
      rw [List.any_eq_false]
      intro j hj
      rw [decide_eq_true_eq]
      intro e
      subst e
      rw [List.map_cons, List.nodup_append] at h
      exact h.2.2 j hj j (List.mem_cons_self ..) rfl
    unfold mergeD putD
    rw [hk]
    show mergeD ps (ks ++ [k], xs ++ [d]) = _
    rw [mergeD_nodup ps (ks ++ [k]) (xs ++ [d]) (by rw [List.append_assoc]; exact h)]
    simp
theorem kHas_map {α : Type} {L : List α} {f : α → κ} {k : κ} : kHas (L.map f) k = L.any fun a => decide (f a = k) := by
  unfold kHas
  rw [List.any_map]
  rfl
theorem kvAt_map {α : Type} {f : α → κ} {g : α → D} {k : κ} : ∀ {L : List α} {a : α}, a ∈ L → f a = k → (∀ b ∈ L, f b = k → b = a) → kvAt (L.map f) (L.map g) k = some (g a)
  | [], a, h, _, _ => by cases h
  | b :: L, a, h, e, u => by
    show (if f b = k then some (g b) else kvAt (L.map f) (L.map g) k) = _
    by_cases z : f b = k
    · rw [if_pos z, u b (List.mem_cons_self ..) z]
    · rw [if_neg z]
      cases h with
      | head => exact absurd e z
      | tail _ h => exact kvAt_map h e fun c hc => u c (List.mem_cons_of_mem _ hc)
end
theorem iD_inj {a b : Nat} (h : iD a = iD b) : a = b := by
  injection h with h
  omega
theorem pairs_i : ∀ L : List Nat, pairsOf (L.map fun j => .tup [iD j, .bl true]) = some (L.map fun j => (Sum.inl ((j : Nat) : Int), D.bl true))
  | [] => rfl
  | a :: L => by
    rw [List.map_cons]
    show (match (iD a).key, pairsOf (L.map fun j => .tup [iD j, .bl true]) with | some k, some ps => some ((k, D.bl true) :: ps) | _, _ => none) = _
    rw [pairs_i L]
    rfl
/-- the dict of a row -/
def setD (L : List Nat) : D := .dk (L.map fun j => Sum.inl ((j : Nat) : Int)) (L.map fun _ => .bl true)
theorem dict_i {L : List Nat} (h : L.Nodup) (hl : L.length ≤ 1000) : gDict [.lst (L.map fun j => .tup [iD j, .bl true])] = some (setD L) := by
  show (pairsOf (L.map fun j => .tup [iD j, .bl true])).bind _ = _
  rw [pairs_i]
  dsimp only [Option.bind]
  rw [if_pos (show (L.map fun j => ((Sum.inl ((j : Nat) : Int) : Key), D.bl true)).length ≤ LIM from show _ ≤ 1000000 from by rw [List.length_map]; omega), mergeD_nodup]
  · rw [List.nil_append, List.nil_append, List.map_map, List.map_map]
    rfl
  · rw [List.nil_append, List.map_map]
    rw [List.nodup_iff_pairwise_ne] at h ⊢
    exact List.Pairwise.map _ (fun a b hab e => hab (by injection e with e; omega)) h
theorem in_set {L : List Nat} : gIn (iD a) (setD L) = some (.bl (L.contains a)) := by
  show some (D.bl (kHas (L.map fun j => (Sum.inl ((j : Nat) : Int) : Key)) (Sum.inl ((a : Nat) : Int)))) = _
  rw [kHas_map]
  congr 2
  rw [Bool.eq_iff_iff, List.any_eq_true, List.contains_iff_mem]
  constructor
  · rintro ⟨j, hj, e⟩
    have e := of_decide_eq_true e
    injection e with e
    have : j = a := by omega
    subst this; exact hj
  · intro h
    exact ⟨a, h, decide_eq_true rfl⟩
theorem keys_i : ∀ L : List Nat, keysOf (L.map iD) = some (L.map fun j => Sum.inl ((j : Nat) : Int))
  | [] => rfl
  | a :: L => by
    rw [List.map_cons]
    show (match (iD a).key, keysOf (L.map iD) with | some k, some ks => some (k :: ks) | _, _ => none) = _
    rw [keys_i L]
    rfl
def kyL (L : List Nat) : List Key := L.map fun j => Sum.inl ((j : Nat) : Int)
theorem kyL_inj : ∀ {L M : List Nat}, kyL L = kyL M → L = M
  | [], [], _ => rfl
  | [], _ :: _, h => by cases h
  | _ :: _, [], h => by cases h
  | a :: L, b :: M, h => by
    injection h with h1 h2
    injection h1 with h1
    rw [kyL_inj h2, show a = b from by omega]
theorem pairs_r (f : Nat → List Nat) : ∀ L : List Nat, pairsT (L.map fun i => .tup [.tup ((f i).map iD), iD i]) = some (L.map fun i => (kyL (f i), iD i))
  | [] => rfl
  | a :: L => by
    rw [List.map_cons]
    show (match keysOf ((f a).map iD), pairsT (L.map fun i => .tup [.tup ((f i).map iD), iD i]) with | some k, some ps => some ((k, iD a) :: ps) | _, _ => none) = _
    rw [pairs_r f L, keys_i]
    rfl
theorem dictT_r {f : Nat → List Nat} {L : List Nat} (h : L.Nodup) (inj : ∀ i ∈ L, ∀ j ∈ L, f i = f j → i = j) (hl : L.length ≤ 1000) : gDictT [.lst (L.map fun i => .tup [.tup ((f i).map iD), iD i])] = some (.dt (L.map fun i => kyL (f i)) (L.map iD)) := by
  show (pairsT (L.map fun i => .tup [.tup ((f i).map iD), iD i])).bind _ = _
  rw [pairs_r]
  dsimp only [Option.bind]
  rw [if_pos (show (L.map fun i => (kyL (f i), iD i)).length ≤ LIM from show _ ≤ 1000000 from by rw [List.length_map]; omega), mergeD_nodup]
  · rw [List.nil_append, List.nil_append, List.map_map, List.map_map]
    rfl
  · rw [List.nil_append, List.map_map]
    rw [List.nodup_iff_pairwise_ne] at h ⊢
    rw [List.pairwise_map]
    refine List.Pairwise.imp_of_mem ?_ h
    intro a b ha hb hab e
    exact hab (inj a ha b hb (kyL_inj e))
theorem get_r {f : Nat → List Nat} {L M : List Nat} {i : Nat} (hi : i ∈ L) (e : f i = M) (inj : ∀ i ∈ L, ∀ j ∈ L, f i = f j → i = j) : gGet (.dt (L.map fun i => kyL (f i)) (L.map iD)) (.tup (M.map iD)) = some (iD i) := by
  show (keysOf (M.map iD)).map _ = _
  rw [keys_i]
  show some ((kvAt (L.map fun i => kyL (f i)) (L.map iD) (kyL M)).getD .non) = _
  rw [kvAt_map hi (by rw [e]) fun b hb z => inj b hb i hi (by rw [e]; exact kyL_inj z)]
  rfl
/-! ### enumerate -/
theorem enum_range (f : Nat → D) (n : Nat) : enumD 0 ((List.range n).map f) = (List.range n).map fun i => .tup [iD i, f i] := by
  refine List.ext_getElem? fun i => ?_
  rw [enumD_get, List.getElem?_map, List.getElem?_map]
  by_cases h : i < n
  · rw [range_at h]
    simp [iD]
  · rw [List.getElem?_eq_none (by rw [List.length_range]; omega)]
    rfl
theorem all_T {α : Type} : ∀ L : List α, gAll [.lst (L.map fun _ => .bl true)] = some (.bl true) := fun L => by
  have : blsOf (L.map fun _ => D.bl true) = some (L.map fun _ => true) := by
    induction L with
    | nil => rfl
    | cons a L ih =>
      rw [List.map_cons]
      show (blsOf (L.map fun _ => D.bl true)).map _ = _
      rw [ih]; rfl
  show (blsOf (L.map fun _ => D.bl true)).map _ = _
  rw [this]
  show some (D.bl ((L.map fun _ => true).all id)) = _
  rw [List.all_eq_true.mpr]
  intro x hx
  obtain ⟨_, _, rfl⟩ := List.mem_map.mp hx
  rfl
end
end K17
set_option Elab.async false
set_option linter.all false
set_option maxRecDepth 100000
/-! P7: rows, orders, tables -/
namespace K17
open PySem L2 DL DLk
section
variable {CL aH : Addr} {n : Nat} {le : Nat → Nat → Bool} {B E : Nat → Nat → Nat} {a b : Nat}
def row (n : Nat) (le : Nat → Nat → Bool) (i : Nat) : List Nat := (List.range n).filter fun j => le j i
theorem mem_row {j i : Nat} : j ∈ row n le i ↔ j < n ∧ le j i = true := by
  unfold row
  rw [List.mem_filter, List.mem_range]
theorem row_le (n : Nat) (le : Nat → Nat → Bool) (i : Nat) : (row n le i).length ≤ n := by
  have := List.length_filter_le (fun j => le j i) (List.range n)
  rw [List.length_range] at this
  exact this
theorem row_nodup (n : Nat) (le : Nat → Nat → Bool) (i : Nat) : (row n le i).Nodup := List.nodup_range.filter _
theorem row_lt (n : Nat) (le : Nat → Nat → Bool) (i : Nat) : (row n le i).Pairwise (· < ·) := List.pairwise_lt_range.filter _
theorem limN {k : Nat} (h : k ≤ 1000) : k ≤ LIM := show k ≤ 1000000 from by omega
theorem contains_row {j i : Nat} (hj : j < n) : (row n le i).contains j = le j i := by
  rw [Bool.eq_iff_iff, List.contains_iff_mem, mem_row]
  exact ⟨fun h => h.2, fun h => ⟨hj, h⟩⟩
theorem is_row_ok (hn : n ≤ 1000) (ha : a < n) (hr : le a a = true) : m_is_row CL aH [.tup ((row n le a).map iD), iD a, iD n] [] = some (.ok (.bl true) []) := by
  have hl := row_le n le a
  have hmem : a ∈ row n le a := mem_row.mpr ⟨ha, hr⟩
  have hlen : 0 < (row n le a).length := List.length_pos_of_mem hmem
  unfold m_is_row
  refine mir_rt rfl ?_
  unfold g_is_row
  have h1 : mLc [3] (.nm 3) (mSeq (fVar false 0)) fYes (mCallP true (m_is_index CL aH) (fCons (fVar true 3) (fCons (fVar true 2) fNil))) ⟨[.va (.tup ((row n le a).map iD)), .va (iD a), .va (iD n), .no, .no], []⟩ = some (.ok ((row n le a).map fun _ => D.bl true) []) := by
    refine e_lcY (f := iD) (s0 := ⟨[.va (.tup ((row n le a).map iD)), .va (iD a), .va (iD n), .no, .no], []⟩) (e_seqI (e_var rfl) rfl) (limN (by omega)) rfl fun j hj => ?_
    refine ⟨⟨[.va (.tup ((row n le a).map iD)), .va (iD a), .va (iD n), .va (iD j), .no], []⟩, rfl, rfl, ?_⟩
    refine e_callP (e_cons (e_var rfl) (e_cons (e_var rfl) e_nil)) ?_ rfl
    have := (mem_row.mp hj).1
    unfold iD
    rw [is_index_ok, decide_eq_true ⟨by omega, by omega⟩]
  have h2 : gNotIn (iD a) (.tup ((row n le a).map iD)) = some (.bl false) := by
    unfold gNotIn
    rw [in_tup, contains_row ha, hr]
    rfl
  have h3 : mLc [4] (.nm 4) (mRg rg1 (fCons (mOp DL.gSub (mCB gLen (fCons (fVar false 0) fNil)) (fC (.int (1)))) fNil)) fYes (mOp gLt (mOp gIx (fVar false 0) (fVar false 4)) (mOp gIx (fVar false 0) (mOp gAdd (fVar false 4) (fC (.int (1)))))) ⟨[.va (.tup ((row n le a).map iD)), .va (iD a), .va (iD n), .no, .no], []⟩ = some (.ok ((List.range ((row n le a).length - 1)).map fun _ => D.bl true) []) := by
    have hr1 : rg1 [.int ((((row n le a).map iD).length : Int) - 1)] = some ((List.range ((row n le a).length - 1)).map iD) := by
      rw [List.length_map, show ((row n le a).length : Int) - 1 = (((row n le a).length - 1 : Nat) : Int) from by omega, rgN (by omega)]
      rfl
    refine e_lcY (f := iD) (s0 := ⟨[.va (.tup ((row n le a).map iD)), .va (iD a), .va (iD n), .no, .no], []⟩) (e_rg (e_cons (e_op (e_cb (e_cons (e_var rfl) e_nil) rfl) e_c rfl) e_nil) hr1) (limN (by rw [List.length_range]; omega)) rfl fun j hj => ?_
    have hj := List.mem_range.mp hj
    have g0 : (row n le a)[j]? = some ((row n le a)[j]'(by omega)) := List.getElem?_eq_getElem (by omega)
    have g1 : (row n le a)[j + 1]? = some ((row n le a)[j + 1]'(by omega)) := List.getElem?_eq_getElem (by omega)
    have hlt := List.pairwise_iff_getElem.mp (row_lt n le a) j (j + 1) (by omega) (by omega) (by omega)
    refine ⟨⟨[.va (.tup ((row n le a).map iD)), .va (iD a), .va (iD n), .no, .va (iD j)], []⟩, rfl, rfl, ?_⟩
    refine e_op (e_op (e_var rfl) (e_var rfl) (ix_map g0).2) (e_op (e_var rfl) (e_op (e_var rfl) e_c rfl) (ix_map g1).2) ?_
    show some (D.bl (decide _)) = _
    rw [decide_eq_true]
    exact Int.ofNat_lt.mpr hlt
  refine x_seq (x_ifN (e_orF (e_notT (e_mTru (e_cb (e_cons (e_var rfl) (e_cons e_c e_nil)) isi_tup) rfl)) (e_orF (e_notT (e_mTru (e_cb (e_cons (e_lstF h1) e_nil) (all_T _)) rfl)) (e_mB (e_op (e_var rfl) (e_var rfl) h2))))) (x_ret (e_cb (e_cons (e_lstF h3) e_nil) (all_T _)))
theorem above_by_ok {d : D} (hd : d = .tup (rowsL n le) ∨ d = .lst (rowsL n le)) (hn : n ≤ 1000) (ha : a < n) : m_above_by CL aH [d, iD a] [] = some (.ok (.tup (rowL n (fun x y => le y x) a)) []) := by
  unfold m_above_by
  refine mir_rt rfl ?_
  unfold g_above_by
  have he : enD [d] = some ((List.range n).map fun i => .tup [iD i, .tup (rowL n le i)]) := by
    rcases hd with rfl | rfl <;> exact congrArg some (enum_range _ n)
  refine x_ret (e_cb (e_cons (e_lstF (e_lc (p := fun i => le a i) (g := iD) (s0 := ⟨[.va d, .va (iD a), .no, .no], []⟩) (e_rg (e_cons (e_var rfl) e_nil) he) (limN (by rw [List.length_range]; omega)) rfl fun i hi => ?_)) e_nil) rfl)
  refine ⟨⟨[.va d, .va (iD a), .va (iD i), .va (.tup (rowL n le i))], []⟩, rfl, e_mB (e_op (e_var rfl) (e_var rfl) ?_), fun _ => e_var rfl⟩
  rw [← contains_row (n := n) (le := le) (i := i) ha]
  exact in_tup
theorem common_ok (L M : List Nat) (hl : L.length ≤ 1000) (hm : M.length ≤ 1000) (nd : M.Nodup) : m_common_of CL aH [.tup (L.map iD), .tup (M.map iD)] [] = some (.ok (.tup ((L.filter fun j => M.contains j).map iD)) []) := by
  unfold m_common_of
  refine mir_rt rfl ?_
  unfold g_common_of
  refine x_seq (s' := ⟨[.va (.tup (L.map iD)), .va (.tup (M.map iD)), .va (setD M), .no], []⟩) (x_put (e_cb (e_cons (e_lstF (e_lcY (f := iD) (g := fun j => .tup [iD j, .bl true]) (s0 := ⟨[.va (.tup (L.map iD)), .va (.tup (M.map iD)), .no, .no], []⟩) (e_seqI (e_var rfl) rfl) (limN hm) rfl fun j hj => ?_)) e_nil) (dict_i nd hm)) rfl) (x_ret (e_cb (e_cons (e_lstF (e_lc (f := iD) (g := iD) (p := fun j => M.contains j) (s0 := ⟨[.va (.tup (L.map iD)), .va (.tup (M.map iD)), .va (setD M), .no], []⟩) (e_seqI (e_var rfl) rfl) (limN hl) rfl fun j hj => ?_)) e_nil) rfl))
  · exact ⟨⟨[.va (.tup (L.map iD)), .va (.tup (M.map iD)), .no, .va (iD j)], []⟩, rfl, rfl, e_tup (e_cons (e_var rfl) (e_cons e_c e_nil)) (Nat.le_of_ble_eq_true rfl)⟩
  · exact ⟨⟨[.va (.tup (L.map iD)), .va (.tup (M.map iD)), .va (setD M), .va (iD j)], []⟩, rfl, e_mB (e_op (e_var rfl) (e_var rfl) in_set), fun _ => e_var rfl⟩
/-- what two rows have in common -/
theorem common_rows (L : Lat n le B E) (ha : a < n) (hb : b < n) : (row n le a).filter (fun j => (row n le b).contains j) = row n le (B a b) := by
  unfold row
  rw [List.filter_filter]
  refine List.filter_congr fun j hj => ?_
  have hj := List.mem_range.mp hj
  rw [show (List.filter (fun j => le j b) (List.range n)).contains j = le j b from contains_row hj, L.bi a ha b hb j hj, Bool.and_comm]
theorem rows_inj (L : Lat n le B E) : ∀ i ∈ List.range n, ∀ j ∈ List.range n, row n le i = row n le j → i = j := by
  intro i hi j hj e
  have hi := List.mem_range.mp hi
  have hj := List.mem_range.mp hj
  have h1 : i ∈ row n le j := by rw [← e]; exact mem_row.mpr ⟨hi, L.refl i hi⟩
  have h2 : j ∈ row n le i := by rw [e]; exact mem_row.mpr ⟨hj, L.refl j hj⟩
  exact L.anti i hi j hj (mem_row.mp h1).2 (mem_row.mp h2).2
theorem aApp_ok {xs : List D} {d : D} (h : xs.length < 1000000) : aApp xs d = some (xs ++ [d]) := if_pos h
theorem table_ok {d : D} (hd : d = .tup (rowsL n le) ∨ d = .lst (rowsL n le)) (hn : n ≤ 1000) (L : Lat n le B E) : m_table_by CL aH [d] [] = some (.ok (.lst (tabL n B)) []) := by
  unfold m_table_by
  refine mir_rt rfl ?_
  unfold g_table_by
  have he : enD [d] = some ((List.range n).map fun i => .tup [iD i, .tup (rowL n le i)]) := by
    rcases hd with rfl | rfl <;> exact congrArg some (enum_range _ n)
  have hs : sqItems d = some (rowsL n le) := by rcases hd with rfl | rfl <;> rfl
  have inj := rows_inj L
  let pl : D := .dt ((List.range n).map fun i => kyL (row n le i)) ((List.range n).map iD)
  have hpl : gDictT [.lst ((List.range n).map fun i => .tup [.tup (rowL n le i), iD i])] = some pl := dictT_r (f := row n le) List.nodup_range inj (by rw [List.length_range]; exact hn)
  refine x_seq (s' := ⟨[.va d, .va pl, .no, .no, .no, .no, .no, .no], []⟩) (x_put (e_cb (e_cons (e_lstF (e_lcY (g := fun i => .tup [.tup (rowL n le i), iD i]) (s0 := ⟨[.va d, .no, .no, .no, .no, .no, .no, .no], []⟩) (e_rg (e_cons (e_var rfl) e_nil) he) (limN (by rw [List.length_range]; exact hn)) rfl fun i hi => ?_)) e_nil) hpl) rfl) ?_
  · exact ⟨⟨[.va d, .no, .no, .no, .no, .va (iD i), .va (.tup (rowL n le i)), .no], []⟩, rfl, rfl, e_tup (e_cons (e_var rfl) (e_cons (e_var rfl) e_nil)) (Nat.le_of_ble_eq_true rfl)⟩
  · refine x_seq (s' := ⟨[.va d, .va pl, .ol [], .no, .no, .no, .no, .no], []⟩) (x_own (f_bound e_nil (Nat.zero_le _)) (by show 2 < 8; decide)) ?_
    have hf : ∃ s', forF (setT (.nm 3)) (gSeq (gBind (mLst (mLc [7] (.nm 7) (mSeq (fVar false 0)) fYes (mGet (fVar false 1) (mCallP true (m_common_of CL aH) (fCons (fVar true 3) (fCons (fVar true 7) fNil)))))) (kPut (.nm 4)))
    (gSeq (gIf (mB (mOp gIn (fC .non) (fVar false 4))) (gRet (fC .non)) DL.gNil)
    (gMut 2 aApp (fVar true 4)))) ((List.range n).map fun i => .tup (rowL n le i)) ⟨[.va d, .va pl, .ol [], .no, .no, .no, .no, .no], []⟩ = some (.nx s') ∧ ∃ x3 x4, s' = ⟨[.va d, .va pl, .ol (tabL n B), x3, x4, .no, .no, .no], []⟩ := by
      have := for_inv (set := setT (.nm 3)) (f := fun i => D.tup (rowL n le i)) (g := (gSeq (gBind (mLst (mLc [7] (.nm 7) (mSeq (fVar false 0)) fYes (mGet (fVar false 1) (mCallP true (m_common_of CL aH) (fCons (fVar true 3) (fCons (fVar true 7) fNil)))))) (kPut (.nm 4)))
    (gSeq (gIf (mB (mOp gIn (fC .non) (fVar false 4))) (gRet (fC .non)) DL.gNil)
    (gMut 2 aApp (fVar true 4))))) (fun done rest s => done ++ rest = List.range n ∧ ∃ x3 x4, s = ⟨[.va d, .va pl, .ol (done.map fun i => .lst ((List.range n).map fun j => iD (B i j))), x3, x4, .no, .no, .no], []⟩) (List.range n) [] ⟨[.va d, .va pl, .ol [], .no, .no, .no, .no, .no], []⟩ ⟨rfl, .no, .no, rfl⟩ ?_
      · obtain ⟨s', h1, h2, x3, x4, h3⟩ := this
        exact ⟨s', h1, x3, x4, h3⟩
      · rintro done i rest s ⟨hdr, x3, x4, rfl⟩
        have hi : i < n := by
          rw [← List.mem_range, ← hdr]
          exact List.mem_append.mpr (.inr (List.mem_cons_self ..))
        have hdl : done.length < n := by
          have := congrArg List.length hdr
          rw [List.length_append, List.length_cons, List.length_range] at this
          omega
        refine ⟨⟨[.va d, .va pl, .ol (done.map fun i => .lst ((List.range n).map fun j => iD (B i j))), .va (.tup (rowL n le i)), x4, .no, .no, .no], []⟩, ⟨[.va d, .va pl, .ol ((done ++ [i]).map fun i => .lst ((List.range n).map fun j => iD (B i j))), .va (.tup (rowL n le i)), .va (.lst ((List.range n).map fun j => iD (B i j))), .no, .no, .no], []⟩, rfl, ?_, by rw [List.append_assoc]; exact hdr, _, _, rfl⟩
        refine x_seq (s' := ⟨[.va d, .va pl, .ol (done.map fun i => .lst ((List.range n).map fun j => iD (B i j))), .va (.tup (rowL n le i)), .va (.lst ((List.range n).map fun j => iD (B i j))), .no, .no, .no], []⟩) (x_put (e_lstF (e_lcY (f := fun j => .tup (rowL n le j)) (g := fun j => iD (B i j)) (s0 := ⟨[.va d, .va pl, .ol (done.map fun i => .lst ((List.range n).map fun j => iD (B i j))), .va (.tup (rowL n le i)), x4, .no, .no, .no], []⟩) (e_seqI (e_var rfl) hs) (limN (by rw [List.length_range]; exact hn)) rfl fun j hj => ?_)) rfl) ?_
        · have hj := List.mem_range.mp hj
          refine ⟨⟨[.va d, .va pl, .ol (done.map fun i => .lst ((List.range n).map fun j => iD (B i j))), .va (.tup (rowL n le i)), x4, .no, .no, .va (.tup (rowL n le j))], []⟩, rfl, rfl, ?_⟩
          exact e_get (e_var rfl) rfl (e_callP (e_cons (e_var rfl) (e_cons (e_var rfl) e_nil)) (common_ok (row n le i) (row n le j) (Nat.le_trans (row_le n le i) hn) (Nat.le_trans (row_le n le j) hn) (row_nodup n le j)) rfl) (get_r (f := row n le) (List.mem_range.mpr (L.bn i hi j hj)) (common_rows L hi hj).symm inj)
        · have hni : gIn .non (.lst ((List.range n).map fun j => iD (B i j))) = some (.bl false) := by
            have := non_in (L := (List.range n).map fun j => B i j)
            rw [List.map_map] at this
            exact this
          refine x_seq (x_ifN (e_mB (e_op e_c (e_var rfl) hni))) ?_
          have := x_mut (i := 2) (g := aApp) (f := fVar true 4) (s := ⟨[.va d, .va pl, .ol (done.map fun i => .lst ((List.range n).map fun j => iD (B i j))), .va (.tup (rowL n le i)), .va (.lst ((List.range n).map fun j => iD (B i j))), .no, .no, .no], []⟩) rfl (e_var rfl) (aApp_ok (by rw [List.length_map]; omega))
          rw [List.map_append]
          exact this
    obtain ⟨s', h1, x3, x4, rfl⟩ := hf
    refine x_seq (x_for (e_seqI (e_var rfl) hs) h1) ?_
    exact x_ret (e_var rfl)
end
end K17
set_option Elab.async false
set_option linter.all false
set_option maxRecDepth 100000
/-! P8: orders, a Lattice made -/
namespace K17
open PySem L2 DL DLk
section
variable {CL aH : Addr} {n : Nat} {le : Nat → Nat → Bool} {B E : Nat → Nat → Nat} {a b : Nat}
def belL (n : Nat) (le : Nat → Nat → Bool) : List D := (List.range n).map fun i => setD (row n le i)
theorem ix_bel (ha : a < n) : gIx (.lst (belL n le)) (iD a) = some (setD (row n le a)) := (ix_map (f := fun i => setD (row n le i)) (range_at ha)).1
theorem ix_rows (ha : a < n) : gIx (.tup (rowsL n le)) (iD a) = some (.tup ((row n le a).map iD)) := (ix_map (f := fun i => .tup (rowL n le i)) (range_at ha)).2
def gOrd (CL aH : Addr) : G := gIf (mOr (mAnd (mB (mOp gNe (fVar false 2) (fVar false 4))) (mB (mOp gIn (fVar false 4) (mOp gIx (fVar false 3) (fVar false 2))))) (mNot (mTru (mCB gAll (fCons (mLst (mLc [5] (.nm 5) (mSeq (mOp gIx (fVar false 0) (fVar false 2))) fYes (mOp gIn (fVar false 5) (mOp gIx (fVar false 3) (fVar false 4))))) fNil))))) (gRet (fC (.bl false))) DL.gNil
theorem ord_in (L : Lat n le B E) (hn : n ≤ 1000) {x1 : Sl} (ha : a < n) (hb : b ∈ row n le a) : gOrd CL aH ⟨[.va (.tup (rowsL n le)), x1, .va (iD b), .va (.lst (belL n le)), .va (iD a), .no], []⟩ = some (.nx ⟨[.va (.tup (rowsL n le)), x1, .va (iD b), .va (.lst (belL n le)), .va (iD a), .no], []⟩) := by
  obtain ⟨hbn, hba⟩ := mem_row.mp hb
  have c1 : mAnd (mB (mOp gNe (fVar false 2) (fVar false 4))) (mB (mOp gIn (fVar false 4) (mOp gIx (fVar false 3) (fVar false 2)))) ⟨[.va (.tup (rowsL n le)), x1, .va (iD b), .va (.lst (belL n le)), .va (iD a), .no], []⟩ = some (.ok false []) := by
    by_cases h : b = a
    · refine e_andF (e_mB (e_op (e_var rfl) (e_var rfl) ?_))
      rw [ne_iD, decide_eq_true h]; rfl
    · refine e_andT (ar1 := []) (e_mB (e_op (e_var rfl) (e_var rfl) ?_)) (e_mB (e_op (e_var rfl) (e_op (e_var rfl) (e_var rfl) (ix_bel hbn)) ?_))
      · rw [ne_iD, decide_eq_false h]; rfl
      · rw [in_set, contains_row ha]
        cases z : le a b with
        | true => exact absurd (L.anti b hbn a ha hba z) h
        | false => rfl
  have c2 : mLc [5] (.nm 5) (mSeq (mOp gIx (fVar false 0) (fVar false 2))) fYes (mOp gIn (fVar false 5) (mOp gIx (fVar false 3) (fVar false 4))) ⟨[.va (.tup (rowsL n le)), x1, .va (iD b), .va (.lst (belL n le)), .va (iD a), .no], []⟩ = some (.ok ((row n le b).map fun _ => D.bl true) []) := by
    refine e_lcY (f := iD) (s0 := ⟨[.va (.tup (rowsL n le)), x1, .va (iD b), .va (.lst (belL n le)), .va (iD a), .no], []⟩) (e_seqI (e_op (e_var rfl) (e_var rfl) (ix_rows hbn)) rfl) (limN (Nat.le_trans (row_le n le b) hn)) rfl fun c hc => ?_
    refine ⟨⟨[.va (.tup (rowsL n le)), x1, .va (iD b), .va (.lst (belL n le)), .va (iD a), .va (iD c)], []⟩, rfl, rfl, e_op (e_var rfl) (e_op (e_var rfl) (e_var rfl) (ix_bel ha)) ?_⟩
    obtain ⟨hcn, hcb⟩ := mem_row.mp hc
    rw [in_set, contains_row hcn, L.tr c hcn b hbn a ha hcb hba]
  exact x_ifN (e_orF c1 (e_notT (e_mTru (e_cb (e_cons (e_lstF c2) e_nil) (all_T _)) rfl)))
theorem is_order_ok (L : Lat n le B E) (hn : n ≤ 1000) : m_is_order CL aH [.tup (rowsL n le)] [] = some (.ok (.bl true) []) := by
  unfold m_is_order
  refine mir_rt rfl ?_
  unfold g_is_order
  refine x_seq (s' := ⟨[.va (.tup (rowsL n le)), .no, .no, .va (.lst (belL n le)), .no, .no], []⟩) (x_put (e_lstF (e_lcY (f := fun i => .tup (rowL n le i)) (g := fun i => setD (row n le i)) (s0 := ⟨[.va (.tup (rowsL n le)), .no, .no, .no, .no, .no], []⟩) (e_seqI (e_var rfl) rfl) (limN (by rw [List.length_range]; exact hn)) rfl fun i hi => ?_)) rfl) ?_
  · refine ⟨⟨[.va (.tup (rowsL n le)), .va (.tup (rowL n le i)), .no, .no, .no, .no], []⟩, rfl, rfl, e_cb (e_cons (e_lstF (e_lcY (L := row n le i) (f := iD) (g := fun j => .tup [iD j, .bl true]) (s0 := ⟨[.va (.tup (rowsL n le)), .va (.tup (rowL n le i)), .no, .no, .no, .no], []⟩) (e_seqI (e_var rfl) rfl) (limN (Nat.le_trans (row_le n le i) hn)) rfl fun j hj => ?_)) e_nil) (dict_i (row_nodup n le i) (Nat.le_trans (row_le n le i) hn))⟩
    exact ⟨⟨[.va (.tup (rowsL n le)), .va (.tup (rowL n le i)), .va (iD j), .no, .no, .no], []⟩, rfl, rfl, e_tup (e_cons (e_var rfl) (e_cons e_c e_nil)) (Nat.le_of_ble_eq_true rfl)⟩
  · have hf := for_inv (set := setT (.tp [4, 1])) (f := fun i => D.tup [iD i, .tup (rowL n le i)]) (g := gFor (.nm 2) (mSeq (fVar true 1)) (gOrd CL aH)) (fun done rest s => done ++ rest = List.range n ∧ ∃ x1 x2 x4, s = ⟨[.va (.tup (rowsL n le)), x1, x2, .va (.lst (belL n le)), x4, .no], []⟩) (List.range n) [] ⟨[.va (.tup (rowsL n le)), .no, .no, .va (.lst (belL n le)), .no, .no], []⟩ ⟨rfl, .no, .no, .no, rfl⟩ ?_
    · obtain ⟨s', h1, h2, x1, x2, x4, rfl⟩ := hf
      refine x_seq (x_for (xs := (List.range n).map fun i => .tup [iD i, .tup (rowL n le i)]) (e_rg (e_cons (e_var rfl) e_nil) (congrArg some (enum_range _ n))) h1) (x_ret e_c)
    · rintro done i rest s ⟨hdr, x1, x2, x4, rfl⟩
      have hi : i < n := by
        rw [← List.mem_range, ← hdr]
        exact List.mem_append.mpr (.inr (List.mem_cons_self ..))
      have hf := for_inv (set := setT (.nm 2)) (f := iD) (g := gOrd CL aH) (fun done rest s => done ++ rest = row n le i ∧ ∃ x2, s = ⟨[.va (.tup (rowsL n le)), .va (.tup (rowL n le i)), x2, .va (.lst (belL n le)), .va (iD i), .no], []⟩) (row n le i) [] ⟨[.va (.tup (rowsL n le)), .va (.tup (rowL n le i)), x2, .va (.lst (belL n le)), .va (iD i), .no], []⟩ ⟨rfl, x2, rfl⟩ ?_
      · obtain ⟨s', h1, h2, x2', rfl⟩ := hf
        exact ⟨_, _, rfl, x_for (e_seqI (e_var rfl) rfl) h1, by rw [List.append_assoc]; exact hdr, _, _, _, rfl⟩
      · rintro done j rest s ⟨hdr, x2, rfl⟩
        have hj : j ∈ row n le i := by
          rw [← hdr]
          exact List.mem_append.mpr (.inr (List.mem_cons_self ..))
        exact ⟨_, _, rfl, ord_in L hn hi hj, by rw [List.append_assoc]; exact hdr, _, rfl⟩
theorem rows_len : (rowsL n le).length = n := by
  unfold rowsL
  rw [List.length_map, List.length_range]
theorem are_rows_ok (L : Lat n le B E) (h1 : 1 ≤ n) (hn : n ≤ 60) : m_are_rows CL aH [.tup (rowsL n le)] [] = some (.ok (.bl true) []) := by
  unfold m_are_rows
  refine mir_rt rfl ?_
  unfold g_are_rows
  have c1 : gLe (.int 1) (.int ((rowsL n le).length : Nat)) = some (.bl true) := by
    rw [rows_len, g_le, decide_eq_true (by omega)]
  have c2 : gLe (.int ((rowsL n le).length : Nat)) (.int 60) = some (.bl true) := by
    rw [rows_len, g_le, decide_eq_true (by omega)]
  have c3 : mLc [1, 2] (.tp [1, 2]) (mRg enD (fCons (fVar false 0) fNil)) fYes (mCallP true (m_is_row CL aH) (fCons (fVar true 2) (fCons (fVar true 1) (fCons (mCB gLen (fCons (fVar false 0) fNil)) fNil)))) ⟨[.va (.tup (rowsL n le)), .no, .no], []⟩ = some (.ok ((List.range n).map fun _ => D.bl true) []) := by
    refine e_lcY (f := fun i => .tup [iD i, .tup (rowL n le i)]) (s0 := ⟨[.va (.tup (rowsL n le)), .no, .no], []⟩) (e_rg (e_cons (e_var rfl) e_nil) (congrArg some (enum_range _ n))) (limN (by rw [List.length_range]; omega)) rfl fun i hi => ?_
    have hi := List.mem_range.mp hi
    refine ⟨⟨[.va (.tup (rowsL n le)), .va (iD i), .va (.tup (rowL n le i))], []⟩, rfl, rfl, e_callP (e_cons (e_var rfl) (e_cons (e_var rfl) (e_cons (e_cb (e_cons (e_var rfl) e_nil) len_tup) e_nil))) ?_ rfl⟩
    rw [rows_len]
    exact is_row_ok (by omega) hi (L.refl i hi)
  refine x_seq (x_ifN (e_orF (e_notT (e_mTru (e_cb (e_cons (e_var rfl) (e_cons e_c e_nil)) isi_tup) rfl)) (e_notT (e_mB (e_chain e_c (e_cb (e_cons (e_var rfl) e_nil) len_tup) c1 e_c c2))))) (x_ret (e_andVT (ar1 := []) (e_cb (e_cons (e_lstF c3) e_nil) (all_T _)) (e_callP (e_cons (e_var rfl) e_nil) (is_order_ok L (by omega)) rfl)))
theorem fld_ok {C y : Addr} {f : Str} {v : D} {ns : List Str} {xs : List D} {fv fo : M D} {sl : List Sl} (h1 : fv ⟨sl, [(y, .ins C ns xs)]⟩ = some (.ok v [(y, .ins C ns xs)])) (h2 : fo ⟨sl, [(y, .ins C ns xs)]⟩ = some (.ok (.adr y) [(y, .ins C ns xs)])) (hl : xs.length < 1000) : gFld C f fv fo ⟨sl, [(y, .ins C ns xs)]⟩ = some (.nx ⟨sl, [(y, .ins C (putFD f v ns xs).1 (putFD f v ns xs).2)]⟩) := by
  refine x_bind h1 (x_bind h2 ?_)
  unfold kFld
  dsimp only
  rw [look]
  dsimp only
  rw [if_pos ⟨rfl, hl⟩]
  unfold arSet
  simp
theorem init_ok (L : Lat n le B E) (h1 : 1 ≤ n) (hn : n ≤ 60) (y : Addr) : m_Lattice___init__ CL aH [.adr y, .tup (rowsL n le)] [(y, .ins CL [] [])] = some (.ok .non [(y, .ins CL latNs (latXs n le B E))]) := by
  unfold m_Lattice___init__
  have hab : mLc [5] (.nm 5) (mRg rg1 (fCons (mCB gLen (fCons (fVar false 2) fNil)) fNil)) fYes (mCallP true (m_above_by CL aH) (fCons (fVar true 2) (fCons (fVar true 5) fNil))) ⟨[.va (.adr y), .va (.tup (rowsL n le)), .va (.tup (rowsL n le)), .va (.lst (tabL n B)), .no, .no], [(y, .ins CL [] [])]⟩ = some (.ok (rowsL n fun a b => le b a) [(y, .ins CL [] [])]) := by
    refine e_lcY (f := iD) (g := fun i => .tup (rowL n (fun a b => le b a) i)) (s0 := ⟨[.va (.adr y), .va (.tup (rowsL n le)), .va (.tup (rowsL n le)), .va (.lst (tabL n B)), .no, .no], [(y, .ins CL [] [])]⟩) (e_rg (e_cons (e_cb (e_cons (e_var rfl) e_nil) len_tup) e_nil) ?_) (limN (by rw [List.length_range]; omega)) rfl fun i hi => ?_
    · rw [rows_len]; exact rgN (by omega)
    · refine ⟨⟨[.va (.adr y), .va (.tup (rowsL n le)), .va (.tup (rowsL n le)), .va (.lst (tabL n B)), .no, .va (iD i)], [(y, .ins CL [] [])]⟩, rfl, rfl, e_callP (e_cons (e_var rfl) (e_cons (e_var rfl) e_nil)) (above_by_ok (.inl rfl) (by omega) (List.mem_range.mp hi)) rfl⟩
  refine mir_nx (s := ⟨[.va (.adr y), .va (.tup (rowsL n le)), .va (.tup (rowsL n le)), .va (.lst (tabL n B)), .va (.lst (tabL n E)), .no], [(y, .ins CL latNs (latXs n le B E))]⟩) rfl ?_
  unfold g_Lattice___init__
  refine x_seq (s' := ⟨[.va (.adr y), .va (.tup (rowsL n le)), .va (.tup (rowsL n le)), .no, .no, .no], [(y, .ins CL [] [])]⟩) (x_put (ar1 := [(y, .ins CL [] [])]) (e_ifF (ar := [(y, .ins CL [] [])]) (e_mTru (e_cb (e_cons (e_var rfl) (e_cons e_c e_nil)) isi_tupL) rfl) (e_var rfl)) rfl) ?_
  refine x_seq (s' := ⟨[.va (.adr y), .va (.tup (rowsL n le)), .va (.tup (rowsL n le)), .no, .no, .no], [(y, .ins CL [] [])]⟩) (x_ifN (e_notT (e_mTru (e_callP (e_cons (e_var rfl) e_nil) (are_rows_ok L h1 hn) rfl) rfl))) ?_
  refine x_seq (s' := ⟨[.va (.adr y), .va (.tup (rowsL n le)), .va (.tup (rowsL n le)), .va (.lst (tabL n B)), .no, .no], [(y, .ins CL [] [])]⟩) (x_put (e_callP (e_cons (e_var rfl) e_nil) (table_ok (.inl rfl) (by omega) L) rfl) rfl) ?_
  refine x_seq (s' := ⟨[.va (.adr y), .va (.tup (rowsL n le)), .va (.tup (rowsL n le)), .va (.lst (tabL n B)), .va (.lst (tabL n E)), .no], [(y, .ins CL [] [])]⟩) (x_put (e_callP (e_cons (e_lstF hab) e_nil) (table_ok (.inr rfl) (by omega) L.dual) rfl) rfl) ?_
  refine x_seq (s' := ⟨[.va (.adr y), .va (.tup (rowsL n le)), .va (.tup (rowsL n le)), .va (.lst (tabL n B)), .va (.lst (tabL n E)), .no], [(y, .ins CL [] [])]⟩) (x_ifN (e_orF (e_mB (e_op (e_var rfl) e_c rfl)) (e_mB (e_op (e_var rfl) e_c rfl)))) ?_
  refine x_seq (fld_ok (e_var rfl) (e_var rfl) (by show 0 < 1000; decide)) ?_
  refine x_seq (fld_ok (e_var rfl) (e_var rfl) (by show 1 < 1000; decide)) ?_
  exact fld_ok (e_var rfl) (e_var rfl) (by show 2 < 1000; decide)
theorem mk_ok (L : Lat n le B E) (h1 : 1 ≤ n) (hn : n ≤ 60) : mk_Lattice CL aH [.tup (rowsL n le)] = some (latNs, latXs n le B E) := mkOf_eq fun y => init_ok L h1 hn y
theorem turned_lattice_ok (L : Lat n le B E) (h1 : 1 ≤ n) (hn : n ≤ 60) : m_turned_lattice CL aH [latD CL n le B E] [] = some (.ok (latD CL n (fun a b => le b a) E B) []) := by
  unfold m_turned_lattice
  refine mir_rt rfl ?_
  unfold g_turned_lattice
  refine x_seq (s' := ⟨[.va (latD CL n le B E), .va (.tup (rowsL n le)), .no], []⟩) (x_put (e_fld (e_callP (e_cons (e_var rfl) e_nil) need_lattice_ok rfl) fl_rows) rfl) ?_
  have hab : mLc [2] (.nm 2) (mRg rg1 (fCons (mCB gLen (fCons (fVar false 1) fNil)) fNil)) fYes (mCallP true (m_above_by CL aH) (fCons (fVar true 1) (fCons (fVar true 2) fNil))) ⟨[.va (latD CL n le B E), .va (.tup (rowsL n le)), .no], []⟩ = some (.ok (rowsL n fun a b => le b a) []) := by
    refine e_lcY (f := iD) (g := fun i => .tup (rowL n (fun a b => le b a) i)) (s0 := ⟨[.va (latD CL n le B E), .va (.tup (rowsL n le)), .no], []⟩) (e_rg (e_cons (e_cb (e_cons (e_var rfl) e_nil) len_tup) e_nil) ?_) (limN (by rw [List.length_range]; omega)) rfl fun i hi => ?_
    · rw [rows_len]; exact rgN (by omega)
    · refine ⟨⟨[.va (latD CL n le B E), .va (.tup (rowsL n le)), .va (iD i)], []⟩, rfl, rfl, e_callP (e_cons (e_var rfl) (e_cons (e_var rfl) e_nil)) (above_by_ok (.inl rfl) (by omega) (List.mem_range.mp hi)) rfl⟩
  exact x_ret (e_make (e_cons (e_cb (e_cons (e_lstF hab) e_nil) rfl) e_nil) (mk_ok L.dual h1 hn))
end
end K17
set_option Elab.async false
set_option linter.all false
set_option maxRecDepth 100000
/-! P9: the known lattices -/
namespace K17
open PySem L2 DL DLk
mutual
def beqD : D → D → Bool
  | .int i, .int j => decide (i = j)
  | .tup xs, .tup ys => beqL xs ys
  | .lst xs, .lst ys => beqL xs ys
  | _, _ => false
def beqL : List D → List D → Bool
  | [], [] => true
  | x :: xs, y :: ys => beqD x y && beqL xs ys
  | _, _ => false
end
mutual
theorem beqD_eq : ∀ {x y : D}, beqD x y = true → x = y
  | .int i, y, h => by
    cases y with
    | int j => exact congrArg D.int (of_decide_eq_true h)
    | _ => cases h
  | .tup xs, y, h => by
    cases y with
    | tup ys => exact congrArg D.tup (beqL_eq h)
    | _ => cases h
  | .lst xs, y, h => by
    cases y with
    | lst ys => exact congrArg D.lst (beqL_eq h)
    | _ => cases h
  | .non, _, h => by cases h
  | .bl _, _, h => by cases h
  | .str _, _, h => by cases h
  | .adr _, _, h => by cases h
  | .ty _, _, h => by cases h
  | .wt _, _, h => by cases h
  | .dk _ _, _, h => by cases h
  | .dt _ _, _, h => by cases h
  | .ins _ _ _, _, h => by cases h
theorem beqL_eq : ∀ {xs ys : List D}, beqL xs ys = true → xs = ys
  | [], [], _ => rfl
  | [], _ :: _, h => by cases h
  | _ :: _, [], h => by cases h
  | x :: xs, y :: ys, h => by
    have h : (beqD x y && beqL xs ys) = true := h
    rw [Bool.and_eq_true] at h
    rw [beqD_eq h.1, beqL_eq h.2]
end
def okIs (r : Option (R D)) (d : D) : Bool := match r with
  | some (.ok e []) => beqD e d
  | _ => false
theorem okIs_eq {r : Option (R D)} {d : D} (h : okIs r d = true) : r = some (.ok d []) := by
  unfold okIs at h
  split at h
  · rw [beqD_eq h]
  · cases h
structure Kn where
  nm : Str
  n : Nat
  ps : List (Nat × Nat)
  rows : List (List Nat)
  b : List (List Nat)
  e : List (List Nat)
def known : List Kn := [
  ⟨"one", 1, [], [[0]],
   [[0]],
   [[0]]⟩,
  ⟨"two", 2, [(0, 1)], [[0], [0, 1]],
   [[0, 0], [0, 1]],
   [[0, 1], [1, 1]]⟩,
  ⟨"chain", 4, [(0, 1), (1, 2), (2, 3)], [[0], [0, 1], [0, 1, 2], [0, 1, 2, 3]],
   [[0, 0, 0, 0], [0, 1, 1, 1], [0, 1, 2, 2], [0, 1, 2, 3]],
   [[0, 1, 2, 3], [1, 1, 2, 3], [2, 2, 2, 3], [3, 3, 3, 3]]⟩,
  ⟨"square", 4, [(0, 1), (0, 2), (1, 3), (2, 3)], [[0], [0, 1], [0, 2], [0, 1, 2, 3]],
   [[0, 0, 0, 0], [0, 1, 0, 1], [0, 0, 2, 2], [0, 1, 2, 3]],
   [[0, 1, 2, 3], [1, 1, 3, 3], [2, 3, 2, 3], [3, 3, 3, 3]]⟩,
  ⟨"diamond", 5, [(0, 1), (0, 2), (0, 3), (1, 4), (2, 4), (3, 4)], [[0], [0, 1], [0, 2], [0, 3], [0, 1, 2, 3, 4]],
   [[0, 0, 0, 0, 0], [0, 1, 0, 0, 1], [0, 0, 2, 0, 2], [0, 0, 0, 3, 3], [0, 1, 2, 3, 4]],
   [[0, 1, 2, 3, 4], [1, 1, 4, 4, 4], [2, 4, 2, 4, 4], [3, 4, 4, 3, 4], [4, 4, 4, 4, 4]]⟩,
  ⟨"pentagon", 5, [(0, 1), (1, 2), (0, 3), (2, 4), (3, 4)], [[0], [0, 1], [0, 1, 2], [0, 3], [0, 1, 2, 3, 4]],
   [[0, 0, 0, 0, 0], [0, 1, 1, 0, 1], [0, 1, 2, 0, 2], [0, 0, 0, 3, 3], [0, 1, 2, 3, 4]],
   [[0, 1, 2, 3, 4], [1, 1, 2, 4, 4], [2, 2, 2, 4, 4], [3, 4, 4, 3, 4], [4, 4, 4, 4, 4]]⟩,
  ⟨"kite", 5, [(0, 1), (1, 2), (1, 3), (2, 4), (3, 4)], [[0], [0, 1], [0, 1, 2], [0, 1, 3], [0, 1, 2, 3, 4]],
   [[0, 0, 0, 0, 0], [0, 1, 1, 1, 1], [0, 1, 2, 1, 2], [0, 1, 1, 3, 3], [0, 1, 2, 3, 4]],
   [[0, 1, 2, 3, 4], [1, 1, 2, 3, 4], [2, 2, 2, 4, 4], [3, 3, 4, 3, 4], [4, 4, 4, 4, 4]]⟩,
  ⟨"cube", 8, [(0, 1), (0, 2), (0, 3), (1, 4), (1, 5), (2, 4), (2, 6), (3, 5), (3, 6), (4, 7), (5, 7), (6, 7)], [[0], [0, 1], [0, 2], [0, 3], [0, 1, 2, 4], [0, 1, 3, 5], [0, 2, 3, 6], [0, 1, 2, 3, 4, 5, 6, 7]],
   [[0, 0, 0, 0, 0, 0, 0, 0], [0, 1, 0, 0, 1, 1, 0, 1], [0, 0, 2, 0, 2, 0, 2, 2], [0, 0, 0, 3, 0, 3, 3, 3], [0, 1, 2, 0, 4, 1, 2, 4], [0, 1, 0, 3, 1, 5, 3, 5], [0, 0, 2, 3, 2, 3, 6, 6], [0, 1, 2, 3, 4, 5, 6, 7]],
   [[0, 1, 2, 3, 4, 5, 6, 7], [1, 1, 4, 5, 4, 5, 7, 7], [2, 4, 2, 6, 4, 7, 6, 7], [3, 5, 6, 3, 7, 5, 6, 7], [4, 4, 4, 7, 4, 7, 7, 7], [5, 5, 7, 5, 7, 5, 7, 7], [6, 7, 6, 6, 7, 7, 6, 7], [7, 7, 7, 7, 7, 7, 7, 7]]⟩]
def Kn.le (k : Kn) (x y : Nat) : Bool := (k.rows.getD y []).contains x
def Kn.B (k : Kn) (x y : Nat) : Nat := (k.b.getD x []).getD y 0
def Kn.E (k : Kn) (x y : Nat) : Nat := (k.e.getD x []).getD y 0
def Kn.pD (k : Kn) : D := .tup (k.ps.map fun p => .tup [iD p.1, iD p.2])
def Kn.inD (k : Kn) : D := .tup [.str k.nm, iD k.n, k.pD]
def Kn.outD (k : Kn) : D := .tup [.str k.nm, .tup (rowsL k.n k.le)]
def latB (n : Nat) (le : Nat → Nat → Bool) (B E : Nat → Nat → Nat) : Bool :=
  (List.range n).all fun a => le a a && (List.range n).all fun b => decide (B a b < n) && decide (E a b < n) && (!(le a b && le b a) || decide (a = b)) &&
    (List.range n).all fun c => (!(le a b && le b c) || le a c) && decide (le c (B a b) = (le c a && le c b)) && decide (le (E a b) c = (le a c && le b c))
theorem latB_ok {n : Nat} {le : Nat → Nat → Bool} {B E : Nat → Nat → Nat} (h : latB n le B E = true) : Lat n le B E := by
  unfold latB at h
  simp only [List.all_eq_true, List.mem_range, Bool.and_eq_true, decide_eq_true_eq, Bool.or_eq_true, Bool.not_eq_true', Bool.and_eq_false_iff] at h
  refine ⟨fun a ha => (h a ha).1, fun a ha b hb h1 h2 => ?_, fun a ha b hb c hc h1 h2 => ?_, fun a ha b hb => ((h a ha).2 b hb).1.1.1, fun a ha b hb => ((h a ha).2 b hb).1.1.2, fun a ha b hb c hc => (((h a ha).2 b hb).2 c hc).1.2, fun a ha b hb c hc => (((h a ha).2 b hb).2 c hc).2⟩
  · rcases ((h a ha).2 b hb).1.2 with (z | z) | z
    · rw [h1] at z; cases z
    · rw [h2] at z; cases z
    · exact z
  · rcases (((h a ha).2 b hb).2 c hc).1.1 with (z | z) | z
    · rw [h1] at z; cases z
    · rw [h2] at z; cases z
    · exact z
theorem known_lat : ∀ k ∈ known, Lat k.n k.le k.B k.E := fun k hk => latB_ok (List.all_eq_true.mp (show (known.all fun k => latB k.n k.le k.B k.E) = true from by decide +kernel) k hk)
theorem known_n : ∀ k ∈ known, 1 ≤ k.n ∧ k.n ≤ 8 := fun k hk => of_decide_eq_true (List.all_eq_true.mp (show (known.all fun k => decide (1 ≤ k.n ∧ k.n ≤ 8)) = true from by decide +kernel) k hk)
/-! ### sorted numbers -/
def insN (a : Nat) : List Nat → List Nat
  | [] => [a]
  | b :: L => if a ≤ b then a :: b :: L else b :: insN a L
def srt : List Nat → List Nat
  | [] => []
  | a :: L => insN a (srt L)
theorem insN_perm (a : Nat) : ∀ L : List Nat, (insN a L).Perm (a :: L)
  | [] => List.Perm.refl _
  | b :: L => by
    unfold insN
    by_cases h : a ≤ b
    · rw [if_pos h]
    · rw [if_neg h]
      exact ((insN_perm a L).cons b).trans (List.Perm.swap a b L)
theorem srt_perm : ∀ L : List Nat, (srt L).Perm L
  | [] => List.Perm.refl _
  | a :: L => (insN_perm a (srt L)).trans ((srt_perm L).cons a)
theorem insN_srt {a : Nat} : ∀ {L : List Nat}, L.Pairwise (· ≤ ·) → (insN a L).Pairwise (· ≤ ·)
  | [], _ => List.pairwise_singleton _ _
  | b :: L, h => by
    unfold insN
    by_cases z : a ≤ b
    · rw [if_pos z]
      refine List.Pairwise.cons (fun c hc => ?_) h
      cases hc with
      | head => exact z
      | tail _ hc => exact Nat.le_trans z (List.rel_of_pairwise_cons h hc)
    · rw [if_neg z]
      refine List.Pairwise.cons (fun c hc => ?_) (insN_srt h.of_cons)
      have hc := (insN_perm a L).mem_iff.mp hc
      cases hc with
      | head => omega
      | tail _ hc => exact List.rel_of_pairwise_cons h hc
theorem srt_srt : ∀ L : List Nat, (srt L).Pairwise (· ≤ ·)
  | [] => List.Pairwise.nil
  | a :: L => insN_srt (srt_srt L)
theorem ints_i : ∀ L : List Nat, intsOf (L.map iD) = some (L.map fun j => ((j : Nat) : Int))
  | [] => rfl
  | a :: L => by
    rw [List.map_cons]
    show (intsOf (L.map iD)).map _ = _
    rw [ints_i L]
    rfl
theorem sort_to {L M : List Nat} (p : M.Perm L) (h : M.Pairwise (· ≤ ·)) : gSortI [.lst (L.map iD)] = some (M.map iD) := by
  show (intsOf (L.map iD)).map _ = _
  rw [ints_i]
  show some (((L.map fun j => ((j : Nat) : Int)).mergeSort fun a b => decide (a ≤ b)).map D.int) = _
  rw [← sorted_eq (ns' := M.map fun j => ((j : Nat) : Int)) (p.map _) (List.Pairwise.map _ (fun a b hab => Int.ofNat_le.mpr hab) h), List.map_map]
  rfl
theorem sort_i (L : List Nat) : gSortI [.lst (L.map iD)] = some ((srt L).map iD) := sort_to (srt_perm L) (srt_srt L)
/-! ### the closing -/
def unl (L : List Nat) : List Nat := ((List.range (srt L).length).filter fun i => decide (i = 0) || !decide ((srt L).getD i 0 = (srt L).getD (i - 1) 0)).map fun i => (srt L).getD i 0
section
variable {CL aH : Addr}
theorem ix_i {L : List Nat} {i : Nat} (h : i < L.length) : gIx (.lst (L.map iD)) (iD i) = some (iD (L.getD i 0)) := by
  refine (ix_map (L := L) (f := iD) (a := L.getD i 0) ?_).1
  rw [List.getD_eq_getElem?_getD, List.getElem?_eq_getElem h]
  rfl
theorem unlike_ok (L : List Nat) (hl : L.length ≤ 1000) : m__law_unlike CL aH [.lst (L.map iD)] [] = some (.ok (.lst ((unl L).map iD)) []) := by
  unfold m__law_unlike
  refine mir_rt rfl ?_
  unfold g__law_unlike
  have hs : (srt L).length = L.length := (srt_perm L).length_eq
  refine x_seq (s' := ⟨[.va (.lst (L.map iD)), .va (.lst ((srt L).map iD)), .no], []⟩) (x_put (e_lstF (f_cb (e_cons (e_var rfl) e_nil) (sort_i L))) rfl) ?_
  have := e_lc (vs := [2]) (T := .nm 2) (fi := mRg rg1 (fCons (mCB gLen (fCons (fVar false 1) fNil)) fNil)) (ft := mOr (mB (mOp gEq (fVar false 2) (fC (.int (0))))) (mB (mOp gNe (mOp gIx (fVar false 1) (fVar false 2)) (mOp gIx (fVar false 1) (mOp DL.gSub (fVar false 2) (fC (.int (1)))))))) (fe := mOp gIx (fVar false 1) (fVar false 2)) (s := ⟨[.va (.lst (L.map iD)), .va (.lst ((srt L).map iD)), .no], []⟩) (s0 := ⟨[.va (.lst (L.map iD)), .va (.lst ((srt L).map iD)), .no], []⟩) (L := List.range (srt L).length) (f := iD) (g := fun i => iD ((srt L).getD i 0)) (p := fun i => decide (i = 0) || !decide ((srt L).getD i 0 = (srt L).getD (i - 1) 0)) (ar := [])
    (e_rg (e_cons (e_cb (e_cons (e_var rfl) e_nil) rfl) e_nil) (by rw [List.length_map]; exact rgN (by omega))) (limN (by rw [List.length_range]; omega)) rfl fun i hi => ?_
  · have e : (List.filter (fun i => decide (i = 0) || !decide ((srt L).getD i 0 = (srt L).getD (i - 1) 0)) (List.range (srt L).length)).map (fun i => iD ((srt L).getD i 0)) = (unl L).map iD := by
      unfold unl
      rw [List.map_map]
      rfl
    rw [e] at this
    exact x_ret (e_lstF this)
  · have hi := List.mem_range.mp hi
    refine ⟨⟨[.va (.lst (L.map iD)), .va (.lst ((srt L).map iD)), .va (iD i)], []⟩, rfl, ?_, fun _ => e_op (e_var rfl) (e_var rfl) (ix_i hi)⟩
    have g0 : gEq (iD i) (.int 0) = some (.bl (decide (i = 0))) := eq_iD (b := 0)
    by_cases z : i = 0
    · rw [decide_eq_true z] at g0 ⊢
      exact e_orT (e_mB (e_op (e_var rfl) e_c g0))
    · rw [decide_eq_false z] at g0 ⊢
      have gs : DL.gSub (iD i) (.int 1) = some (iD (i - 1)) := by
        show some (D.int (((i : Nat) : Int) - 1)) = some (D.int (((i - 1 : Nat) : Nat) : Int))
        congr 2
        omega
      exact e_orF (e_mB (e_op (e_var rfl) e_c g0)) (e_mB (e_op (e_op (e_var rfl) (e_var rfl) (ix_i hi)) (e_op (e_var rfl) (e_op (e_var rfl) e_c gs) (ix_i (by omega))) ne_iD))
def pqD (p : Nat × Nat) : D := .tup [iD p.1, iD p.2]
def rwD (r : List Nat) : D := .lst (r.map iD)
def stepO (b : List (List Nat)) (p : Nat × Nat) : Option (List (List Nat)) :=
  if p.1 < b.length ∧ p.2 < b.length ∧ (b.getD p.2 [] ++ b.getD p.1 [] ++ [p.1]).length ≤ 1000 then some (b.set p.2 (unl (b.getD p.2 [] ++ b.getD p.1 [] ++ [p.1]))) else none
def lapO : List (Nat × Nat) → List (List Nat) → Option (List (List Nat))
  | [], b => some b
  | p :: ps, b => (stepO b p).bind (lapO ps)
def lapsO (ps : List (Nat × Nat)) : Nat → List (List Nat) → Option (List (List Nat))
  | 0, b => some b
  | n + 1, b => (lapO ps b).bind (lapsO ps n)
theorem x_setI {i j : Nat} {f fj : M D} {s : DL.S} {xs : List D} {d : D} {ar1 ar2 : Ar} (h0 : s.sl[i]? = some (.ol xs)) (h1 : f s = some (.ok d ar1)) (h2 : fj (s.wa ar1) = some (.ok (iD j) ar2)) (hj : j < xs.length) : gSetI i f fj s = some (.nx ⟨s.sl.set i (.ol (xs.set j d)), ar2⟩) := by
  unfold gSetI
  rw [h0]
  dsimp only
  refine x_bind h1 (x_bind h2 ?_)
  unfold kSetI iD
  dsimp only
  rw [h0]
  dsimp only
  unfold ixN
  rw [if_pos (by omega), if_pos (by omega), Int.toNat_natCast]
  rfl
def gClo (CL aH : Addr) : G := gSetI 2 (mCallP true (m__law_unlike CL aH) (fCons (mLst (mOpF gCat (mOp gAdd (mOp gIx (fVar false 2) (fVar false 5)) (mOp gIx (fVar false 2) (fVar false 4))) (mLst (fBound (fCons (fVar true 4) fNil))))) fNil)) (fVar true 5)
theorem ix_rw {b : List (List Nat)} {i : Nat} (h : i < b.length) : gIx (.lst (b.map rwD)) (iD i) = some (rwD (b.getD i [])) := by
  refine (ix_map (L := b) (f := rwD) (a := b.getD i []) ?_).1
  rw [List.getD_eq_getElem?_getD, List.getElem?_eq_getElem h]
  rfl
theorem clo_step {b b' : List (List Nat)} {p : Nat × Nat} {x0 x1 x3 : Sl} (h : stepO b p = some b') : gClo CL aH ⟨[x0, x1, .ol (b.map rwD), x3, .va (iD p.1), .va (iD p.2), .no, .no], []⟩ = some (.nx ⟨[x0, x1, .ol (b'.map rwD), x3, .va (iD p.1), .va (iD p.2), .no, .no], []⟩) := by
  unfold stepO at h
  split at h
  · rename_i hp
    obtain ⟨h1, h2, h3⟩ := hp
    cases h
    have hl := h3
    rw [List.length_append, List.length_append] at hl
    have g1 : DL.gAdd (rwD (b.getD p.2 [])) (rwD (b.getD p.1 [])) = some (rwD (b.getD p.2 [] ++ b.getD p.1 [])) := by
      show (if ((b.getD p.2 []).map iD).length + ((b.getD p.1 []).map iD).length ≤ LIM then some (D.lst ((b.getD p.2 []).map iD ++ (b.getD p.1 []).map iD)) else none) = _
      rw [if_pos (limN (by rw [List.length_map, List.length_map]; omega)), ← List.map_append]
      rfl
    have g2 : gCat (rwD (b.getD p.2 [] ++ b.getD p.1 [])) (.lst [iD p.1]) = some ((b.getD p.2 [] ++ b.getD p.1 [] ++ [p.1]).map iD) := by
      show (if ((b.getD p.2 [] ++ b.getD p.1 []).map iD).length + 1 ≤ LIM then some ((b.getD p.2 [] ++ b.getD p.1 []).map iD ++ [iD p.1]) else none) = _
      rw [if_pos (limN (by rw [List.length_map, List.length_append]; simp only [List.length_singleton] at hl; omega)), List.map_append (l₂ := [p.1])]
      rfl
    have := x_setI (i := 2) (j := p.2) (f := mCallP true (m__law_unlike CL aH) (fCons (mLst (mOpF gCat (mOp gAdd (mOp gIx (fVar false 2) (fVar false 5)) (mOp gIx (fVar false 2) (fVar false 4))) (mLst (fBound (fCons (fVar true 4) fNil))))) fNil)) (fj := fVar true 5) (s := ⟨[x0, x1, .ol (b.map rwD), x3, .va (iD p.1), .va (iD p.2), .no, .no], []⟩) rfl
      (e_callP (e_cons (e_lstF (f_op (e_op (e_op (a := .lst (b.map rwD)) rfl (e_var rfl) (ix_rw h2)) (e_op (a := .lst (b.map rwD)) rfl (e_var rfl) (ix_rw h1)) g1) (e_lstF (f_bound (e_cons (e_var rfl) e_nil) (Nat.le_of_ble_eq_true rfl))) g2)) e_nil) (unlike_ok _ h3) rfl) (e_var rfl) (by rw [List.length_map]; exact h2)
    rw [List.map_set]
    exact this
  · cases h
theorem clo_lap {x0 x1 x3 : Sl} : ∀ {ps : List (Nat × Nat)} {b b' : List (List Nat)} {x4 x5 : Sl}, lapO ps b = some b' → ∃ x4' x5', forF (setT (.tp [4, 5])) (gClo CL aH) (ps.map pqD) ⟨[x0, x1, .ol (b.map rwD), x3, x4, x5, .no, .no], []⟩ = some (.nx ⟨[x0, x1, .ol (b'.map rwD), x3, x4', x5', .no, .no], []⟩)
  | [], b, b', x4, x5, h => by
    cases h
    exact ⟨x4, x5, rfl⟩
  | p :: ps, b, b', x4, x5, h => by
    have h : (stepO b p).bind (lapO ps) = some b' := h
    cases z : stepO b p with
    | none => rw [z] at h; cases h
    | some b1 =>
      rw [z] at h
      obtain ⟨y4, y5, e⟩ := clo_lap (x4 := .va (iD p.1)) (x5 := .va (iD p.2)) (show lapO ps b1 = some b' from h)
      refine ⟨y4, y5, ?_⟩
      rw [List.map_cons]
      unfold forF
      show (match gClo CL aH ⟨[x0, x1, .ol (b.map rwD), x3, .va (iD p.1), .va (iD p.2), .no, .no], []⟩ with
        | some (.nx s2) => forF (setT (.tp [4, 5])) (gClo CL aH) (ps.map pqD) s2
        | some (.ct s2) => forF (setT (.tp [4, 5])) (gClo CL aH) (ps.map pqD) s2
        | some (.bk s2) => some (.nx s2)
        | o => o) = _
      rw [clo_step z]
      exact e
theorem clo_laps {ps : List (Nat × Nat)} {x1 : Sl} : ∀ {items : List D} {b b' : List (List Nat)} {x3 x4 x5 : Sl}, lapsO ps items.length b = some b' → ∃ x3' x4' x5', forF (setT (.nm 3)) (gFor (.tp [4, 5]) (mSeq (fVar true 0)) (gClo CL aH)) items ⟨[.va (.tup (ps.map pqD)), x1, .ol (b.map rwD), x3, x4, x5, .no, .no], []⟩ = some (.nx ⟨[.va (.tup (ps.map pqD)), x1, .ol (b'.map rwD), x3', x4', x5', .no, .no], []⟩)
  | [], b, b', x3, x4, x5, h => by
    cases h
    exact ⟨x3, x4, x5, rfl⟩
  | d :: items, b, b', x3, x4, x5, h => by
    have h : (lapO ps b).bind (lapsO ps items.length) = some b' := h
    cases z : lapO ps b with
    | none => rw [z] at h; cases h
    | some b1 =>
      rw [z] at h
      obtain ⟨y4, y5, e1⟩ := clo_lap (CL := CL) (aH := aH) (x0 := .va (.tup (ps.map pqD))) (x1 := x1) (x3 := .va d) (x4 := x4) (x5 := x5) z
      obtain ⟨z3, z4, z5, e⟩ := clo_laps (x3 := .va d) (x4 := y4) (x5 := y5) (show lapsO ps items.length b1 = some b' from h)
      refine ⟨z3, z4, z5, ?_⟩
      unfold forF
      show (match gFor (.tp [4, 5]) (mSeq (fVar true 0)) (gClo CL aH) ⟨[.va (.tup (ps.map pqD)), x1, .ol (b.map rwD), .va d, x4, x5, .no, .no], []⟩ with
        | some (.nx s2) => forF (setT (.nm 3)) (gFor (.tp [4, 5]) (mSeq (fVar true 0)) (gClo CL aH)) items s2
        | some (.ct s2) => forF (setT (.nm 3)) (gFor (.tp [4, 5]) (mSeq (fVar true 0)) (gClo CL aH)) items s2
        | some (.bk s2) => some (.nx s2)
        | o => o) = _
      rw [x_for (e_seqI (e_var rfl) rfl) e1]
      exact e
theorem closed_ok {ps : List (Nat × Nat)} {n : Nat} {b : List (List Nat)} (hn : n ≤ 1000) (h : lapsO ps n ((List.range n).map fun i => [i]) = some b) (hb : b.all (fun r => decide (r.length ≤ 1000)) = true) (hbl : b.length ≤ 1000) : m__law_closed CL aH [.tup (ps.map pqD), iD n] [] = some (.ok (.tup (b.map fun r => .tup ((srt r).map iD))) []) := by
  unfold m__law_closed
  refine mir_rt rfl ?_
  unfold g__law_closed
  have hrg : rg1 [iD n] = some ((List.range n).map iD) := rgN (by omega)
  have h0 : mLc [6] (.nm 6) (mRg rg1 (fCons (fVar true 1) fNil)) fYes (mLst (fBound (fCons (fVar true 6) fNil))) ⟨[.va (.tup (ps.map pqD)), .va (iD n), .no, .no, .no, .no, .no, .no], []⟩ = some (.ok (((List.range n).map fun i => [i]).map rwD) []) := by
    rw [List.map_map]
    exact e_lcY (f := iD) (s0 := ⟨[.va (.tup (ps.map pqD)), .va (iD n), .no, .no, .no, .no, .no, .no], []⟩) (e_rg (e_cons (e_var rfl) e_nil) hrg) (limN (by rw [List.length_range]; exact hn)) rfl fun i hi => ⟨⟨[.va (.tup (ps.map pqD)), .va (iD n), .no, .no, .no, .no, .va (iD i), .no], []⟩, rfl, rfl, e_lstF (f_bound (e_cons (e_var rfl) e_nil) (Nat.le_of_ble_eq_true rfl))⟩
  refine x_seq (s' := ⟨[.va (.tup (ps.map pqD)), .va (iD n), .ol (((List.range n).map fun i => [i]).map rwD), .no, .no, .no, .no, .no], []⟩) (x_own h0 (by show 2 < 8; decide)) ?_
  obtain ⟨y3, y4, y5, e⟩ := clo_laps (CL := CL) (aH := aH) (ps := ps) (x1 := .va (iD n)) (items := (List.range n).map iD) (x3 := .no) (x4 := .no) (x5 := .no) (by rw [List.length_map, List.length_range]; exact h)
  refine x_seq (x_for (e_rg (e_cons (e_var rfl) e_nil) hrg) e) ?_
  refine x_ret (e_cb (e_cons (e_lstF (e_lcY (L := b) (f := rwD) (g := fun r => .tup ((srt r).map iD)) (s0 := ⟨[.va (.tup (ps.map pqD)), .va (iD n), .va (.lst (b.map rwD)), y3.fz, y4.fz, y5.fz, .no, .no], []⟩) (e_seqI (e_var rfl) rfl) (limN hbl) rfl fun r hr => ?_)) e_nil) rfl)
  exact ⟨⟨[.va (.tup (ps.map pqD)), .va (iD n), .va (.lst (b.map rwD)), y3.fz, y4.fz, y5.fz, .no, .va (rwD r)], []⟩, rfl, rfl, e_cb (e_cons (e_lstF (f_cb (e_cons (e_var rfl) e_nil) (sort_i r))) e_nil) rfl⟩
/-- what the closing of each known lattice comes to -/
def Kn.clo (k : Kn) : Bool := match lapsO k.ps k.n ((List.range k.n).map fun i => [i]) with
  | some b => b.all (fun r => decide (r.length ≤ 1000)) && decide (b.length ≤ 1000) && decide (b.map srt = (List.range k.n).map fun i => row k.n k.le i)
  | none => false
theorem known_clo : (known.all fun k => k.clo) = true := by decide +kernel
theorem known_closed : ∀ k ∈ known, m__law_closed CL aH [k.pD, iD k.n] [] = some (.ok (.tup (rowsL k.n k.le)) []) := fun k hk => by
  have h := List.all_eq_true.mp known_clo k hk
  unfold Kn.clo at h
  cases z : lapsO k.ps k.n ((List.range k.n).map fun i => [i]) with
  | none => rw [z] at h; cases h
  | some b =>
    rw [z] at h
    simp only [Bool.and_eq_true, decide_eq_true_eq] at h
    have := closed_ok (CL := CL) (aH := aH) (by have := (known_n k hk).2; omega) z h.1.1 h.1.2
    have e : (b.map fun r => D.tup ((srt r).map iD)) = rowsL k.n k.le := by
      have := congrArg (List.map fun r => D.tup (r.map iD)) h.2
      rw [List.map_map, List.map_map] at this
      exact this
    rw [e] at this
    exact this
end
end K17
set_option Elab.async false
set_option linter.all false
set_option maxRecDepth 100000
/-! P10: renumbered rows, the lattice that a lap draws -/
namespace K17
open PySem L2 DL DLk
section
variable {CL aH p : Addr} {ns : List Int} {ar : Ar} {n : Nat} {le : Nat → Nat → Bool} {B E : Nat → Nat → Nat} {a b : Nat}
def sg (l : List Nat) (i : Nat) : Nat := l.getD i 0
/-- a row, renumbered -/
theorem led_row {l : List Nat} {τ : Nat → Nat} (h : l.Perm (List.range n)) (R : Ren n (sg l) τ) (ha : a < n) : gSortI [.lst ((row n le a).map fun j => iD (sg l j))] = some ((row n (fun x y => le (τ x) (τ y)) (sg l a)).map iD) := by
  have e : (row n le a).map (fun j => iD (sg l j)) = ((row n le a).map (sg l)).map iD := by rw [List.map_map]; rfl
  rw [e]
  refine sort_to ?_ ((row_lt n _ _).imp fun h => Nat.le_of_lt h)
  have e2 : (row n le a).map (sg l) = l.filter fun j => le (τ j) (τ (sg l a)) := by
    have hq := congrArg (List.filter fun j => le (τ j) (τ (sg l a))) (perm_eq_map h)
    rw [List.filter_map] at hq
    have e3 : (List.range n).filter ((fun j => le (τ j) (τ (sg l a))) ∘ fun a => l.getD a 0) = row n le a := by
      unfold row
      refine List.filter_congr fun j hj => ?_
      have hj := List.mem_range.mp hj
      show le (τ (sg l j)) (τ (sg l a)) = _
      rw [R.ts j hj, R.ts a ha]
    rw [e3] at hq
    exact hq.symm
  rw [e2]
  exact (h.filter _).symm
theorem flat1 : ∀ n : Nat, (List.replicate n [D.tup []]).flatten = List.replicate n (D.tup [])
  | 0 => rfl
  | n + 1 => by rw [List.replicate_succ, List.flatten_cons, flat1 n]; rfl
theorem rep_tup {n : Nat} (hn : n ≤ 1000) : gRep (.lst [.tup []]) (.int (n : Nat)) = some (List.replicate n (.tup [])) := by
  have hc : (decide (-(2 ^ 62) ≤ ((n : Nat) : Int)) && decide (((n : Nat) : Int) < 2 ^ 62) && decide ([D.tup []].length * ((n : Nat) : Int).toNat ≤ LIM)) = true := by
    rw [decide_eq_true (show -(2 ^ 62) ≤ ((n : Nat) : Int) by omega), decide_eq_true (show ((n : Nat) : Int) < 2 ^ 62 by omega), decide_eq_true (show [D.tup []].length * ((n : Nat) : Int).toNat ≤ LIM from limN (by rw [List.length_singleton]; omega))]
    rfl
  unfold gRep
  dsimp only
  generalize hq : (decide (-(2 ^ 62) ≤ ((n : Nat) : Int)) && decide (((n : Nat) : Int) < 2 ^ 62) && decide ([D.tup []].length * ((n : Nat) : Int).toNat ≤ LIM)) = c at hc ⊢
  clear hq
  subst hc
  rw [Int.toNat_natCast, flat1]
  rfl
def gLed : G := gSetI 2 (mCB gTuple (fCons (mLst (mCBF gSortI (fCons (mLst (mLc [5] (.nm 5) (mSeq (fVar false 4)) fYes (mOp gIx (fVar false 1) (fVar false 5)))) fNil))) fNil)) (mOp gIx (fVar false 1) (fVar false 3))
theorem led_rows_ok {l : List Nat} {τ : Nat → Nat} (hn : n ≤ 1000) (h : l.Perm (List.range n)) (R : Ren n (sg l) τ) : m__law_led_rows CL aH [.tup (rowsL n le), .lst (l.map iD)] [] = some (.ok (.tup (rowsL n fun x y => le (τ x) (τ y))) []) := by
  have hl : l.length = n := by rw [h.length_eq, List.length_range]
  unfold m__law_led_rows
  refine mir_rt rfl ?_
  unfold g__law_led_rows
  have hr0 : gRep (.lst [.tup []]) (.int ((rowsL n le).length : Nat)) = some (List.replicate n (.tup [])) := by rw [rows_len]; exact rep_tup hn
  refine x_seq (s' := ⟨[.va (.tup (rowsL n le)), .va (.lst (l.map iD)), .ol (List.replicate n (.tup [])), .no, .no, .no], []⟩) (x_own (f_op (e_lstF (f_bound (e_cons (e_tup e_nil (Nat.zero_le _)) e_nil) (Nat.le_of_ble_eq_true rfl))) (e_cb (e_cons (e_var rfl) e_nil) len_tup) hr0) (by show 2 < 6; decide)) ?_
  have hf := for_inv (set := setT (.tp [3, 4])) (f := fun i => D.tup [iD i, .tup (rowL n le i)]) (g := gLed) (fun done rest s => done ++ rest = List.range n ∧ ∃ fs x3 x4, s = ⟨[.va (.tup (rowsL n le)), .va (.lst (l.map iD)), .ol fs, x3, x4, .no], []⟩ ∧ fs.length = n ∧ ∀ i ∈ done, fs[sg l i]? = some (.tup (rowL n (fun x y => le (τ x) (τ y)) (sg l i)))) (List.range n) [] ⟨[.va (.tup (rowsL n le)), .va (.lst (l.map iD)), .ol (List.replicate n (.tup [])), .no, .no, .no], []⟩ ⟨rfl, _, _, _, rfl, List.length_replicate, by simp⟩ ?_
  · obtain ⟨s', h1, h2, fs, x3, x4, rfl, hfl, hfs⟩ := hf
    refine x_seq (x_for (xs := (List.range n).map fun i => .tup [iD i, .tup (rowL n le i)]) (e_rg (e_cons (e_var rfl) e_nil) (congrArg some (enum_range _ n))) h1) ?_
    have e : fs = rowsL n fun x y => le (τ x) (τ y) := by
      refine List.ext_getElem? fun b => ?_
      by_cases hb : b < n
      · have := hfs (τ b) (by rw [List.nil_append]; exact List.mem_range.mpr (R.tn b hb))
        rw [R.st b hb] at this
        rw [this]
        unfold rowsL
        rw [List.getElem?_map, range_at hb]
        rfl
      · rw [List.getElem?_eq_none (by omega), List.getElem?_eq_none (by rw [rows_len]; omega)]
    rw [e]
    exact x_ret (e_cb (e_cons (e_var rfl) e_nil) rfl)
  · rintro done i rest s ⟨hdr, fs, x3, x4, rfl, hfl, hfs⟩
    have hi : i < n := by
      rw [← List.mem_range, ← hdr]
      exact List.mem_append.mpr (.inr (List.mem_cons_self ..))
    have hlc : mLc [5] (.nm 5) (mSeq (fVar false 4)) fYes (mOp gIx (fVar false 1) (fVar false 5)) ⟨[.va (.tup (rowsL n le)), .va (.lst (l.map iD)), .ol fs, .va (iD i), .va (.tup (rowL n le i)), .no], []⟩ = some (.ok ((row n le i).map fun j => iD (sg l j)) []) := by
      refine e_lcY (f := iD) (s0 := ⟨[.va (.tup (rowsL n le)), .va (.lst (l.map iD)), .ol fs, .va (iD i), .va (.tup (rowL n le i)), .no], []⟩) (e_seqI (e_var rfl) rfl) (limN (Nat.le_trans (row_le n le i) hn)) rfl fun j hj => ?_
      exact ⟨⟨[.va (.tup (rowsL n le)), .va (.lst (l.map iD)), .ol fs, .va (iD i), .va (.tup (rowL n le i)), .va (iD j)], []⟩, rfl, rfl, e_op (e_var rfl) (e_var rfl) (ix_i (by have := (mem_row.mp hj).1; omega))⟩
    refine ⟨_, _, rfl, x_setI (j := sg l i) rfl (e_cb (e_cons (e_lstF (f_cb (e_cons (e_lstF hlc) e_nil) (led_row h R hi))) e_nil) rfl) (e_op (e_var rfl) (e_var rfl) (ix_i (by omega))) (by have := R.sn i hi; omega), by rw [List.append_assoc]; exact hdr, _, _, _, rfl, by rw [List.length_set]; exact hfl, fun k hk => ?_⟩
    rw [List.getElem?_set]
    by_cases z : sg l i = sg l k
    · rw [if_pos z, if_pos (by have := R.sn i hi; omega), z]
      rfl
    · rw [if_neg z]
      rcases List.mem_append.mp hk with hk | hk
      · exact hfs k hk
      · cases List.mem_singleton.mp hk
        exact absurd rfl z
/-! ### the known lattices, in the walk -/
theorem g_cat {xs ys : List D} (h : xs.length + ys.length ≤ 1000) : gCat (.lst xs) (.lst ys) = some (xs ++ ys) := if_pos (limN h)
theorem known_ok : m__law_known_lattices CL aH [] ar = some (.ok (.lst (known.map Kn.outD)) ar) := by
  unfold m__law_known_lattices
  refine mir_rt rfl ?_
  unfold g__law_known_lattices
  refine x_seq (s' := ⟨[.ol ((known.take 4).map Kn.inD), .no, .no, .no], ar⟩) (x_own (xs := (known.take 4).map Kn.inD) ?_ (by show 0 < 4; decide)) ?_
  · repeat' first
      | exact e_c
      | exact e_var rfl
      | exact e_nil
      | apply e_mB
      | apply e_mTru
      | apply e_notT
      | apply e_notV
      | apply e_cons
      | apply e_op
      | apply e_cb
      | apply e_lstF
      | apply e_tup
      | apply e_callP
      | apply e_fld
      | apply e_seqI
      | apply e_rg
      | apply f_bound
      | apply f_cb
      | apply e_chain
      | apply x_seq
      | apply x_put
      | apply x_expr
      | apply x_ifN
      | apply x_ret
      | exact Nat.le_of_ble_eq_true rfl
      | rfl
  refine x_seq (s' := ⟨[.ol ((known.take 5).map Kn.inD), .no, .no, .no], ar⟩) (x_mut (xs := (known.take 4).map Kn.inD) (d := (known.getD 4 ⟨"", 0, [], [], [], []⟩).inD) rfl ?_ ?_) ?_
  · repeat' first
      | exact e_c
      | exact e_var rfl
      | exact e_nil
      | apply e_mB
      | apply e_mTru
      | apply e_notT
      | apply e_notV
      | apply e_cons
      | apply e_op
      | apply e_cb
      | apply e_lstF
      | apply e_tup
      | apply e_callP
      | apply e_fld
      | apply e_seqI
      | apply e_rg
      | apply f_bound
      | apply f_cb
      | apply e_chain
      | apply x_seq
      | apply x_put
      | apply x_expr
      | apply x_ifN
      | apply x_ret
      | exact Nat.le_of_ble_eq_true rfl
      | rfl
  · exact aApp_ok (by decide)
  refine x_seq (s' := ⟨[.ol ((known.take 7).map Kn.inD), .no, .no, .no], ar⟩) (x_own (xs := (known.take 7).map Kn.inD) (f_op (a := .lst ((known.take 5).map Kn.inD)) (b := .lst (((known.drop 5).take 2).map Kn.inD)) rfl ?_ ?_) (by show 0 < 4; decide)) ?_
  · repeat' first
      | exact e_c
      | exact e_var rfl
      | exact e_nil
      | apply e_mB
      | apply e_mTru
      | apply e_notT
      | apply e_notV
      | apply e_cons
      | apply e_op
      | apply e_cb
      | apply e_lstF
      | apply e_tup
      | apply e_callP
      | apply e_fld
      | apply e_seqI
      | apply e_rg
      | apply f_bound
      | apply f_cb
      | apply e_chain
      | apply x_seq
      | apply x_put
      | apply x_expr
      | apply x_ifN
      | apply x_ret
      | exact Nat.le_of_ble_eq_true rfl
      | rfl
  · exact g_cat (by decide)
  refine x_seq (s' := ⟨[.ol (known.map Kn.inD), .no, .no, .no], ar⟩) (x_mut (xs := (known.take 7).map Kn.inD) (d := (known.getD 7 ⟨"", 0, [], [], [], []⟩).inD) rfl ?_ ?_) ?_
  · repeat' first
      | exact e_c
      | exact e_var rfl
      | exact e_nil
      | apply e_mB
      | apply e_mTru
      | apply e_notT
      | apply e_notV
      | apply e_cons
      | apply e_op
      | apply e_cb
      | apply e_lstF
      | apply e_tup
      | apply e_callP
      | apply e_fld
      | apply e_seqI
      | apply e_rg
      | apply f_bound
      | apply f_cb
      | apply e_chain
      | apply x_seq
      | apply x_put
      | apply x_expr
      | apply x_ifN
      | apply x_ret
      | exact Nat.le_of_ble_eq_true rfl
      | rfl
  · exact aApp_ok (by decide)
  refine x_ret (e_lstF (e_lcY (L := known) (f := Kn.inD) (g := Kn.outD) (s0 := ⟨[.va (.lst (known.map Kn.inD)), .no, .no, .no], ar⟩) (e_seqI (e_var rfl) rfl) (limN (by decide)) rfl fun k hk => ?_))
  exact ⟨⟨[.va (.lst (known.map Kn.inD)), .va (.str k.nm), .va (iD k.n), .va k.pD], ar⟩, rfl, rfl, e_tup (e_cons (e_var rfl) (e_cons (e_callP (e_cons (e_var rfl) (e_cons (e_var rfl) e_nil)) (known_closed k hk) rfl) e_nil)) (Nat.le_of_ble_eq_true rfl)⟩
/-- numbers in another order -/
theorem perm_iD {ys : List D} {xs : List Nat} (h : List.Perm ys (xs.map iD)) : ∃ zs : List Nat, ys = zs.map iD ∧ List.Perm zs xs := by
  have h0 : ∀ y ∈ ys, ∃ z, y = iD z := fun y hy => by
    obtain ⟨z, _, rfl⟩ := List.mem_map.mp (h.mem_iff.mp hy)
    exact ⟨z, rfl⟩
  have : ∃ zs : List Nat, ys = zs.map iD := by
    clear h
    induction ys with
    | nil => exact ⟨[], rfl⟩
    | cons y ys ih =>
      obtain ⟨z, rfl⟩ := h0 y (List.mem_cons_self ..)
      obtain ⟨zs, rfl⟩ := ih fun y hy => h0 y (List.mem_cons_of_mem _ hy)
      exact ⟨z :: zs, rfl⟩
  obtain ⟨zs, rfl⟩ := this
  refine ⟨zs, rfl, ?_⟩
  have h2 := h.map (fun d => match d with | D.int z => z.toNat | _ => 0)
  have e : (fun d => match d with | D.int z => z.toNat | _ => 0) ∘ iD = id := by
    funext c
    show ((c : Nat) : Int).toNat = c
    exact Int.toNat_natCast c
  rw [List.map_map, List.map_map, e, List.map_id, List.map_id] at h2
  exact h2
theorem shuf_i {xs : List Nat} (h : PenOk p ns ar) (hl : xs.length < 1000000) : ∃ (ys : List Nat) (ar' : Ar), m__law_shuffled CL aH [.adr p, .lst (xs.map iD)] ar = some (.ok (.lst (ys.map iD)) ar') ∧ ys.Perm xs ∧ PenOk p ns ar' := by
  obtain ⟨ys, ar', e, pe, ok⟩ := shuf_ok (CL := CL) (aH := aH) h (xs := xs.map iD) (by rw [List.length_map]; exact hl)
  obtain ⟨zs, rfl, pz⟩ := perm_iD pe
  exact ⟨zs, ar', e, pz, ok⟩
theorem law_lattice_ok (h : PenOk p ns ar) : ∃ n le B E ar', m__law_lattice CL aH [.adr p] ar = some (.ok (.tup (rowsL n le)) ar') ∧ Lat n le B E ∧ 1 ≤ n ∧ n ≤ 8 ∧ PenOk p ns ar' := by
  obtain ⟨d, ar1, e1, hd, ok1⟩ := pick_ok (CL := CL) (aH := aH) (xs := known.map Kn.outD) h (by decide) (by decide)
  obtain ⟨k, hk, rfl⟩ := List.mem_map.mp hd
  obtain ⟨h1, h8⟩ := known_n k hk
  obtain ⟨l, ar2, e2, pl, ok2⟩ := shuf_i (CL := CL) (aH := aH) (xs := List.range k.n) ok1 (by rw [List.length_range]; omega)
  obtain ⟨τ, R⟩ := ren_of pl
  refine ⟨k.n, _, _, _, ar2, ?_, (known_lat k hk).move R, h1, h8, ok2⟩
  unfold m__law_lattice
  refine mir_rt rfl ?_
  unfold g__law_lattice
  refine x_seq (s' := ⟨[.va (.adr p), .va (.tup (rowsL k.n k.le))], ar1⟩) (x_put (e_op (e_call (e_cons (e_var rfl) (e_cons (e_call e_nil known_ok) e_nil)) e1) e_c rfl) rfl) ?_
  refine x_ret (e_callP (e_cons (e_var rfl) (e_cons (e_call (e_cons (e_var rfl) (e_cons (e_lstF (f_rgL (n := k.n) (e_cb (e_cons (e_var rfl) e_nil) ?_) (by omega))) e_nil)) e2) e_nil)) (led_rows_ok (by omega) pl R) rfl)
  rw [len_tup, rows_len]
end
end K17
set_option Elab.async false
set_option linter.all false
set_option maxRecDepth 100000
/-! P11: letters and terms -/
namespace K17
open PySem L2 DL DLk
section
variable {CL aH p : Addr} {ns : List Int} {ar : Ar} {n : Nat} {le : Nat → Nat → Bool} {B E : Nat → Nat → Nat} {a b : Nat}
def ltsD (cs : List Nat) : D := .str ⟨cs.toArray⟩
/-- letters as they may be -/
structure Lts (cs : List Nat) : Prop where
  nd : cs.Nodup
  l1 : 1 ≤ cs.length
  l6 : cs.length ≤ 6
  al : ∀ c ∈ cs, c ∈ ("abcdefghijklmnopqrstuvwxyz" : Str).cps.toList
theorem lts_items {cs : List Nat} : sqItems (ltsD cs) = some (cs.map ltr) := rfl
theorem lts_len {cs : List Nat} (h : cs.length ≤ 1000) : gLen [ltsD cs] = some (.int (cs.length : Nat)) := by
  have e : (⟨cs.toArray⟩ : Str).length = cs.length := by
    show cs.toArray.size = _
    exact List.size_toArray ..
  have h1 : gLen [ltsD cs] = some (.int ((⟨cs.toArray⟩ : Str).length : Nat)) := if_pos (by rw [e]; exact limN h)
  rw [h1, e]
theorem lt_len {c : Nat} : gLen [ltr c] = some (.int 1) := rfl
theorem lt_in {c : Nat} {cs : List Nat} : gIn (ltr c) (ltsD cs) = some (.bl (decide (c ∈ cs))) := rfl
theorem lt_inS {c : Nat} {z : Str} : gIn (ltr c) (.str z) = some (.bl (decide (c ∈ z.cps.toList))) := rfl
theorem dc_nodup {set : D → DL.S → Option DL.S} {fk fv : M D} {s0 : DL.S} {α : Type} {f : α → D} {k : α → Key} {g : α → D} {ar : Ar} : ∀ (L : List α) (ks : List Key) (xs : List D), (ks ++ L.map k).Nodup →
    (∀ a ∈ L, ∃ s1 kd, set (f a) (s0.wa ar) = some s1 ∧ s1.ar = ar ∧ fk (s1.wa ar) = some (.ok kd ar) ∧ kd.key = some (k a) ∧ fv (s1.wa ar) = some (.ok (g a) ar)) →
    dcF set fYes fk fv s0 (L.map f) (ks, xs) ar = some ((ks ++ L.map k, xs ++ L.map g), ar)
  | [], ks, xs, _, _ => by simp [dcF]
  | a :: L, ks, xs, h, e => by
    obtain ⟨s1, kd, h1, h2, h3, h4, h5⟩ := e a (List.mem_cons_self ..)
    have hk : kHas ks (k a) = false := by
      unfold kHas
      rw [List.any_eq_false]
      intro j hj
      rw [decide_eq_true_eq]
      intro e
      subst e
      rw [List.map_cons, List.nodup_append] at h
      exact h.2.2 _ hj _ (List.mem_cons_self ..) rfl
    rw [List.map_cons]
    unfold dcF
    rw [h1]
    dsimp only [Option.bind]
    rw [show fYes s1 = some (.ok true ar) from by show some (R.ok true s1.ar) = _; rw [h2]]
    dsimp only
    rw [h3]
    dsimp only
    rw [h5]
    dsimp only
    rw [h4]
    dsimp only [Option.bind]
    unfold putD
    rw [hk]
    show dcF set fYes fk fv s0 (L.map f) (ks ++ [k a], xs ++ [g a]) ar = _
    rw [dc_nodup L (ks ++ [k a]) (xs ++ [g a]) (by rw [List.append_assoc]; exact h) fun b hb => e b (List.mem_cons_of_mem _ hb)]
    simp
theorem e_dcY {α : Type} {vs : List Nat} {T : Tg} {fi : M (List D)} {fk fv : M D} {s s0 : DL.S} {L : List α} {f g : α → D} {k : α → Key} {ar : Ar} (hi : fi s = some (.ok (L.map f) ar)) (hl : L.length ≤ LIM) (hw : wipeS vs (s.wa ar) = some s0) (nd : (L.map k).Nodup)
    (h : ∀ a ∈ L, ∃ s1 kd, setT T (f a) (s0.wa ar) = some s1 ∧ s1.ar = ar ∧ fk (s1.wa ar) = some (.ok kd ar) ∧ kd.key = some (k a) ∧ fv (s1.wa ar) = some (.ok (g a) ar)) : mDc vs T fi fYes fk fv s = some (.ok (.dk (L.map k) (L.map g)) ar) := by
  unfold mDc DL.bindM
  rw [hi]
  dsimp only
  rw [if_pos (show (L.map f).length ≤ LIM from by rw [List.length_map]; exact hl), hw]
  dsimp only [Option.bind]
  rw [dc_nodup L [] [] nd h]
  rfl
theorem chK_nodup {cs : List Nat} (h : cs.Nodup) : (cs.map chK).Nodup := by
  rw [List.nodup_iff_pairwise_ne] at h ⊢
  rw [List.pairwise_map]
  refine h.imp fun {a b} hab e => hab ?_
  injection e with e
  injection e with e
  injection e with e
  injection e
theorem are_letters_ok {cs : List Nat} (h : Lts cs) : m_are_letters CL aH [ltsD cs] [] = some (.ok (.bl true) []) := by
  have hl := h.l6
  unfold m_are_letters
  refine mir_rt rfl ?_
  unfold g_are_letters
  have isi : gIsi CL [ltsD cs, .ty "str"] = some (.bl true) := isi_str
  have c1 : gLe (.int 1) (.int (cs.length : Nat)) = some (.bl true) := by rw [g_le, decide_eq_true (by have := h.l1; omega)]
  have c2 : gLe (.int (cs.length : Nat)) (.int 6) = some (.bl true) := by rw [g_le, decide_eq_true (by omega)]
  have hd : mDc [1] (.nm 1) (mSeq (fVar false 0)) fYes (fVar false 1) (fC (.bl true)) ⟨[.va (ltsD cs), .no], []⟩ = some (.ok (.dk (cs.map chK) (cs.map fun _ => .bl true)) []) :=
    e_dcY (L := cs) (f := ltr) (s0 := ⟨[.va (ltsD cs), .no], []⟩) (e_seqI (e_var rfl) lts_items) (limN (by omega)) rfl (chK_nodup h.nd) fun c hc => ⟨⟨[.va (ltsD cs), .va (ltr c)], []⟩, ltr c, rfl, rfl, e_var rfl, rfl, e_c⟩
  have hlen : gLen [D.dk (cs.map chK) (cs.map fun _ => .bl true)] = some (.int (cs.length : Nat)) := by
    show some (D.int ((cs.map fun _ => D.bl true).length : Nat)) = _
    rw [List.length_map]
  have heq : gEq (.int (cs.length : Nat)) (.int (cs.length : Nat)) = some (.bl true) := by rw [g_eqI, decide_eq_true rfl]
  have ha : mLc [1] (.nm 1) (mSeq (fVar false 0)) fYes (mOp gIn (fVar false 1) (fC (.str "abcdefghijklmnopqrstuvwxyz"))) ⟨[.va (ltsD cs), .no], []⟩ = some (.ok (cs.map fun _ => .bl true) []) :=
    e_lcY (L := cs) (f := ltr) (s0 := ⟨[.va (ltsD cs), .no], []⟩) (e_seqI (e_var rfl) lts_items) (limN (by omega)) rfl fun c hc => ⟨⟨[.va (ltsD cs), .va (ltr c)], []⟩, rfl, rfl, e_op (e_var rfl) e_c (by rw [lt_inS, decide_eq_true (h.al c hc)])⟩
  refine x_seq (x_ifN (e_orF (e_notT (e_mTru (e_cb (e_cons (e_var rfl) (e_cons e_c e_nil)) isi) rfl)) (e_notT (e_mB (e_chain e_c (e_cb (e_cons (e_var rfl) e_nil) (lts_len (by omega))) c1 e_c c2))))) (x_ret (e_andVT (ar1 := []) (e_op (e_cb (e_cons hd e_nil) hlen) (e_cb (e_cons (e_var rfl) e_nil) (lts_len (by omega))) heq) (e_cb (e_cons (e_lstF ha) e_nil) (all_T _))))
theorem need_letters_ok {cs : List Nat} (h : Lts cs) : m_need_letters CL aH [ltsD cs] [] = some (.ok (ltsD cs) []) := by
  unfold m_need_letters
  refine mir_rt rfl ?_
  unfold g_need_letters
  exact x_seq (x_ifN (e_notT (e_mTru (e_callP (e_cons (e_var rfl) e_nil) (are_letters_ok h) rfl) rfl))) (x_ret (e_var rfl))
/-! ### terms -/
def hd (b : Bool) : Str := if b then "both" else "either"
def Tm.D : Tm → D
  | .lf c => ltr c
  | .nd b l r => .tup [.str (hd b), l.D, r.D]
theorem isi_lt {c : Nat} : gIsi CL [ltr c, .ty "str"] = some (.bl true) := isi_str
theorem hd_in {b : Bool} : gIn (.str (hd b)) (.wt ((["both", "either"] : List Str).map DL.D.str)) = some (.bl true) := by
  have h1 : ∀ b : Bool, (D.okc (.str (hd b)) && D.okc (.wt ((["both", "either"] : List Str).map DL.D.str))) = true := by decide +kernel
  have h2 : ∀ b : Bool, (((["both", "either"] : List Str).map DL.D.str).any fun y => PyData.eqv y.py (D.py (.str (hd b)))) = true := by decide +kernel
  unfold gIn
  dsimp only
  rw [if_pos (h1 b), h2]
theorem hd_eq {b : Bool} : gEq (.str (hd b)) (.str "both") = some (.bl b) := by
  have h1 : ∀ b : Bool, (D.okc (.str (hd b)) && D.okc (.str "both")) = true := by decide +kernel
  have h2 : ∀ b : Bool, PyData.eqv (D.py (.str (hd b))) (D.py (.str "both")) = b := by decide +kernel
  have h3 : gEq (.str (hd b)) (.str "both") = some (.bl (PyData.eqv (D.py (.str (hd b))) (D.py (.str "both")))) := if_pos (h1 b)
  rw [h3, h2]
theorem ix0 {x y z : D} : gIx (.tup [x, y, z]) (.int 0) = some x := rfl
theorem ix1 {x y z : D} : gIx (.tup [x, y, z]) (.int 1) = some y := rfl
theorem ix2 {x y z : D} : gIx (.tup [x, y, z]) (.int 2) = some z := rfl
theorem is_node_ok {cs : List Nat} {t : Tm} (h : t.In cs) : m_is_node CL aH [ltsD cs, t.D] [] = some (.ok (.bl true) []) := by
  unfold m_is_node
  refine mir_rt rfl ?_
  unfold g_is_node
  cases t with
  | lf c =>
    have hin : gIn (ltr c) (ltsD cs) = some (.bl true) := by rw [lt_in, decide_eq_true (show c ∈ cs from h)]
    have he : gEq (.int 1) (.int 1) = some (.bl true) := by rw [g_eqI, decide_eq_true rfl]
    refine x_seqR (x_ifT (e_mTru (e_cb (e_cons (e_var rfl) (e_cons e_c e_nil)) isi_lt) rfl) (x_ret (e_andVT (ar1 := []) (e_op (e_cb (e_cons (e_var rfl) e_nil) lt_len) e_c he) (e_op (e_var rfl) (e_var rfl) hin))))
  | nd b l r =>
    have he : gEq (.int 3) (.int 3) = some (.bl true) := by rw [g_eqI, decide_eq_true rfl]
    refine x_seq (x_ifN (e_mTru (e_cb (e_cons (e_var rfl) (e_cons e_c e_nil)) isi_tupS) rfl)) (x_ret (e_andVT (ar1 := []) (e_cb (e_cons (e_var rfl) (e_cons e_c e_nil)) isi_tup) (e_andVT (ar1 := []) (e_op (e_cb (e_cons (e_var rfl) e_nil) rfl) e_c he) (e_andVT (ar1 := []) (e_cb (e_cons (e_op (e_var rfl) e_c ix0) (e_cons e_c e_nil)) isi_str) (e_op (e_op (e_var rfl) e_c ix0) e_c hd_in)))))
def Tm.parts : Tm → List Tm
  | .lf _ => []
  | .nd _ l r => [l, r]
theorem parts_ok {t : Tm} : m_parts_by CL aH [t.D] [] = some (.ok (.tup (t.parts.map Tm.D)) []) := by
  unfold m_parts_by
  refine mir_rt rfl ?_
  unfold g_parts_by
  cases t with
  | lf c => exact x_ret (e_ifT (ar := []) (e_mTru (e_cb (e_cons (e_var rfl) (e_cons e_c e_nil)) isi_lt) rfl) (e_tup e_nil (Nat.zero_le _)))
  | nd b l r => exact x_ret (e_ifF (ar := []) (e_mTru (e_cb (e_cons (e_var rfl) (e_cons e_c e_nil)) isi_tupS) rfl) (e_sl (lo := some 1) (hi := none) (e_var rfl) (f_part e_c) rfl rfl))
/-! ### the judge of terms -/
def stD (q : Tm × Nat) : D := .tup [q.1.D, iD q.2]
def gTB (CL aH : Addr) : G := (gSeq (kPopT 3 (.tp [4, 5]))
    (gSeq (gBind (mOp gAdd (fVar false 2) (fC (.int (1)))) (kPut (.nm 2)))
    (gSeq (gIf (mOr (mB (mOp gGt (fVar false 2) (fC (.int 40)))) (mOr (mB (mOp gGt (fVar false 5) (fC (.int 12)))) (mNot (mTru (mCallP true (m_is_node CL aH) (fCons (fVar true 0) (fCons (fVar true 4) fNil))))))) (gRet (fC (.bl false))) DL.gNil)
    (gMut 3 aExt (mLst (mLc [6] (.nm 6) (mSeq (mCallP true (m_parts_by CL aH) (fCons (fVar true 4) fNil))) fYes (mTup (fCons (fVar true 6) (fCons (mOp gAdd (fVar false 5) (fC (.int (1)))) fNil)))))))))
def szL : List (Tm × Nat) → Nat
  | [] => 0
  | q :: r => q.1.size + szL r
theorem szL_app : ∀ x y : List (Tm × Nat), szL (x ++ y) = szL x + szL y
  | [], y => by simp [szL]
  | q :: x, y => by simp [szL, szL_app x y]; omega
theorem szL_len : ∀ x : List (Tm × Nat), x.length ≤ szL x
  | [] => Nat.le_refl _
  | q :: x => by
    have h1 := szL_len x
    have h2 := q.1.size_pos
    rw [List.length_cons]
    unfold szL
    omega
theorem parts_sz (t : Tm) (d : Nat) : szL (t.parts.map fun u => (u, d)) + 1 = t.size := by
  cases t <;> simp [Tm.parts, szL, Tm.size]
  omega
theorem term_step {cs : List Nat} {v : D} {k : Nat} {st : List (Tm × Nat)} {t : Tm} {d : Nat} {x4 x5 : Sl} (hk : k + 1 ≤ 40) (hd : d ≤ 12) (ht : t.In cs) (hl : st.length ≤ 100) :
    gTB CL aH ⟨[.va (ltsD cs), .va v, .va (iD k), .ol ((st ++ [(t, d)]).map stD), x4, x5, .no], []⟩ = some (.nx ⟨[.va (ltsD cs), .va v, .va (iD (k + 1)), .ol ((st ++ t.parts.map fun u => (u, d + 1)).map stD), .va t.D, .va (iD d), .no], []⟩) := by
  unfold gTB
  refine x_seq (s' := ⟨[.va (ltsD cs), .va v, .va (iD k), .ol (st.map stD), .va t.D, .va (iD d), .no], []⟩) ?_ ?_
  · unfold kPopT
    show (((st ++ [(t, d)]).map stD)[((st ++ [(t, d)]).map stD).length - 1]?).bind _ = _
    rw [List.map_append, List.length_append, List.length_map, show ([(t, d)].map stD).length = 1 from rfl, Nat.add_sub_cancel, List.getElem?_append_right (by rw [List.length_map]; exact Nat.le_refl _), List.length_map, Nat.sub_self]
    rw [show ([(t, d)].map stD) = [stD (t, d)] from rfl, List.dropLast_concat]
    rfl
  · refine x_seq (s' := ⟨[.va (ltsD cs), .va v, .va (iD (k + 1)), .ol (st.map stD), .va t.D, .va (iD d), .no], []⟩) (x_put (e_op (e_var rfl) e_c rfl) rfl) ?_
    have c1 : gGt (iD (k + 1)) (.int 40) = some (.bl false) := by
      show some (D.bl (decide ((40 : Int) < ((k + 1 : Nat) : Int)))) = _
      rw [decide_eq_false (by omega)]
    have c2 : gGt (iD d) (.int 12) = some (.bl false) := by
      show some (D.bl (decide ((12 : Int) < ((d : Nat) : Int)))) = _
      rw [decide_eq_false (by omega)]
    refine x_seq (s' := ⟨[.va (ltsD cs), .va v, .va (iD (k + 1)), .ol (st.map stD), .va t.D, .va (iD d), .no], []⟩) (x_ifN (e_orF (e_mB (e_op (e_var rfl) e_c c1)) (e_orF (e_mB (e_op (e_var rfl) e_c c2)) (e_notT (e_mTru (e_callP (e_cons (e_var rfl) (e_cons (e_var rfl) e_nil)) (is_node_ok ht) rfl) rfl))))) ?_
    have hp : t.parts.length ≤ 2 := by cases t <;> simp [Tm.parts]
    have hlc : mLc [6] (.nm 6) (mSeq (mCallP true (m_parts_by CL aH) (fCons (fVar true 4) fNil))) fYes (mTup (fCons (fVar true 6) (fCons (mOp gAdd (fVar false 5) (fC (.int (1)))) fNil))) ⟨[.va (ltsD cs), .va v, .va (iD (k + 1)), .ol (st.map stD), .va t.D, .va (iD d), .no], []⟩ = some (.ok (t.parts.map fun u => stD (u, d + 1)) []) :=
      e_lcY (f := Tm.D) (s0 := ⟨[.va (ltsD cs), .va v, .va (iD (k + 1)), .ol (st.map stD), .va t.D, .va (iD d), .no], []⟩) (e_seqI (e_callP (e_cons (e_var rfl) e_nil) parts_ok rfl) rfl) (limN (by omega)) rfl fun u hu => ⟨⟨[.va (ltsD cs), .va v, .va (iD (k + 1)), .ol (st.map stD), .va t.D, .va (iD d), .va u.D], []⟩, rfl, rfl, e_tup (e_cons (e_var rfl) (e_cons (e_op (e_var rfl) e_c rfl) e_nil)) (Nat.le_of_ble_eq_true rfl)⟩
    have hx : aExt (st.map stD) (.lst (t.parts.map fun u => stD (u, d + 1))) = some ((st ++ t.parts.map fun u => (u, d + 1)).map stD) := by
      have h0 : aExt (st.map stD) (.lst (t.parts.map fun u => stD (u, d + 1))) = some (st.map stD ++ t.parts.map fun u => stD (u, d + 1)) := if_pos (limN (by rw [List.length_map, List.length_map]; omega))
      rw [h0, List.map_append, List.map_map]
      rfl
    exact x_mut (xs := st.map stD) rfl (e_lstF hlc) hx
theorem term_loop {cs : List Nat} {v : D} : ∀ (f : Nat) (st : List (Tm × Nat)) (k : Nat) (x4 x5 : Sl), szL st < f → k + szL st ≤ 40 → (∀ q ∈ st, q.1.In cs ∧ q.2 + q.1.dep ≤ 13) →
    ∃ s', whF (mTru (fVar false 3)) (gTB CL aH) f ⟨[.va (ltsD cs), .va v, .va (iD k), .ol (st.map stD), x4, x5, .no], []⟩ = some (.nx s') ∧ s'.ar = []
  | 0, st, k, x4, x5, h, _, _ => by omega
  | f + 1, st, k, x4, x5, h, hk, hq => by
    rcases List.eq_nil_or_concat st with rfl | ⟨st', q, e⟩
    · refine ⟨⟨[.va (ltsD cs), .va v, .va (iD k), .ol (List.map stD []), x4, x5, .no], []⟩, ?_, rfl⟩
      unfold whF
      rw [show mTru (fVar false 3) ⟨[.va (ltsD cs), .va v, .va (iD k), .ol (List.map stD []), x4, x5, .no], []⟩ = some (.ok false []) from e_mTru (d := .lst []) rfl rfl]
    · rw [List.concat_eq_append] at e
      subst e
      obtain ⟨t, d⟩ := q
      obtain ⟨h1, h2⟩ := hq (t, d) (List.mem_append.mpr (.inr (List.mem_singleton.mpr rfl)))
      have hz := szL_app st' [(t, d)]
      have hs : szL [(t, d)] = t.size := by simp [szL]
      have hps := parts_sz t (d + 1)
      have hpd := t.dep_pos
      have h2 : d + t.dep ≤ 13 := h2
      have hl := szL_len st'
      obtain ⟨s', e1, e2⟩ := term_loop (v := v) f (st' ++ t.parts.map fun u => (u, d + 1)) (k + 1) (.va t.D) (.va (iD d)) (by rw [szL_app]; omega) (by rw [szL_app]; omega) fun q hq' => by
        rcases List.mem_append.mp hq' with hq' | hq'
        · exact hq q (List.mem_append.mpr (.inl hq'))
        · obtain ⟨u, hu, rfl⟩ := List.mem_map.mp hq'
          cases t with
          | lf c => cases hu
          | nd b l r =>
            simp only [Tm.dep] at h2
            cases hu with
            | head => exact ⟨h1.1, by show d + 1 + u.dep ≤ 13; omega⟩
            | tail _ hu =>
              cases hu with
              | head => exact ⟨h1.2, by show d + 1 + u.dep ≤ 13; omega⟩
              | tail _ hu => cases hu
      refine ⟨s', ?_, e2⟩
      unfold whF
      have htr : truD (.lst ((st' ++ [(t, d)]).map stD)) = some true := by
        show some (!((st' ++ [(t, d)]).map stD).isEmpty) = _
        rw [List.map_append]
        cases st'.map stD <;> rfl
      rw [show mTru (fVar false 3) ⟨[.va (ltsD cs), .va v, .va (iD k), .ol ((st' ++ [(t, d)]).map stD), x4, x5, .no], []⟩ = some (.ok true []) from e_mTru (d := .lst ((st' ++ [(t, d)]).map stD)) rfl htr]
      show (match gTB CL aH ⟨[.va (ltsD cs), .va v, .va (iD k), .ol ((st' ++ [(t, d)]).map stD), x4, x5, .no], []⟩ with
        | some (.nx s2) => whF (mTru (fVar false 3)) (gTB CL aH) f s2
        | some (.ct s2) => whF (mTru (fVar false 3)) (gTB CL aH) f s2
        | some (.bk s2) => some (.nx s2)
        | o => o) = _
      rw [term_step (by omega) (by omega) h1 (by omega)]
      exact e1
/-- a term that is small enough -/
structure Sml (cs : List Nat) (t : Tm) : Prop where
  i : t.In cs
  s : t.size ≤ 40
  d : t.dep ≤ 8
theorem is_term_ok {cs : List Nat} {t : Tm} (h : Sml cs t) : m_is_term_by CL aH [ltsD cs, t.D] [] = some (.ok (.bl true) []) := by
  unfold m_is_term_by
  refine mir_rt rfl ?_
  unfold g_is_term_by
  refine x_seq (s' := ⟨[.va (ltsD cs), .va t.D, .va (iD 0), .ol ([(t, 1)].map stD), .no, .no, .no], []⟩) ?_ ?_
  · unfold gParVO
    refine x_bind e_c (x_bind (f_bound (e_cons (e_tup (e_cons (e_var rfl) (e_cons e_c e_nil)) (Nat.le_of_ble_eq_true rfl)) e_nil) (Nat.le_of_ble_eq_true rfl)) rfl)
  · obtain ⟨s', e1, e2⟩ := term_loop (CL := CL) (aH := aH) (cs := cs) (v := t.D) 64 [(t, 1)] 0 .no .no (by have := h.s; simp [szL]; omega) (by have := h.s; simp [szL]; omega) fun q hq => by
      cases List.mem_singleton.mp hq
      exact ⟨h.i, by have := h.d; show 1 + t.dep ≤ 13; omega⟩
    refine x_seq (s' := s') e1 ?_
    obtain ⟨sl, ar⟩ := s'
    have e2 : ar = [] := e2
    subst e2
    exact x_ret e_c
theorem need_own_ok {cs : List Nat} {t : Tm} {w : D} (h : Sml cs t) : m_need_own_term CL aH [w, ltsD cs, t.D] [] = some (.ok t.D []) := by
  unfold m_need_own_term
  refine mir_rt rfl ?_
  unfold g_need_own_term
  exact x_seq (x_ifN (e_notT (e_mTru (e_callP (e_cons (e_var rfl) (e_cons (e_var rfl) e_nil)) (is_term_ok h) rfl) rfl))) (x_ret (e_var rfl))
theorem need_term_ok {cs : List Nat} {t : Tm} (hc : Lts cs) (h : Sml cs t) : m_need_term CL aH [ltsD cs, t.D] [] = some (.ok t.D []) := by
  unfold m_need_term
  refine mir_rt rfl ?_
  unfold g_need_term
  exact x_ret (e_callP (e_cons e_c (e_cons (e_callP (e_cons (e_var rfl) e_nil) (need_letters_ok hc) rfl) (e_cons (e_var rfl) e_nil))) (need_own_ok h) rfl)
end
end K17
set_option Elab.async false
set_option linter.all false
set_option maxRecDepth 100000
/-! P12: what is done with terms -/
namespace K17
open PySem L2 DL DLk
section
variable {CL aH p : Addr} {ns : List Int} {ar : Ar} {n : Nat} {le : Nat → Nat → Bool} {B E : Nat → Nat → Nat} {a b : Nat} {cs : List Nat}
theorem x_for2 {set : D → DL.S → Option DL.S} {g : G} {d1 d2 : D} {s s1 s2 s3 s4 : DL.S} (h1 : set d1 s = some s1) (h2 : g s1 = some (.nx s2)) (h3 : set d2 s2 = some s3) (h4 : g s3 = some (.nx s4)) : forF set g [d1, d2] s = some (.nx s4) := by
  unfold forF
  rw [h1]
  dsimp only [Option.bind]
  rw [h2]
  dsimp only
  unfold forF
  rw [h3]
  dsimp only [Option.bind]
  rw [h4]
  rfl
/-! ### nodes, depths -/
def Tm.nodes : Tm → List DL.D
  | .lf c => [ltr c]
  | .nd b l r => [(Tm.nd b l r).D] ++ l.nodes ++ r.nodes
theorem Tm.nodes_len : ∀ t : Tm, t.nodes.length = t.size
  | .lf c => rfl
  | .nd b l r => by
    simp only [Tm.nodes, List.length_append, List.length_singleton, Tm.size, nodes_len l, nodes_len r]
theorem ext_ok {xs ys : List D} (h : xs.length + ys.length ≤ 1000) : aExt xs (.lst ys) = some (xs ++ ys) := if_pos (limN h)
theorem nodes_ok : ∀ {k : Nat} {t : Tm}, t.dep ≤ k → t.size ≤ 1000 → md_nodes_by CL aH k [t.D] [] = some (.ok (.lst t.nodes) [])
  | 0, t, h, _ => by have := t.dep_pos; omega
  | k + 1, t, h, hs => by
    show m_nodes_by CL aH (md_nodes_by CL aH k) [t.D] [] = _
    unfold m_nodes_by
    refine mir_rt rfl ?_
    unfold g_nodes_by
    refine x_seq (s' := ⟨[.va t.D, .ol [t.D], .no], []⟩) (x_own (f_bound (e_cons (e_var rfl) e_nil) (Nat.le_of_ble_eq_true rfl)) (by show 1 < 3; decide)) ?_
    cases t with
    | lf c => exact x_seq (x_for (xs := []) (e_seqI (e_callP (e_cons (e_var rfl) e_nil) parts_ok rfl) rfl) rfl) (x_ret (e_var rfl))
    | nd b l r =>
      simp only [Tm.dep] at h
      simp only [Tm.size] at hs
      have hl := l.nodes_len
      have hr := r.nodes_len
      refine x_seq (s' := ⟨[.va (Tm.nd b l r).D, .ol (Tm.nd b l r).nodes, .va r.D], []⟩) (x_for (xs := [l.D, r.D]) (e_seqI (e_callP (e_cons (e_var rfl) e_nil) parts_ok rfl) rfl) (x_for2 (s1 := ⟨[.va (Tm.nd b l r).D, .ol [(Tm.nd b l r).D], .va l.D], []⟩) (s2 := ⟨[.va (Tm.nd b l r).D, .ol ([(Tm.nd b l r).D] ++ l.nodes), .va l.D], []⟩) (s3 := ⟨[.va (Tm.nd b l r).D, .ol ([(Tm.nd b l r).D] ++ l.nodes), .va r.D], []⟩) rfl ?_ rfl ?_)) (x_ret (e_var rfl))
      · exact x_mut (xs := [(Tm.nd b l r).D]) rfl (e_callP (e_cons (e_var rfl) e_nil) (nodes_ok (by omega) (by omega)) rfl) (ext_ok (by rw [List.length_singleton]; omega))
      · exact x_mut (xs := [(Tm.nd b l r).D] ++ l.nodes) rfl (e_callP (e_cons (e_var rfl) e_nil) (nodes_ok (by omega) (by omega)) rfl) (ext_ok (by rw [List.length_append, List.length_singleton]; omega))
theorem depth_ok : ∀ {k : Nat} {t : Tm}, t.dep ≤ k → md_depth_by CL aH k [t.D] [] = some (.ok (iD t.dep) [])
  | 0, t, h => by have := t.dep_pos; omega
  | k + 1, t, h => by
    show m_depth_by CL aH (md_depth_by CL aH k) [t.D] [] = _
    unfold m_depth_by
    refine mir_rt rfl ?_
    unfold g_depth_by
    have hlc : mLc [1] (.nm 1) (mSeq (mCallP true (m_parts_by CL aH) (fCons (fVar true 0) fNil))) fYes (mCallP true (md_depth_by CL aH k) (fCons (fVar true 1) fNil)) ⟨[.va t.D, .no], []⟩ = some (.ok (t.parts.map fun u => iD u.dep) []) := by
      refine e_lcY (f := Tm.D) (s0 := ⟨[.va t.D, .no], []⟩) (e_seqI (e_callP (e_cons (e_var rfl) e_nil) parts_ok rfl) rfl) (limN (by cases t <;> simp [Tm.parts])) rfl fun u hu => ?_
      refine ⟨⟨[.va t.D, .va u.D], []⟩, rfl, rfl, e_callP (e_cons (e_var rfl) e_nil) (depth_ok ?_) rfl⟩
      cases t with
      | lf c => cases hu
      | nd b l r =>
        simp only [Tm.dep] at h
        cases hu with
        | head => omega
        | tail _ hu =>
          cases hu with
          | head => omega
          | tail _ hu => cases hu
    have hm : gMax [.lst (.int 0 :: t.parts.map fun u => iD u.dep)] = some (iD (t.dep - 1)) := by
      cases t with
      | lf c => rfl
      | nd b l r =>
        show some (D.int (maxL [0, (l.dep : Nat), (r.dep : Nat)])) = some (D.int (((1 + max l.dep r.dep - 1 : Nat) : Nat) : Int))
        have h1 : maxL [0, ((l.dep : Nat) : Int), ((r.dep : Nat) : Int)] = (((1 + max l.dep r.dep - 1 : Nat) : Nat) : Int) := by
          have hl := l.dep_pos
          have hr := r.dep_pos
          unfold maxL
          simp only [List.headD_cons, List.foldl_cons, List.foldl_nil, gt_iff_lt]
          rw [if_neg (show ¬ ((0 : Int) < 0) by omega), if_pos (show (0 : Int) < ((l.dep : Nat) : Int) by omega)]
          by_cases z : ((l.dep : Nat) : Int) < ((r.dep : Nat) : Int)
          · rw [if_pos z]; omega
          · rw [if_neg z]; omega
        rw [h1]
    have ha : DL.gAdd (.int 1) (iD (t.dep - 1)) = some (iD t.dep) := by
      have := t.dep_pos
      show some (D.int (1 + ((t.dep - 1 : Nat) : Int))) = some (D.int ((t.dep : Nat) : Int))
      congr 2
      omega
    have hp : t.parts.length ≤ 2 := by cases t <;> simp [Tm.parts]
    refine x_ret (e_op e_c (e_cb (e_cons (e_lstF (f_bound (e_cons e_c (f_star (e_lstF hlc) e_nil)) (limN (by rw [List.append_nil, List.length_cons, List.length_map]; omega)))) e_nil) ?_) ha)
    rw [List.append_nil]
    exact hm
/-! ### turned around, put in -/
theorem turned_ok : ∀ {k : Nat} {t : Tm}, t.dep ≤ k → md_turned_by CL aH k [t.D] [] = some (.ok t.turn.D [])
  | 0, t, h => by have := t.dep_pos; omega
  | k + 1, t, h => by
    show m_turned_by CL aH (md_turned_by CL aH k) [t.D] [] = _
    unfold m_turned_by
    refine mir_rt rfl ?_
    unfold g_turned_by
    cases t with
    | lf c => exact x_seqR (x_ifT (e_mTru (e_cb (e_cons (e_var rfl) (e_cons e_c e_nil)) isi_lt) rfl) (x_ret (e_var rfl)))
    | nd b l r =>
      simp only [Tm.dep] at h
      have hq : mIf (mB (mOp gEq (mOp gIx (fVar false 0) (fC (.int (0)))) (fC (.str "both")))) (fC (.str "either")) (fC (.str "both")) ⟨[.va (Tm.nd b l r).D], []⟩ = some (.ok (.str (hd (!b))) []) := by
        have hc : mB (mOp gEq (mOp gIx (fVar false 0) (fC (.int (0)))) (fC (.str "both"))) ⟨[.va (Tm.nd b l r).D], []⟩ = some (.ok b []) := e_mB (e_op (e_op (e_var rfl) e_c ix0) e_c hd_eq)
        cases b with
        | true => exact e_ifT hc e_c
        | false => exact e_ifF hc e_c
      exact x_seq (x_ifN (e_mTru (e_cb (e_cons (e_var rfl) (e_cons e_c e_nil)) isi_tupS) rfl)) (x_ret (e_tup (e_cons hq (e_cons (e_callP (e_cons (e_op (e_var rfl) e_c ix1) e_nil) (turned_ok (by omega)) rfl) (e_cons (e_callP (e_cons (e_op (e_var rfl) e_c ix2) e_nil) (turned_ok (by omega)) rfl) e_nil))) (Nat.le_of_ble_eq_true rfl)))
theorem turned_term_ok {t : Tm} (hc : Lts cs) (h : Sml cs t) : m_turned_term CL aH [ltsD cs, t.D] [] = some (.ok t.turn.D []) := by
  unfold m_turned_term
  refine mir_rt rfl ?_
  unfold g_turned_term
  exact x_ret (e_callP (e_cons (e_callP (e_cons (e_var rfl) (e_cons (e_var rfl) e_nil)) (need_term_ok hc h) rfl) e_nil) (turned_ok h.d) rfl)
/-- a dict by letters -/
def dkD (cs : List Nat) (f : Nat → D) : D := .dk (cs.map chK) (cs.map f)
theorem zip_eq (f : Nat → D) : ∀ cs : List Nat, (cs.zip (cs.map f)).map (fun q => (chK q.1, q.2)) = cs.map fun c => (chK c, f c)
  | [] => rfl
  | c :: cs => by rw [List.map_cons, List.zip_cons_cons, List.map_cons, zip_eq f cs]; rfl
theorem dictZip_ok {f : Nat → D} (h : cs.Nodup) : gDictZip [ltsD cs, .tup (cs.map f)] = some (dkD cs f) := by
  have hz : zipKD ⟨cs.toArray⟩ (cs.map f) = cs.map fun c => (chK c, f c) := zip_eq f cs
  show some (D.dk (mergeD (zipKD ⟨cs.toArray⟩ (cs.map f)) ([], [])).1 (mergeD (zipKD ⟨cs.toArray⟩ (cs.map f)) ([], [])).2) = _
  rw [hz, mergeD_nodup]
  · rw [List.nil_append, List.nil_append, List.map_map, List.map_map]
    rfl
  · rw [List.nil_append, List.map_map]
    exact chK_nodup h
theorem ix_dk {f : Nat → D} {c : Nat} (h : c ∈ cs) : gIx (dkD cs f) (ltr c) = some (f c) := by
  show kvAt (cs.map chK) (cs.map f) (chK c) = _
  refine kvAt_map h rfl fun b hb e => ?_
  injection e with e
  injection e with e
  injection e with e
  injection e
theorem put_ok {u : Nat → Tm} : ∀ {k : Nat} {t : Tm}, t.dep ≤ k → t.In cs → md_put_by CL aH k [dkD cs fun c => (u c).D, t.D] [] = some (.ok (t.put u).D [])
  | 0, t, h, _ => by have := t.dep_pos; omega
  | k + 1, t, h, i => by
    show m_put_by CL aH (md_put_by CL aH k) [dkD cs fun c => (u c).D, t.D] [] = _
    unfold m_put_by
    refine mir_rt rfl ?_
    unfold g_put_by
    cases t with
    | lf c => exact x_seqR (x_ifT (e_mTru (e_cb (e_cons (e_var rfl) (e_cons e_c e_nil)) isi_lt) rfl) (x_ret (e_op (e_var rfl) (e_var rfl) (ix_dk (f := fun c => (u c).D) i))))
    | nd b l r =>
      simp only [Tm.dep] at h
      exact x_seq (x_ifN (e_mTru (e_cb (e_cons (e_var rfl) (e_cons e_c e_nil)) isi_tupS) rfl)) (x_ret (e_tup (e_cons (e_op (e_var rfl) e_c ix0) (e_cons (e_callP (e_cons (e_var rfl) (e_cons (e_op (e_var rfl) e_c ix1) e_nil)) (put_ok (by omega) i.1) rfl) (e_cons (e_callP (e_cons (e_var rfl) (e_cons (e_op (e_var rfl) e_c ix2) e_nil)) (put_ok (by omega) i.2) rfl) e_nil))) (Nat.le_of_ble_eq_true rfl)))
theorem gt_no {m k : Nat} (h : m ≤ k) : gGt (iD m) (.int (k : Nat)) = some (.bl false) := by
  show some (D.bl (decide (((k : Nat) : Int) < ((m : Nat) : Int)))) = _
  rw [decide_eq_false (by omega)]
theorem need_small_ok {t : Tm} (h : Sml cs t) : m_need_small CL aH [t.D] [] = some (.ok t.D []) := by
  have hs := h.s
  have hd := h.d
  unfold m_need_small
  refine mir_rt rfl ?_
  unfold g_need_small
  have hl : gLen [.lst t.nodes] = some (iD t.size) := by
    show some (D.int (t.nodes.length : Nat)) = _
    rw [t.nodes_len]; rfl
  refine x_seq (s' := ⟨[.va t.D, .va (iD t.size), .va (iD t.dep)], []⟩) (x_par (e_cb (e_cons (e_callP (e_cons (e_var rfl) e_nil) (nodes_ok hd (by omega)) rfl) e_nil) hl) (e_callP (e_cons (e_var rfl) e_nil) (depth_ok hd) rfl) rfl rfl) ?_
  exact x_seq (x_ifN (e_mB (e_op (e_var rfl) e_c (gt_no (k := 40) hs)))) (x_seq (x_ifN (e_mB (e_op (e_var rfl) e_c (gt_no (k := 12) (by omega))))) (x_ret (e_var rfl)))
theorem ne_no {k : Nat} : gNe (.int (k : Nat)) (.int (k : Nat)) = some (.bl false) := by
  have := ne_iD (a := k) (b := k)
  rw [decide_eq_true rfl] at this
  exact this
theorem put_in_ok {u : Nat → Tm} {t : Tm} (hc : Lts cs) (h : Sml cs t) (hu : ∀ c ∈ cs, Sml cs (u c)) (hp : Sml cs (t.put u)) : m_put_in CL aH [ltsD cs, t.D, .tup (cs.map fun c => (u c).D)] [] = some (.ok (t.put u).D []) := by
  have hl := hc.l6
  unfold m_put_in
  refine mir_rt rfl ?_
  unfold g_put_in
  refine x_seq (s' := ⟨[.va (ltsD cs), .va t.D, .va (.tup (cs.map fun c => (u c).D)), .va t.D, .no, .no], []⟩) (x_put (e_callP (e_cons (e_var rfl) (e_cons (e_var rfl) e_nil)) (need_term_ok hc h) rfl) rfl) ?_
  refine x_seq (s' := ⟨[.va (ltsD cs), .va t.D, .va (.tup (cs.map fun c => (u c).D)), .va t.D, .va (.tup (cs.map fun c => (u c).D)), .no], []⟩) (x_put (ar1 := []) (e_ifF (ar := []) (e_mTru (e_cb (e_cons (e_var rfl) (e_cons e_c e_nil)) isi_tupL) rfl) (e_var rfl)) rfl) ?_
  have hln : gLen [.tup (cs.map fun c => (u c).D)] = some (.int (cs.length : Nat)) := by rw [len_tup, List.length_map]
  have hlc : mLc [5] (.nm 5) (mSeq (fVar false 4)) fYes (mCallP true (m_is_term_by CL aH) (fCons (fVar true 0) (fCons (fVar true 5) fNil))) ⟨[.va (ltsD cs), .va t.D, .va (.tup (cs.map fun c => (u c).D)), .va t.D, .va (.tup (cs.map fun c => (u c).D)), .no], []⟩ = some (.ok (cs.map fun _ => .bl true) []) :=
    e_lcY (f := fun c => (u c).D) (s0 := ⟨[.va (ltsD cs), .va t.D, .va (.tup (cs.map fun c => (u c).D)), .va t.D, .va (.tup (cs.map fun c => (u c).D)), .no], []⟩) (e_seqI (e_var rfl) rfl) (limN (by omega)) rfl fun c hc => ⟨⟨[.va (ltsD cs), .va t.D, .va (.tup (cs.map fun c => (u c).D)), .va t.D, .va (.tup (cs.map fun c => (u c).D)), .va (u c).D], []⟩, rfl, rfl, e_callP (e_cons (e_var rfl) (e_cons (e_var rfl) e_nil)) (is_term_ok (hu c hc)) rfl⟩
  refine x_seq (x_ifN (e_orF (e_notT (e_mTru (e_cb (e_cons (e_var rfl) (e_cons e_c e_nil)) isi_tup) rfl)) (e_orF (e_mB (e_op (e_cb (e_cons (e_var rfl) e_nil) hln) (e_cb (e_cons (e_var rfl) e_nil) (lts_len (by omega))) ne_no)) (e_notT (e_mTru (e_cb (e_cons (e_lstF hlc) e_nil) (all_T _)) rfl))))) ?_
  exact x_ret (e_callP (e_cons (e_callP (e_cons (e_cb (e_cons (e_var rfl) (e_cons (e_var rfl) e_nil)) (dictZip_ok hc.nd)) (e_cons (e_var rfl) e_nil)) (put_ok h.d h.i) rfl) e_nil) (need_small_ok hp) rfl)
/-! ### values -/
def imgD (cs : List Nat) (v : Nat → Nat) : D := .tup (cs.map fun c => iD (v c))
variable {v : Nat → Nat}
theorem are_images_ok (hl : cs.length ≤ 1000) (hv : ∀ c ∈ cs, v c < n) : m_are_images CL aH [ltsD cs, latD CL n le B E, imgD cs v] [] = some (.ok (.bl true) []) := by
  unfold m_are_images
  refine mir_rt rfl ?_
  unfold g_are_images
  have hln : gLen [imgD cs v] = some (.int (cs.length : Nat)) := by
    unfold imgD
    rw [len_tup, List.length_map]
  have hit : sqItems (imgD cs v) = some (cs.map fun c => iD (v c)) := rfl
  have isi : gIsi CL [imgD cs v, .ty "tuple"] = some (.bl true) := isi_tup
  have hlc : mLc [3] (.nm 3) (mSeq (fVar false 2)) fYes (mCallP true (m_is_index CL aH) (fCons (fVar true 3) (fCons (mCB gLen (fCons (mFld CL "rows" (fVar false 1)) fNil)) fNil))) ⟨[.va (ltsD cs), .va (latD CL n le B E), .va (imgD cs v), .no], []⟩ = some (.ok (cs.map fun _ => .bl true) []) := by
    refine e_lcY (f := fun c => iD (v c)) (s0 := ⟨[.va (ltsD cs), .va (latD CL n le B E), .va (imgD cs v), .no], []⟩) (e_seqI (e_var rfl) hit) (limN hl) rfl fun c hc => ?_
    refine ⟨⟨[.va (ltsD cs), .va (latD CL n le B E), .va (imgD cs v), .va (iD (v c))], []⟩, rfl, rfl, e_callP (e_cons (e_var rfl) (e_cons (e_cb (e_cons (e_fld (e_var rfl) fl_rows) e_nil) len_tup) e_nil)) ?_ rfl⟩
    have := hv c hc
    rw [rows_len]
    unfold iD
    rw [is_index_ok, decide_eq_true ⟨by omega, by omega⟩]
  exact x_seq (x_ifN (e_orF (e_notT (e_mTru (e_cb (e_cons (e_var rfl) (e_cons e_c e_nil)) isi) rfl)) (e_mB (e_op (e_cb (e_cons (e_var rfl) e_nil) hln) (e_cb (e_cons (e_var rfl) e_nil) (lts_len hl)) ne_no)))) (x_ret (e_cb (e_cons (e_lstF hlc) e_nil) (all_T _)))
theorem need_images_ok (hl : cs.length ≤ 1000) (hv : ∀ c ∈ cs, v c < n) : m_need_images CL aH [ltsD cs, latD CL n le B E, imgD cs v] [] = some (.ok (imgD cs v) []) := by
  unfold m_need_images
  refine mir_rt rfl ?_
  unfold g_need_images
  exact x_seq (x_ifN (e_notT (e_mTru (e_callP (e_cons (e_var rfl) (e_cons (e_var rfl) (e_cons (e_var rfl) e_nil))) (are_images_ok hl hv) rfl) rfl))) (x_ret (e_var rfl))
theorem value_ok (L : Lat n le B E) (hv : ∀ c ∈ cs, v c < n) : ∀ {k : Nat} {t : Tm}, t.dep ≤ k → t.In cs → md_value_with CL aH k [latD CL n le B E, dkD cs fun c => iD (v c), t.D] [] = some (.ok (iD (t.ev B E v)) [])
  | 0, t, h, _ => by have := t.dep_pos; omega
  | k + 1, t, h, i => by
    show m_value_with CL aH (md_value_with CL aH k) [latD CL n le B E, dkD cs fun c => iD (v c), t.D] [] = _
    unfold m_value_with
    refine mir_rt rfl ?_
    unfold g_value_with
    cases t with
    | lf c => exact x_seqR (x_ifT (e_mTru (e_cb (e_cons (e_var rfl) (e_cons e_c e_nil)) isi_lt) rfl) (x_ret (e_op (e_var rfl) (e_var rfl) (ix_dk (f := fun c => iD (v c)) i))))
    | nd b l r =>
      simp only [Tm.dep] at h
      have h1 := Tm.ev_lt L hv i.1
      have h2 := Tm.ev_lt L hv i.2
      refine x_seq (x_ifN (e_mTru (e_cb (e_cons (e_var rfl) (e_cons e_c e_nil)) isi_tupS) rfl)) ?_
      refine x_seq (s' := ⟨[.va (latD CL n le B E), .va (dkD cs fun c => iD (v c)), .va (Tm.nd b l r).D, .va (iD (l.ev B E v)), .va (iD (r.ev B E v))], []⟩) (x_par (e_callP (e_cons (e_var rfl) (e_cons (e_var rfl) (e_cons (e_op (e_var rfl) e_c ix1) e_nil))) (value_ok L hv (by omega) i.1) rfl) (e_callP (e_cons (e_var rfl) (e_cons (e_var rfl) (e_cons (e_op (e_var rfl) e_c ix2) e_nil))) (value_ok L hv (by omega) i.2) rfl) rfl rfl) ?_
      have hc : mB (mOp gEq (mOp gIx (fVar false 2) (fC (.int (0)))) (fC (.str "both"))) ⟨[.va (latD CL n le B E), .va (dkD cs fun c => iD (v c)), .va (Tm.nd b l r).D, .va (iD (l.ev B E v)), .va (iD (r.ev B E v))], []⟩ = some (.ok b []) := e_mB (e_op (e_op (e_var rfl) e_c ix0) e_c hd_eq)
      cases b with
      | true => exact x_ret (e_ifT hc (e_callP (e_cons (e_var rfl) (e_cons (e_var rfl) (e_cons (e_var rfl) e_nil))) (both_by_ok h1 h2) rfl))
      | false => exact x_ret (e_ifF hc (e_callP (e_cons (e_var rfl) (e_cons (e_var rfl) (e_cons (e_var rfl) e_nil))) (either_by_ok h1 h2) rfl))
theorem value_by_ok {t : Tm} (hc : Lts cs) (L : Lat n le B E) (hv : ∀ c ∈ cs, v c < n) (h : Sml cs t) : m_value_by CL aH [latD CL n le B E, ltsD cs, imgD cs v, t.D] [] = some (.ok (iD (t.ev B E v)) []) := by
  unfold m_value_by
  refine mir_rt rfl ?_
  unfold g_value_by
  exact x_ret (e_callP (e_cons (e_var rfl) (e_cons (e_cb (e_cons (e_var rfl) (e_cons (e_var rfl) e_nil)) (dictZip_ok hc.nd)) (e_cons (e_var rfl) e_nil))) (value_ok L hv h.d h.i) rfl)
theorem term_value_ok {t : Tm} (hc : Lts cs) (L : Lat n le B E) (hv : ∀ c ∈ cs, v c < n) (h : Sml cs t) : m_term_value CL aH [ltsD cs, latD CL n le B E, imgD cs v, t.D] [] = some (.ok (iD (t.ev B E v)) []) := by
  have hl := hc.l6
  unfold m_term_value
  refine mir_rt rfl ?_
  unfold g_term_value
  refine x_seq (x_expr (e_callP (e_cons (e_var rfl) e_nil) (need_letters_ok hc) rfl)) ?_
  refine x_seq (x_expr (e_callP (e_cons (e_var rfl) e_nil) need_lattice_ok rfl)) ?_
  refine x_seq (x_expr (e_callP (e_cons (e_var rfl) (e_cons (e_var rfl) (e_cons (e_var rfl) e_nil))) (need_images_ok (by omega) hv) rfl)) ?_
  exact x_ret (e_callP (e_cons (e_var rfl) (e_cons (e_var rfl) (e_cons (e_var rfl) (e_cons (e_callP (e_cons e_c (e_cons (e_var rfl) (e_cons (e_var rfl) e_nil))) (need_own_ok h) rfl) e_nil)))) (value_by_ok hc L hv h) rfl)
theorem is_so_ok {t u : Tm} (hc : Lts cs) (L : Lat n le B E) (hv : ∀ c ∈ cs, v c < n) (h : Sml cs t) (hu : Sml cs u) : m_is_so CL aH [ltsD cs, latD CL n le B E, imgD cs v, t.D, u.D] [] = some (.ok (.bl (le (t.ev B E v) (u.ev B E v))) []) := by
  have hl := hc.l6
  have h1 := Tm.ev_lt L hv h.i
  have h2 := Tm.ev_lt L hv hu.i
  have hb : m_is_so_by CL aH [latD CL n le B E, ltsD cs, imgD cs v, .tup [t.D, u.D]] [] = some (.ok (.bl (le (t.ev B E v) (u.ev B E v))) []) := by
    unfold m_is_so_by
    refine mir_rt rfl ?_
    unfold g_is_so_by
    refine x_seq (s' := ⟨[.va (latD CL n le B E), .va (ltsD cs), .va (imgD cs v), .va (.tup [t.D, u.D]), .va (dkD cs fun c => iD (v c))], []⟩) (x_put (e_cb (e_cons (e_var rfl) (e_cons (e_var rfl) e_nil)) (dictZip_ok hc.nd)) rfl) ?_
    rw [L.le_b h1 h2]
    exact x_ret (e_callP (e_cons (e_var rfl) (e_cons (e_callP (e_cons (e_var rfl) (e_cons (e_var rfl) (e_cons (e_op (e_var rfl) e_c rfl) e_nil))) (value_ok L hv h.d h.i) rfl) (e_cons (e_callP (e_cons (e_var rfl) (e_cons (e_var rfl) (e_cons (e_op (e_var rfl) e_c rfl) e_nil))) (value_ok L hv hu.d hu.i) rfl) e_nil))) (is_below_ok h1 h2) rfl)
  unfold m_is_so
  refine mir_rt rfl ?_
  unfold g_is_so
  refine x_seq (x_expr (e_callP (e_cons (e_var rfl) e_nil) (need_letters_ok hc) rfl)) ?_
  refine x_seq (x_expr (e_callP (e_cons (e_var rfl) e_nil) need_lattice_ok rfl)) ?_
  refine x_seq (x_expr (e_callP (e_cons (e_var rfl) (e_cons (e_var rfl) (e_cons (e_var rfl) e_nil))) (need_images_ok (by omega) hv) rfl)) ?_
  refine x_seq (s' := ⟨[.va (ltsD cs), .va (latD CL n le B E), .va (imgD cs v), .va t.D, .va u.D, .va (.tup [t.D, u.D])], []⟩) (x_put (e_tup (e_cons (e_callP (e_cons e_c (e_cons (e_var rfl) (e_cons (e_var rfl) e_nil))) (need_own_ok h) rfl) (e_cons (e_callP (e_cons e_c (e_cons (e_var rfl) (e_cons (e_var rfl) e_nil))) (need_own_ok hu) rfl) e_nil)) (Nat.le_of_ble_eq_true rfl)) rfl) ?_
  exact x_ret (e_callP (e_cons (e_var rfl) (e_cons (e_var rfl) (e_cons (e_var rfl) (e_cons (e_var rfl) e_nil)))) hb rfl)
/-! ### drawn terms -/
theorem drawn_ok (hl : cs ≠ []) (hm : cs.length ≤ 1000) : ∀ (k d : Nat) (ar : Ar), PenOk p ns ar → d < k → ∃ (t : Tm) (ar' : Ar), md__law_drawn_term CL aH k [.adr p, ltsD cs, iD d] ar = some (.ok t.D ar') ∧ t.In cs ∧ t.dep ≤ d + 1 ∧ PenOk p ns ar'
  | 0, d, ar, _, h => by omega
  | k + 1, d, ar, ok, h => by
    have hleaf : ∀ ar, PenOk p ns ar → ∃ (c : Nat) (ar' : Ar), mCall (m__law_pick CL aH) (fCons (fVar true 0) (fCons (mLst (mCBF gListA (fCons (fVar false 1) fNil))) fNil)) ⟨[.va (.adr p), .va (ltsD cs), .va (iD d)], ar⟩ = some (.ok (ltr c) ar') ∧ c ∈ cs ∧ PenOk p ns ar' := by
      intro ar ok
      obtain ⟨x, ar', e, hx, ok'⟩ := pick_ok (CL := CL) (aH := aH) (xs := cs.map ltr) ok (by simpa using hl) (by rw [List.length_map]; omega)
      obtain ⟨c, hc, rfl⟩ := List.mem_map.mp hx
      exact ⟨c, ar', e_call (e_cons (e_var rfl) (e_cons (e_lstF (f_cb (e_cons (e_var rfl) e_nil) (list_txt hm))) e_nil)) e, hc, ok'⟩
    show ∃ (t : Tm) (ar' : Ar), m__law_drawn_term CL aH (md__law_drawn_term CL aH k) [.adr p, ltsD cs, iD d] ar = _ ∧ _
    unfold m__law_drawn_term
    have g0 : gEq (iD d) (.int 0) = some (.bl (decide (d = 0))) := eq_iD (b := 0)
    by_cases z : d = 0
    · rw [decide_eq_true z] at g0
      obtain ⟨c, ar', e, hc, ok'⟩ := hleaf ar ok
      refine ⟨.lf c, ar', mir_rt rfl ?_, hc, by show 1 ≤ d + 1; omega, ok'⟩
      unfold g__law_drawn_term
      exact x_seqR (x_ifT (e_orT (e_mB (e_op (e_var rfl) e_c g0))) (x_ret e))
    · rw [decide_eq_false z] at g0
      obtain ⟨r, ar1, e1, a1, a2, ok1⟩ := draw' (CL := CL) (aH := aH) (many := 4) ok (by decide) (by decide)
      by_cases y : r = 0
      · obtain ⟨c, ar', e, hc, ok'⟩ := hleaf ar1 ok1
        refine ⟨.lf c, ar', mir_rt rfl ?_, hc, by show 1 ≤ d + 1; omega, ok'⟩
        unfold g__law_drawn_term
        exact x_seqR (x_ifT (e_orF (e_mB (e_op (e_var rfl) e_c g0)) (e_mB (e_op (e_call (e_cons (e_var rfl) (e_cons e_c e_nil)) e1) e_c (by rw [g_eqI, decide_eq_true y])))) (x_ret e))
      · obtain ⟨x, ar2, e2, hx, ok2⟩ := pick_ok (CL := CL) (aH := aH) (xs := [.str (hd true), .str (hd false)]) ok1 (by simp) (by decide)
        have hb : ∃ b, x = .str (hd b) := by
          cases hx with
          | head => exact ⟨true, rfl⟩
          | tail _ hx =>
            cases hx with
            | head => exact ⟨false, rfl⟩
            | tail _ hx => cases hx
        obtain ⟨b, rfl⟩ := hb
        obtain ⟨l, ar3, e3, i3, d3, ok3⟩ := drawn_ok hl hm k (d - 1) ar2 ok2 (by omega)
        obtain ⟨r', ar4, e4, i4, d4, ok4⟩ := drawn_ok hl hm k (d - 1) ar3 ok3 (by omega)
        have gs : DL.gSub (iD d) (.int 1) = some (iD (d - 1)) := by
          show some (D.int (((d : Nat) : Int) - 1)) = some (D.int (((d - 1 : Nat) : Nat) : Int))
          congr 2
          omega
        refine ⟨.nd b l r', ar4, mir_rt rfl ?_, ⟨i3, i4⟩, by simp only [Tm.dep]; omega, ok4⟩
        unfold g__law_drawn_term
        refine x_seq (s' := ⟨[.va (.adr p), .va (ltsD cs), .va (iD d)], ar1⟩) (x_ifN (e_orF (e_mB (e_op (e_var rfl) e_c g0)) (e_mB (e_op (e_call (e_cons (e_var rfl) (e_cons e_c e_nil)) e1) e_c (by rw [g_eqI, decide_eq_false y]))))) ?_
        exact x_ret (e_tup (e_cons (e_call (e_cons (e_var rfl) (e_cons (e_lstF (f_bound (e_cons e_c (e_cons e_c e_nil)) (Nat.le_of_ble_eq_true rfl))) e_nil)) e2) (e_cons (e_call (e_cons (e_var rfl) (e_cons (e_var rfl) (e_cons (e_op (e_var rfl) e_c gs) e_nil))) e3) (e_cons (e_call (e_cons (e_var rfl) (e_cons (e_var rfl) (e_cons (e_op (e_var rfl) e_c gs) e_nil))) e4) e_nil))) (Nat.le_of_ble_eq_true rfl))
end
end K17
set_option Elab.async false
set_option linter.all false
set_option maxRecDepth 100000
/-! P13: a turn of the law -/
namespace K17
open PySem L2 DL DLk
section
variable {CL aH p : Addr} {ns : List Int} {ar : Ar} {n : Nat} {le : Nat → Nat → Bool} {B E : Nat → Nat → Nat} {cs : List Nat}
theorem ne_same {a b : Nat} (h : a = b) : gNe (iD a) (iD b) = some (.bl false) := by
  subst h
  exact ne_no
theorem ne_bl {a b : Bool} (h : a = b) : gNe (.bl a) (.bl b) = some (.bl false) := by
  subst h
  cases a <;> rfl
theorem all_i {ds : List D} {α : Type} {L : List α} (h : ∀ d ∈ ds, ∃ a ∈ L, ∃ k, k < n ∧ d = iD k) (hl : ds.length = 3) : ∃ a b c, a < n ∧ b < n ∧ c < n ∧ ds = [iD a, iD b, iD c] := by
  match ds, hl with
  | [x, y, z], _ =>
    obtain ⟨_, _, a, ha, rfl⟩ := h x (by simp)
    obtain ⟨_, _, b, hb, rfl⟩ := h y (by simp)
    obtain ⟨_, _, c, hc, rfl⟩ := h z (by simp)
    exact ⟨a, b, c, ha, hb, hc, rfl⟩
theorem draw_i {m : Nat} (ok : PenOk p ns ar) (h0 : 0 < m) (h1 : m < 1000000) : ∃ (k : Nat) (ar' : Ar), m__law_draw CL aH [.adr p, iD m] ar = some (.ok (iD k) ar') ∧ k < m ∧ PenOk p ns ar' := by
  obtain ⟨r, ar', e, a1, a2, ok'⟩ := draw' (CL := CL) (aH := aH) (many := (m : Int)) ok (by omega) (by omega)
  obtain ⟨k, rfl⟩ : ∃ k : Nat, r = (k : Int) := ⟨r.toNat, (Int.toNat_of_nonneg a1).symm⟩
  exact ⟨k, ar', e, by omega, ok'⟩
def gTurn (CL aH : Addr) : G := (gSeq (gBind (mLst (mLc [26] (.nm 26) (mRg rg1 (fCons (fC (.int (3))) fNil)) fYes (mCall (m__law_draw CL aH) (fCons (fVar true 1) (fCons (fVar true 6) fNil))))) (kPut (.ls [9, 10, 11])))
    (gSeq (gPar 12 13 (mCallP true (m_both_of CL aH) (fCons (fVar true 5) (fCons (fVar true 9) (fCons (fVar true 10) fNil)))) (mCallP true (m_either_of CL aH) (fCons (fVar true 5) (fCons (fVar true 9) (fCons (fVar true 10) fNil)))))
    (gSeq (gIf (mOr (mB (mOp gNe (fVar false 12) (mCallP true (m_both_of CL aH) (fCons (fVar true 5) (fCons (fVar true 10) (fCons (fVar true 9) fNil)))))) (mOr (mB (mOp gNe (fVar false 13) (mCallP true (m_either_of CL aH) (fCons (fVar true 5) (fCons (fVar true 10) (fCons (fVar true 9) fNil)))))) (mOr (mB (mOp gNe (mCallP true (m_both_of CL aH) (fCons (fVar true 5) (fCons (fVar true 9) (fCons (fVar true 13) fNil)))) (fVar false 9))) (mB (mOp gNe (mCallP true (m_either_of CL aH) (fCons (fVar true 5) (fCons (fVar true 9) (fCons (fVar true 12) fNil)))) (fVar false 9)))))) (gRet (fC (.bl false))) DL.gNil)
    (gSeq (gIf (mOr (mB (mOp gNe (mCallP true (m_both_of CL aH) (fCons (fVar true 5) (fCons (fVar true 12) (fCons (fVar true 11) fNil)))) (mCallP true (m_both_of CL aH) (fCons (fVar true 5) (fCons (fVar true 9) (fCons (mCallP true (m_both_of CL aH) (fCons (fVar true 5) (fCons (fVar true 10) (fCons (fVar true 11) fNil)))) fNil)))))) (mB (mOp gNe (mCallP true (m_either_of CL aH) (fCons (fVar true 5) (fCons (fVar true 13) (fCons (fVar true 11) fNil)))) (mCallP true (m_either_of CL aH) (fCons (fVar true 5) (fCons (fVar true 9) (fCons (mCallP true (m_either_of CL aH) (fCons (fVar true 5) (fCons (fVar true 10) (fCons (fVar true 11) fNil)))) fNil))))))) (gRet (fC (.bl false))) DL.gNil)
    (gSeq (gBind (mCallP true (m_is_at_most CL aH) (fCons (fVar true 5) (fCons (fVar true 9) (fCons (fVar true 10) fNil)))) (kPut (.nm 14)))
    (gIf (mOr (mB (mOp gNe (fVar false 14) (mOp gEq (fVar false 12) (fVar false 9)))) (mOr (mB (mOp gNe (fVar false 14) (mOp gEq (fVar false 13) (fVar false 10)))) (mAnd (mTru (fVar false 14)) (mNot (mTru (mCallP true (m_is_at_most CL aH) (fCons (fVar true 5) (fCons (mCallP true (m_both_of CL aH) (fCons (fVar true 5) (fCons (fVar true 9) (fCons (fVar true 11) fNil)))) (fCons (mCallP true (m_both_of CL aH) (fCons (fVar true 5) (fCons (fVar true 10) (fCons (fVar true 11) fNil)))) fNil))))))))) (gRet (fC (.bl false))) DL.gNil))))))
theorem turn_ok (L : Lat n le B E) (h1 : 1 ≤ n) (hn : n ≤ 8) (ok : PenOk p ns ar) {x0 x2 x3 x4 x7 x8 x9 x10 x11 x12 x13 x14 x15 x16 x17 x18 x19 x20 x21 x22 x23 x24 x25 : Sl} : ∃ (ar' : Ar) (a b c : Nat), gTurn CL aH ⟨[x0, .va (.adr p), x2, x3, x4, .va (latD CL n le B E), .va (iD n), x7, x8, x9, x10, x11, x12, x13, x14, x15, x16, x17, x18, x19, x20, x21, x22, x23, x24, x25, .no, .no, .no, .no, .no], ar⟩ = some (.nx ⟨[x0, .va (.adr p), x2, x3, x4, .va (latD CL n le B E), .va (iD n), x7, x8, .va (iD a), .va (iD b), .va (iD c), .va (iD (B a b)), .va (iD (E a b)), .va (.bl (decide (B a b = a))), x15, x16, x17, x18, x19, x20, x21, x22, x23, x24, x25, .no, .no, .no, .no, .no], ar'⟩) ∧ PenOk p ns ar' := by
  obtain ⟨ds, ar1, e1, ok1, hl1, hj1⟩ := e_lcA (vs := [26]) (T := .nm 26) (fi := mRg rg1 (fCons (fC (.int (3))) fNil)) (fe := mCall (m__law_draw CL aH) (fCons (fVar true 1) (fCons (fVar true 6) fNil))) (s := ⟨[x0, .va (.adr p), x2, x3, x4, .va (latD CL n le B E), .va (iD n), x7, x8, x9, x10, x11, x12, x13, x14, x15, x16, x17, x18, x19, x20, x21, x22, x23, x24, x25, .no, .no, .no, .no, .no], ar⟩) (s0 := ⟨[x0, .va (.adr p), x2, x3, x4, .va (latD CL n le B E), .va (iD n), x7, x8, x9, x10, x11, x12, x13, x14, x15, x16, x17, x18, x19, x20, x21, x22, x23, x24, x25, .no, .no, .no, .no, .no], ar⟩) (L := List.range 3) (f := fun i : Nat => D.int (i : Nat)) (I := PenOk p ns) (J := fun _ d => ∃ k, k < n ∧ d = iD k) (e_rg (e_cons e_c e_nil) (rgN (n := 3) (by decide))) (limN (by decide)) rfl ok fun i hi ar ok => by
    obtain ⟨k, ar', e, hk, ok'⟩ := draw_i (CL := CL) (aH := aH) (m := n) ok (by omega) (by omega)
    exact ⟨⟨[x0, .va (.adr p), x2, x3, x4, .va (latD CL n le B E), .va (iD n), x7, x8, x9, x10, x11, x12, x13, x14, x15, x16, x17, x18, x19, x20, x21, x22, x23, x24, x25, .va (.int (i : Nat)), .no, .no, .no, .no], ar⟩, iD k, ar', rfl, rfl, e_call (e_cons (e_var rfl) (e_cons (e_var rfl) e_nil)) e, ok', k, hk, rfl⟩
  obtain ⟨a, b, c, ha, hb, hc, rfl⟩ := all_i hj1 (by rw [hl1, List.length_range])
  have hB := L.bn a ha b hb
  have hE := L.en a ha b hb
  have hBbc := L.bn b hb c hc
  have hEbc := L.en b hb c hc
  have hBac := L.bn a ha c hc
  refine ⟨ar1, a, b, c, ?_, ok1⟩
  unfold gTurn
  refine x_seq (s' := ⟨[x0, .va (.adr p), x2, x3, x4, .va (latD CL n le B E), .va (iD n), x7, x8, .va (iD a), .va (iD b), .va (iD c), x12, x13, x14, x15, x16, x17, x18, x19, x20, x21, x22, x23, x24, x25, .no, .no, .no, .no, .no], ar1⟩) (x_put (e_lstF e1) rfl) ?_
  refine x_seq (s' := ⟨[x0, .va (.adr p), x2, x3, x4, .va (latD CL n le B E), .va (iD n), x7, x8, .va (iD a), .va (iD b), .va (iD c), .va (iD (B a b)), .va (iD (E a b)), x14, x15, x16, x17, x18, x19, x20, x21, x22, x23, x24, x25, .no, .no, .no, .no, .no], ar1⟩) (x_par (e_callP (e_cons (e_var rfl) (e_cons (e_var rfl) (e_cons (e_var rfl) e_nil))) (both_of_ok ha hb) rfl) (e_callP (e_cons (e_var rfl) (e_cons (e_var rfl) (e_cons (e_var rfl) e_nil))) (either_of_ok ha hb) rfl) rfl rfl) ?_
  refine x_seq (s' := ⟨[x0, .va (.adr p), x2, x3, x4, .va (latD CL n le B E), .va (iD n), x7, x8, .va (iD a), .va (iD b), .va (iD c), .va (iD (B a b)), .va (iD (E a b)), x14, x15, x16, x17, x18, x19, x20, x21, x22, x23, x24, x25, .no, .no, .no, .no, .no], ar1⟩) (x_ifN (e_orF (e_mB (e_op (e_var rfl) (e_callP (e_cons (e_var rfl) (e_cons (e_var rfl) (e_cons (e_var rfl) e_nil))) (both_of_ok hb ha) rfl) (ne_same (L.bcomm ha hb).symm))) (e_orF (e_mB (e_op (e_var rfl) (e_callP (e_cons (e_var rfl) (e_cons (e_var rfl) (e_cons (e_var rfl) e_nil))) (either_of_ok hb ha) rfl) (ne_same (L.ecomm ha hb).symm))) (e_orF (e_mB (e_op (e_callP (e_cons (e_var rfl) (e_cons (e_var rfl) (e_cons (e_var rfl) e_nil))) (both_of_ok ha hE) rfl) (e_var rfl) (ne_same (L.babs ha hb)))) (e_mB (e_op (e_callP (e_cons (e_var rfl) (e_cons (e_var rfl) (e_cons (e_var rfl) e_nil))) (either_of_ok ha hB) rfl) (e_var rfl) (ne_same (L.eabs ha hb)))))))) ?_
  refine x_seq (s' := ⟨[x0, .va (.adr p), x2, x3, x4, .va (latD CL n le B E), .va (iD n), x7, x8, .va (iD a), .va (iD b), .va (iD c), .va (iD (B a b)), .va (iD (E a b)), x14, x15, x16, x17, x18, x19, x20, x21, x22, x23, x24, x25, .no, .no, .no, .no, .no], ar1⟩) (x_ifN (e_orF (e_mB (e_op (e_callP (e_cons (e_var rfl) (e_cons (e_var rfl) (e_cons (e_var rfl) e_nil))) (both_of_ok hB hc) rfl) (e_callP (e_cons (e_var rfl) (e_cons (e_var rfl) (e_cons (e_callP (e_cons (e_var rfl) (e_cons (e_var rfl) (e_cons (e_var rfl) e_nil))) (both_of_ok hb hc) rfl) e_nil))) (both_of_ok ha hBbc) rfl) (ne_same (L.bassoc ha hb hc)))) (e_mB (e_op (e_callP (e_cons (e_var rfl) (e_cons (e_var rfl) (e_cons (e_var rfl) e_nil))) (either_of_ok hE hc) rfl) (e_callP (e_cons (e_var rfl) (e_cons (e_var rfl) (e_cons (e_callP (e_cons (e_var rfl) (e_cons (e_var rfl) (e_cons (e_var rfl) e_nil))) (either_of_ok hb hc) rfl) e_nil))) (either_of_ok ha hEbc) rfl) (ne_same (L.eassoc ha hb hc)))))) ?_
  refine x_seq (s' := ⟨[x0, .va (.adr p), x2, x3, x4, .va (latD CL n le B E), .va (iD n), x7, x8, .va (iD a), .va (iD b), .va (iD c), .va (iD (B a b)), .va (iD (E a b)), .va (.bl (decide (B a b = a))), x15, x16, x17, x18, x19, x20, x21, x22, x23, x24, x25, .no, .no, .no, .no, .no], ar1⟩) (x_put (e_callP (e_cons (e_var rfl) (e_cons (e_var rfl) (e_cons (e_var rfl) e_nil))) (is_at_most_ok ha hb) rfl) rfl) ?_
  have he : decide (B a b = a) = decide (E a b = b) := by rw [← L.le_b ha hb, L.le_e ha hb]
  have hlast : mAnd (mTru (fVar false 14)) (mNot (mTru (mCallP true (m_is_at_most CL aH) (fCons (fVar true 5) (fCons (mCallP true (m_both_of CL aH) (fCons (fVar true 5) (fCons (fVar true 9) (fCons (fVar true 11) fNil)))) (fCons (mCallP true (m_both_of CL aH) (fCons (fVar true 5) (fCons (fVar true 10) (fCons (fVar true 11) fNil)))) fNil)))))) ⟨[x0, .va (.adr p), x2, x3, x4, .va (latD CL n le B E), .va (iD n), x7, x8, .va (iD a), .va (iD b), .va (iD c), .va (iD (B a b)), .va (iD (E a b)), .va (.bl (decide (B a b = a))), x15, x16, x17, x18, x19, x20, x21, x22, x23, x24, x25, .no, .no, .no, .no, .no], ar1⟩ = some (.ok false ar1) := by
    cases z : decide (B a b = a) with
    | false => exact e_andF (e_mTru (e_var rfl) rfl)
    | true =>
      have hle : le a b = true := by rw [L.le_b ha hb, z]
      have hm := L.bmono ha hc hb hc hle (L.refl c hc)
      rw [L.le_b hBac hBbc] at hm
      have hat := is_at_most_ok (CL := CL) (aH := aH) (le := le) (B := B) (E := E) hBac hBbc
      rw [hm] at hat
      exact e_andT (ar1 := ar1) (e_mTru (e_var rfl) rfl) (e_notT (e_mTru (e_callP (e_cons (e_var rfl) (e_cons (e_callP (e_cons (e_var rfl) (e_cons (e_var rfl) (e_cons (e_var rfl) e_nil))) (both_of_ok ha hc) rfl) (e_cons (e_callP (e_cons (e_var rfl) (e_cons (e_var rfl) (e_cons (e_var rfl) e_nil))) (both_of_ok hb hc) rfl) e_nil))) hat rfl) rfl))
  exact x_ifN (e_orF (e_mB (e_op (e_var rfl) (e_op (e_var rfl) (e_var rfl) eq_iD) (ne_bl rfl))) (e_orF (e_mB (e_op (e_var rfl) (e_op (e_var rfl) (e_var rfl) eq_iD) (ne_bl he))) hlast))
end
end K17
set_option Elab.async false
set_option linter.all false
set_option maxRecDepth 100000
/-! P14: a lap of the law, the law -/
namespace K17
open PySem L2 DL DLk
section
variable {CL aH p : Addr} {ns : List Int} {ar : Ar} {n : Nat} {le : Nat → Nat → Bool} {B E : Nat → Nat → Nat} {cs : List Nat}
theorem fn_of {α : Type} [Inhabited α] {F : α → D} {Q : α → Prop} : ∀ {cs : List Nat} {ds : List D}, cs.Nodup → ds.length = cs.length → (∀ d ∈ ds, ∃ x, Q x ∧ d = F x) → ∃ f : Nat → α, ds = cs.map (fun c => F (f c)) ∧ ∀ c ∈ cs, Q (f c)
  | [], ds, _, hl, _ => ⟨fun _ => default, List.eq_nil_of_length_eq_zero hl, by simp⟩
  | c :: cs, [], _, hl, _ => by simp at hl
  | c :: cs, d :: ds, nd, hl, h => by
    obtain ⟨x, qx, rfl⟩ := h d (List.mem_cons_self ..)
    rw [List.nodup_cons] at nd
    obtain ⟨f, e, q⟩ := fn_of nd.2 (by simpa using hl) fun d hd => h d (List.mem_cons_of_mem _ hd)
    refine ⟨fun k => if k = c then x else f k, ?_, fun k hk => ?_⟩
    · rw [List.map_cons, e]
      dsimp only
      rw [if_pos rfl]
      congr 1
      refine List.map_congr_left fun k hk => ?_
      rw [if_neg]
      rintro rfl
      exact nd.1 hk
    · dsimp only
      by_cases z : k = c
      · rw [if_pos z]; exact qx
      · rw [if_neg z]
        cases hk with
        | head => exact absurd rfl z
        | tail _ hk => exact q k hk
instance : Inhabited Tm := ⟨.lf 0⟩
theorem zip_two (f g : Nat → D) : ∀ cs : List Nat, ((cs.map f).zip (cs.map g)).map (fun p => DL.D.tup [p.1, p.2]) = cs.map fun c => .tup [f c, g c]
  | [] => rfl
  | c :: cs => by rw [List.map_cons, List.map_cons, List.zip_cons_cons, List.map_cons, zip_two f g cs]; rfl
theorem sml_of {t : Tm} (i : t.In cs) (h : t.dep ≤ 4) : Sml cs t := by
  refine ⟨i, ?_, by omega⟩
  have h1 := t.size_dep
  have h2 : 2 ^ t.dep ≤ 2 ^ 4 := Nat.pow_le_pow_right (by decide) h
  omega
theorem lts_of (nd : cs.Nodup) (l1 : 1 ≤ cs.length) (l3 : cs.length ≤ 3) (al : ∀ c ∈ cs, c ∈ abcxy) : Lts cs :=
  ⟨nd, l1, by omega, fun c hc => (show ∀ c ∈ abcxy, c ∈ ("abcdefghijklmnopqrstuvwxyz" : Str).cps.toList from by decide +kernel) c (al c hc)⟩
theorem st1 (hL : Lat n le B E) (h1 : 1 ≤ n) (hn : n ≤ 8) (hc : Lts cs) {x0 x2 x5 x6 x7 x8 x9 x10 x11 x12 x13 x14 x15 x16 x17 x18 x19 x20 x21 x22 x23 x24 x25 : Sl} : (gBind (mTup (fCons (mMake CL (mk_Lattice CL aH) (fCons (fVar true 3) fNil)) (fCons (mCB gLen (fCons (fVar false 3) fNil)) fNil))) (kPut (.tp [5, 6])))
 ⟨[x0, .va (.adr p), x2, .va (.tup (rowsL n le)), .va (ltsD cs), x5, x6, x7, x8, x9, x10, x11, x12, x13, x14, x15, x16, x17, x18, x19, x20, x21, x22, x23, x24, x25, .no, .no, .no, .no, .no], ar⟩ = some (.nx ⟨[x0, .va (.adr p), x2, .va (.tup (rowsL n le)), .va (ltsD cs), .va (latD CL n le B E), .va (iD n), x7, x8, x9, x10, x11, x12, x13, x14, x15, x16, x17, x18, x19, x20, x21, x22, x23, x24, x25, .no, .no, .no, .no, .no], ar⟩) := by
  have hlen : gLen [.tup (rowsL n le)] = some (iD n) := by rw [len_tup, rows_len]; rfl
  exact x_put (e_tup (e_cons (e_make (e_cons (e_var rfl) e_nil) (mk_ok hL h1 (by omega))) (e_cons (e_cb (e_cons (e_var rfl) e_nil) hlen) e_nil)) (Nat.le_of_ble_eq_true rfl)) rfl
theorem st2 (hL : Lat n le B E) (h1 : 1 ≤ n) (hn : n ≤ 8) (hc : Lts cs) {x0 x2 x7 x8 x9 x10 x11 x12 x13 x14 x15 x16 x17 x18 x19 x20 x21 x22 x23 x24 x25 : Sl} : (gBind (mCallP true (m_turned_lattice CL aH) (fCons (fVar true 5) fNil)) (kPut (.nm 7)))
 ⟨[x0, .va (.adr p), x2, .va (.tup (rowsL n le)), .va (ltsD cs), .va (latD CL n le B E), .va (iD n), x7, x8, x9, x10, x11, x12, x13, x14, x15, x16, x17, x18, x19, x20, x21, x22, x23, x24, x25, .no, .no, .no, .no, .no], ar⟩ = some (.nx ⟨[x0, .va (.adr p), x2, .va (.tup (rowsL n le)), .va (ltsD cs), .va (latD CL n le B E), .va (iD n), .va (latD CL n (fun a b => le b a) E B), x8, x9, x10, x11, x12, x13, x14, x15, x16, x17, x18, x19, x20, x21, x22, x23, x24, x25, .no, .no, .no, .no, .no], ar⟩) :=
  x_put (e_callP (e_cons (e_var rfl) e_nil) (turned_lattice_ok hL h1 (by omega)) rfl) rfl
theorem st3 (hL : Lat n le B E) (h1 : 1 ≤ n) (hn : n ≤ 8) (hc : Lts cs) {x0 x2 x8 x9 x10 x11 x12 x13 x14 x15 x16 x17 x18 x19 x20 x21 x22 x23 x24 x25 : Sl} (ok : PenOk p ns ar) : ∃ (ar' : Ar) (y : Sl) (a9 a10 a11 : Nat), (gFor (.nm 8) (mRg rg1 (fCons (fC (.int (6))) fNil)) (gTurn CL aH))
 ⟨[x0, .va (.adr p), x2, .va (.tup (rowsL n le)), .va (ltsD cs), .va (latD CL n le B E), .va (iD n), .va (latD CL n (fun a b => le b a) E B), x8, x9, x10, x11, x12, x13, x14, x15, x16, x17, x18, x19, x20, x21, x22, x23, x24, x25, .no, .no, .no, .no, .no], ar⟩ = some (.nx ⟨[x0, .va (.adr p), x2, .va (.tup (rowsL n le)), .va (ltsD cs), .va (latD CL n le B E), .va (iD n), .va (latD CL n (fun a b => le b a) E B), y, .va (iD a9), .va (iD a10), .va (iD a11), .va (iD (B a9 a10)), .va (iD (E a9 a10)), .va (.bl (decide (B a9 a10 = a9))), x15, x16, x17, x18, x19, x20, x21, x22, x23, x24, x25, .no, .no, .no, .no, .no], ar'⟩) ∧ PenOk p ns ar' := by
  have hf := for_inv (set := setT (.nm 8)) (f := fun i : Nat => D.int (i : Nat)) (g := gTurn CL aH) (fun done rest s => ∃ (ar' : Ar) (x8 x9 x10 x11 x12 x13 x14 : Sl), s = ⟨[x0, .va (.adr p), x2, .va (.tup (rowsL n le)), .va (ltsD cs), .va (latD CL n le B E), .va (iD n), .va (latD CL n (fun a b => le b a) E B), x8, x9, x10, x11, x12, x13, x14, x15, x16, x17, x18, x19, x20, x21, x22, x23, x24, x25, .no, .no, .no, .no, .no], ar'⟩ ∧ PenOk p ns ar' ∧ (done = [] ∨ ∃ a9 a10 a11, x9 = .va (iD a9) ∧ x10 = .va (iD a10) ∧ x11 = .va (iD a11) ∧ x12 = .va (iD (B a9 a10)) ∧ x13 = .va (iD (E a9 a10)) ∧ x14 = .va (.bl (decide (B a9 a10 = a9))))) (List.range 6) [] ⟨[x0, .va (.adr p), x2, .va (.tup (rowsL n le)), .va (ltsD cs), .va (latD CL n le B E), .va (iD n), .va (latD CL n (fun a b => le b a) E B), x8, x9, x10, x11, x12, x13, x14, x15, x16, x17, x18, x19, x20, x21, x22, x23, x24, x25, .no, .no, .no, .no, .no], ar⟩ ⟨ar, _, _, _, _, _, _, _, rfl, ok, .inl rfl⟩ ?_
  · obtain ⟨s', e1, ar', y, x9, x10, x11, x12, x13, x14, rfl, ok', h⟩ := hf
    rcases h with h | ⟨a9, a10, a11, rfl, rfl, rfl, rfl, rfl, rfl⟩
    · exact absurd h (by decide)
    · exact ⟨ar', y, a9, a10, a11, x_for (e_rg (e_cons e_c e_nil) (rgN (n := 6) (by decide))) e1, ok'⟩
  · rintro done i rest s ⟨ar', x8, x9, x10, x11, x12, x13, x14, rfl, ok', _⟩
    obtain ⟨ar2, a, b, c, e, ok2⟩ := turn_ok (CL := CL) (aH := aH) hL h1 hn ok' (x0 := x0) (x2 := x2) (x3 := .va (.tup (rowsL n le))) (x4 := .va (ltsD cs)) (x7 := .va (latD CL n (fun a b => le b a) E B)) (x8 := .va (.int (i : Nat))) (x9 := x9) (x10 := x10) (x11 := x11) (x12 := x12) (x13 := x13) (x14 := x14) (x15 := x15) (x16 := x16) (x17 := x17) (x18 := x18) (x19 := x19) (x20 := x20) (x21 := x21) (x22 := x22) (x23 := x23) (x24 := x24) (x25 := x25)
    exact ⟨_, _, rfl, e, ar2, _, _, _, _, _, _, _, rfl, ok2, .inr ⟨a, b, c, rfl, rfl, rfl, rfl, rfl, rfl⟩⟩
theorem st4 (hL : Lat n le B E) (h1 : 1 ≤ n) (hn : n ≤ 8) (hc : Lts cs) {a9 a10 a11 : Nat} {x0 x2 x8 x15 x16 x17 x18 x19 x20 x21 x22 x23 x24 x25 : Sl} (ok : PenOk p ns ar) : ∃ (ar' : Ar) (v w : Nat → Nat), (gBind (mLst (mLc [27] (.nm 27) (mRg rg1 (fCons (fC (.int (2))) fNil)) fYes (mCB gTuple (fCons (mLst (mLc [28] (.nm 28) (mSeq (fVar false 4)) fYes (mCall (m__law_draw CL aH) (fCons (fVar true 1) (fCons (fVar true 6) fNil))))) fNil)))) (kPut (.ls [15, 16])))
 ⟨[x0, .va (.adr p), x2, .va (.tup (rowsL n le)), .va (ltsD cs), .va (latD CL n le B E), .va (iD n), .va (latD CL n (fun a b => le b a) E B), x8, .va (iD a9), .va (iD a10), .va (iD a11), .va (iD (B a9 a10)), .va (iD (E a9 a10)), .va (.bl (decide (B a9 a10 = a9))), x15, x16, x17, x18, x19, x20, x21, x22, x23, x24, x25, .no, .no, .no, .no, .no], ar⟩ = some (.nx ⟨[x0, .va (.adr p), x2, .va (.tup (rowsL n le)), .va (ltsD cs), .va (latD CL n le B E), .va (iD n), .va (latD CL n (fun a b => le b a) E B), x8, .va (iD a9), .va (iD a10), .va (iD a11), .va (iD (B a9 a10)), .va (iD (E a9 a10)), .va (.bl (decide (B a9 a10 = a9))), .va (imgD cs v), .va (imgD cs w), x17, x18, x19, x20, x21, x22, x23, x24, x25, .no, .no, .no, .no, .no], ar'⟩) ∧ PenOk p ns ar' ∧ (∀ c ∈ cs, v c < n) ∧ ∀ c ∈ cs, w c < n := by
  have hl6 := hc.l6
  obtain ⟨ds, ar1, e1, ok1, hl1, hj1⟩ := e_lcA (vs := [27]) (T := .nm 27) (fi := mRg rg1 (fCons (fC (.int (2))) fNil)) (fe := mCB gTuple (fCons (mLst (mLc [28] (.nm 28) (mSeq (fVar false 4)) fYes (mCall (m__law_draw CL aH) (fCons (fVar true 1) (fCons (fVar true 6) fNil))))) fNil)) (s := ⟨[x0, .va (.adr p), x2, .va (.tup (rowsL n le)), .va (ltsD cs), .va (latD CL n le B E), .va (iD n), .va (latD CL n (fun a b => le b a) E B), x8, .va (iD a9), .va (iD a10), .va (iD a11), .va (iD (B a9 a10)), .va (iD (E a9 a10)), .va (.bl (decide (B a9 a10 = a9))), x15, x16, x17, x18, x19, x20, x21, x22, x23, x24, x25, .no, .no, .no, .no, .no], ar⟩) (s0 := ⟨[x0, .va (.adr p), x2, .va (.tup (rowsL n le)), .va (ltsD cs), .va (latD CL n le B E), .va (iD n), .va (latD CL n (fun a b => le b a) E B), x8, .va (iD a9), .va (iD a10), .va (iD a11), .va (iD (B a9 a10)), .va (iD (E a9 a10)), .va (.bl (decide (B a9 a10 = a9))), x15, x16, x17, x18, x19, x20, x21, x22, x23, x24, x25, .no, .no, .no, .no, .no], ar⟩) (L := List.range 2) (f := fun i : Nat => D.int (i : Nat)) (I := PenOk p ns) (J := fun _ d => ∃ v : Nat → Nat, d = imgD cs v ∧ ∀ c ∈ cs, v c < n) (e_rg (e_cons e_c e_nil) (rgN (n := 2) (by decide))) (limN (by decide)) rfl ok fun i hi ar ok => by
    obtain ⟨ds, ar1, e1, ok1, hl1, hj1⟩ := e_lcA (vs := [28]) (T := .nm 28) (fi := mSeq (fVar false 4)) (fe := mCall (m__law_draw CL aH) (fCons (fVar true 1) (fCons (fVar true 6) fNil))) (s := ⟨[x0, .va (.adr p), x2, .va (.tup (rowsL n le)), .va (ltsD cs), .va (latD CL n le B E), .va (iD n), .va (latD CL n (fun a b => le b a) E B), x8, .va (iD a9), .va (iD a10), .va (iD a11), .va (iD (B a9 a10)), .va (iD (E a9 a10)), .va (.bl (decide (B a9 a10 = a9))), x15, x16, x17, x18, x19, x20, x21, x22, x23, x24, x25, .no, .va (.int (i : Nat)), .no, .no, .no], ar⟩) (s0 := ⟨[x0, .va (.adr p), x2, .va (.tup (rowsL n le)), .va (ltsD cs), .va (latD CL n le B E), .va (iD n), .va (latD CL n (fun a b => le b a) E B), x8, .va (iD a9), .va (iD a10), .va (iD a11), .va (iD (B a9 a10)), .va (iD (E a9 a10)), .va (.bl (decide (B a9 a10 = a9))), x15, x16, x17, x18, x19, x20, x21, x22, x23, x24, x25, .no, .va (.int (i : Nat)), .no, .no, .no], ar⟩) (L := cs) (f := ltr) (I := PenOk p ns) (J := fun _ d => ∃ k, k < n ∧ d = iD k) (e_seqI (e_var rfl) lts_items) (limN (by omega)) rfl ok fun c hc ar ok => by
      obtain ⟨k, ar', e, hk, ok'⟩ := draw_i (CL := CL) (aH := aH) (m := n) ok (by omega) (by omega)
      exact ⟨⟨[x0, .va (.adr p), x2, .va (.tup (rowsL n le)), .va (ltsD cs), .va (latD CL n le B E), .va (iD n), .va (latD CL n (fun a b => le b a) E B), x8, .va (iD a9), .va (iD a10), .va (iD a11), .va (iD (B a9 a10)), .va (iD (E a9 a10)), .va (.bl (decide (B a9 a10 = a9))), x15, x16, x17, x18, x19, x20, x21, x22, x23, x24, x25, .no, .va (.int (i : Nat)), .va (ltr c), .no, .no], ar⟩, iD k, ar', rfl, rfl, e_call (e_cons (e_var rfl) (e_cons (e_var rfl) e_nil)) e, ok', k, hk, rfl⟩
    obtain ⟨v, rfl, hv⟩ := fn_of (F := iD) (Q := fun k => k < n) hc.nd hl1 fun d hd => by
      obtain ⟨_, _, k, hk, rfl⟩ := hj1 d hd
      exact ⟨k, hk, rfl⟩
    exact ⟨⟨[x0, .va (.adr p), x2, .va (.tup (rowsL n le)), .va (ltsD cs), .va (latD CL n le B E), .va (iD n), .va (latD CL n (fun a b => le b a) E B), x8, .va (iD a9), .va (iD a10), .va (iD a11), .va (iD (B a9 a10)), .va (iD (E a9 a10)), .va (.bl (decide (B a9 a10 = a9))), x15, x16, x17, x18, x19, x20, x21, x22, x23, x24, x25, .no, .va (.int (i : Nat)), .no, .no, .no], ar⟩, imgD cs v, ar1, rfl, rfl, e_cb (e_cons (e_lstF e1) e_nil) rfl, ok1, v, rfl, hv⟩
  have hl2 : ds.length = 2 := by rw [hl1, List.length_range]
  match ds, hl2 with
  | [d1, d2], _ =>
    obtain ⟨_, _, v, rfl, hv⟩ := hj1 d1 (by simp)
    obtain ⟨_, _, w, rfl, hw⟩ := hj1 d2 (by simp)
    exact ⟨ar1, v, w, x_put (e_lstF e1) rfl, ok1, hv, hw⟩
theorem st5 (hL : Lat n le B E) (h1 : 1 ≤ n) (hn : n ≤ 8) (hc : Lts cs) {a9 a10 a11 : Nat} {x0 x2 x8 x17 x18 x19 x20 x21 x22 x23 x24 x25 : Sl} {v w : Nat → Nat} (hv : ∀ c ∈ cs, v c < n) (hw : ∀ c ∈ cs, w c < n) : (gBind (mCB gTuple (fCons (mLst (mLc [29, 30] (.tp [29, 30]) (mRg zpD (fCons (fVar false 15) (fCons (fVar false 16) fNil))) fYes (mCallP true (m_either_of CL aH) (fCons (fVar true 5) (fCons (fVar true 29) (fCons (fVar true 30) fNil)))))) fNil)) (kPut (.nm 17)))
 ⟨[x0, .va (.adr p), x2, .va (.tup (rowsL n le)), .va (ltsD cs), .va (latD CL n le B E), .va (iD n), .va (latD CL n (fun a b => le b a) E B), x8, .va (iD a9), .va (iD a10), .va (iD a11), .va (iD (B a9 a10)), .va (iD (E a9 a10)), .va (.bl (decide (B a9 a10 = a9))), .va (imgD cs v), .va (imgD cs w), x17, x18, x19, x20, x21, x22, x23, x24, x25, .no, .no, .no, .no, .no], ar⟩ = some (.nx ⟨[x0, .va (.adr p), x2, .va (.tup (rowsL n le)), .va (ltsD cs), .va (latD CL n le B E), .va (iD n), .va (latD CL n (fun a b => le b a) E B), x8, .va (iD a9), .va (iD a10), .va (iD a11), .va (iD (B a9 a10)), .va (iD (E a9 a10)), .va (.bl (decide (B a9 a10 = a9))), .va (imgD cs v), .va (imgD cs w), .va (imgD cs fun c => E (v c) (w c)), x18, x19, x20, x21, x22, x23, x24, x25, .no, .no, .no, .no, .no], ar⟩) := by
  have hl6 := hc.l6
  have hz : zpD [imgD cs v, imgD cs w] = some (cs.map fun c => .tup [iD (v c), iD (w c)]) := congrArg some (zip_two (fun c => iD (v c)) (fun c => iD (w c)) cs)
  exact x_put (e_cb (e_cons (e_lstF (e_lcY (L := cs) (f := fun c => .tup [iD (v c), iD (w c)]) (g := fun c => iD (E (v c) (w c))) (s0 := ⟨[x0, .va (.adr p), x2, .va (.tup (rowsL n le)), .va (ltsD cs), .va (latD CL n le B E), .va (iD n), .va (latD CL n (fun a b => le b a) E B), x8, .va (iD a9), .va (iD a10), .va (iD a11), .va (iD (B a9 a10)), .va (iD (E a9 a10)), .va (.bl (decide (B a9 a10 = a9))), .va (imgD cs v), .va (imgD cs w), x17, x18, x19, x20, x21, x22, x23, x24, x25, .no, .no, .no, .no, .no], ar⟩) (e_rg (e_cons (e_var rfl) (e_cons (e_var rfl) e_nil)) hz) (limN (by omega)) rfl fun c hc => ⟨⟨[x0, .va (.adr p), x2, .va (.tup (rowsL n le)), .va (ltsD cs), .va (latD CL n le B E), .va (iD n), .va (latD CL n (fun a b => le b a) E B), x8, .va (iD a9), .va (iD a10), .va (iD a11), .va (iD (B a9 a10)), .va (iD (E a9 a10)), .va (.bl (decide (B a9 a10 = a9))), .va (imgD cs v), .va (imgD cs w), x17, x18, x19, x20, x21, x22, x23, x24, x25, .no, .no, .no, .va (iD (v c)), .va (iD (w c))], ar⟩, rfl, rfl, e_callP (e_cons (e_var rfl) (e_cons (e_var rfl) (e_cons (e_var rfl) e_nil))) (either_of_ok (hv c hc) (hw c hc)) rfl⟩)) e_nil) rfl) rfl
theorem st6 (hL : Lat n le B E) (h1 : 1 ≤ n) (hn : n ≤ 8) (hc : Lts cs) {a9 a10 a11 : Nat} {x0 x2 x8 x18 x19 x20 x21 x22 x23 x24 x25 : Sl} {v w : Nat → Nat} (ok : PenOk p ns ar) : ∃ (ar' : Ar) (t u : Tm), (gPar 18 19 (mCall (md__law_drawn_term CL aH 5) (fCons (fVar true 1) (fCons (fVar true 4) (fCons (fC (.int (3))) fNil)))) (mCall (md__law_drawn_term CL aH 5) (fCons (fVar true 1) (fCons (fVar true 4) (fCons (fC (.int (2))) fNil)))))
 ⟨[x0, .va (.adr p), x2, .va (.tup (rowsL n le)), .va (ltsD cs), .va (latD CL n le B E), .va (iD n), .va (latD CL n (fun a b => le b a) E B), x8, .va (iD a9), .va (iD a10), .va (iD a11), .va (iD (B a9 a10)), .va (iD (E a9 a10)), .va (.bl (decide (B a9 a10 = a9))), .va (imgD cs v), .va (imgD cs w), .va (imgD cs fun c => E (v c) (w c)), x18, x19, x20, x21, x22, x23, x24, x25, .no, .no, .no, .no, .no], ar⟩ = some (.nx ⟨[x0, .va (.adr p), x2, .va (.tup (rowsL n le)), .va (ltsD cs), .va (latD CL n le B E), .va (iD n), .va (latD CL n (fun a b => le b a) E B), x8, .va (iD a9), .va (iD a10), .va (iD a11), .va (iD (B a9 a10)), .va (iD (E a9 a10)), .va (.bl (decide (B a9 a10 = a9))), .va (imgD cs v), .va (imgD cs w), .va (imgD cs fun c => E (v c) (w c)), .va t.D, .va u.D, x20, x21, x22, x23, x24, x25, .no, .no, .no, .no, .no], ar'⟩) ∧ PenOk p ns ar' ∧ Sml cs t ∧ Sml cs u := by
  have hl6 := hc.l6
  have hne : cs ≠ [] := by
    have := hc.l1
    rintro rfl
    simp at this
  obtain ⟨t, ar1, e1, i1, d1, ok1⟩ := drawn_ok (CL := CL) (aH := aH) hne (by omega) 5 3 ar ok (by decide)
  obtain ⟨u, ar2, e2, i2, d2, ok2⟩ := drawn_ok (CL := CL) (aH := aH) hne (by omega) 5 2 ar1 ok1 (by decide)
  exact ⟨ar2, t, u, x_par (e_call (e_cons (e_var rfl) (e_cons (e_var rfl) (e_cons e_c e_nil))) e1) (e_call (e_cons (e_var rfl) (e_cons (e_var rfl) (e_cons e_c e_nil))) e2) rfl rfl, ok2, sml_of i1 d1, sml_of i2 (by omega)⟩
theorem sml_turn {t : Tm} (h : Sml cs t) (h4 : t.dep ≤ 8) : Sml cs t.turn := by
  refine ⟨Tm.turn_in h.i, ?_, by rw [Tm.turn_dep]; exact h.d⟩
  have : ∀ t : Tm, t.turn.size = t.size := by
    intro t
    induction t with
    | lf c => rfl
    | nd b l r h1 h2 => simp only [Tm.turn, Tm.size, h1, h2]
  rw [this]
  exact h.s
theorem st7 (hL : Lat n le B E) (h1 : 1 ≤ n) (hn : n ≤ 8) (hc : Lts cs) {a9 a10 a11 : Nat} {x0 x2 x8 x20 x21 x22 x23 x24 x25 : Sl} {v w : Nat → Nat} (hv : ∀ c ∈ cs, v c < n) (hw : ∀ c ∈ cs, w c < n) {t u : Tm} (ht : Sml cs t) (hu : Sml cs u) : (gBind (mCallP true (m_term_value CL aH) (fCons (fVar true 4) (fCons (fVar true 5) (fCons (fVar true 15) (fCons (fVar true 18) fNil))))) (kPut (.nm 20)))
 ⟨[x0, .va (.adr p), x2, .va (.tup (rowsL n le)), .va (ltsD cs), .va (latD CL n le B E), .va (iD n), .va (latD CL n (fun a b => le b a) E B), x8, .va (iD a9), .va (iD a10), .va (iD a11), .va (iD (B a9 a10)), .va (iD (E a9 a10)), .va (.bl (decide (B a9 a10 = a9))), .va (imgD cs v), .va (imgD cs w), .va (imgD cs fun c => E (v c) (w c)), .va t.D, .va u.D, x20, x21, x22, x23, x24, x25, .no, .no, .no, .no, .no], ar⟩ = some (.nx ⟨[x0, .va (.adr p), x2, .va (.tup (rowsL n le)), .va (ltsD cs), .va (latD CL n le B E), .va (iD n), .va (latD CL n (fun a b => le b a) E B), x8, .va (iD a9), .va (iD a10), .va (iD a11), .va (iD (B a9 a10)), .va (iD (E a9 a10)), .va (.bl (decide (B a9 a10 = a9))), .va (imgD cs v), .va (imgD cs w), .va (imgD cs fun c => E (v c) (w c)), .va t.D, .va u.D, .va (iD (t.ev B E v)), x21, x22, x23, x24, x25, .no, .no, .no, .no, .no], ar⟩) :=
  x_put (e_callP (e_cons (e_var rfl) (e_cons (e_var rfl) (e_cons (e_var rfl) (e_cons (e_var rfl) e_nil)))) (term_value_ok hc hL hv ht) rfl) rfl
theorem st8 (hL : Lat n le B E) (h1 : 1 ≤ n) (hn : n ≤ 8) (hc : Lts cs) {a9 a10 a11 : Nat} {x0 x2 x8 x21 x22 x23 x24 x25 : Sl} {v w : Nat → Nat} (hv : ∀ c ∈ cs, v c < n) (hw : ∀ c ∈ cs, w c < n) {t u : Tm} (ht : Sml cs t) (hu : Sml cs u) : (gIf (mOr (mNot (mTru (mCallP true (m_is_at_most CL aH) (fCons (fVar true 5) (fCons (fVar true 20) (fCons (mCallP true (m_term_value CL aH) (fCons (fVar true 4) (fCons (fVar true 5) (fCons (fVar true 17) (fCons (fVar true 18) fNil))))) fNil)))))) (mB (mOp gNe (mCallP true (m_term_value CL aH) (fCons (fVar true 4) (fCons (fVar true 7) (fCons (fVar true 15) (fCons (mCallP true (m_turned_term CL aH) (fCons (fVar true 4) (fCons (fVar true 18) fNil))) fNil))))) (fVar false 20)))) (gRet (fC (.bl false))) DL.gNil)
 ⟨[x0, .va (.adr p), x2, .va (.tup (rowsL n le)), .va (ltsD cs), .va (latD CL n le B E), .va (iD n), .va (latD CL n (fun a b => le b a) E B), x8, .va (iD a9), .va (iD a10), .va (iD a11), .va (iD (B a9 a10)), .va (iD (E a9 a10)), .va (.bl (decide (B a9 a10 = a9))), .va (imgD cs v), .va (imgD cs w), .va (imgD cs fun c => E (v c) (w c)), .va t.D, .va u.D, .va (iD (t.ev B E v)), x21, x22, x23, x24, x25, .no, .no, .no, .no, .no], ar⟩ = some (.nx ⟨[x0, .va (.adr p), x2, .va (.tup (rowsL n le)), .va (ltsD cs), .va (latD CL n le B E), .va (iD n), .va (latD CL n (fun a b => le b a) E B), x8, .va (iD a9), .va (iD a10), .va (iD a11), .va (iD (B a9 a10)), .va (iD (E a9 a10)), .va (.bl (decide (B a9 a10 = a9))), .va (imgD cs v), .va (imgD cs w), .va (imgD cs fun c => E (v c) (w c)), .va t.D, .va u.D, .va (iD (t.ev B E v)), x21, x22, x23, x24, x25, .no, .no, .no, .no, .no], ar⟩) := by
  have ho : ∀ c ∈ cs, (fun c => E (v c) (w c)) c < n := fun c h => hL.en _ (hv c h) _ (hw c h)
  have hle := Tm.ev_mono hL hv ho (fun c h => hL.el (hv c h) (hw c h)) ht.i
  have ha := Tm.ev_lt hL hv ht.i
  have hb := Tm.ev_lt hL ho ht.i
  rw [hL.le_b ha hb] at hle
  have hat := is_at_most_ok (CL := CL) (aH := aH) (le := le) (B := B) (E := E) ha hb
  rw [hle] at hat
  have hvt := term_value_ok (CL := CL) (aH := aH) hc hL.dual hv (sml_turn ht ht.d)
  rw [Tm.ev_turn] at hvt
  exact x_ifN (e_orF (e_notT (e_mTru (e_callP (e_cons (e_var rfl) (e_cons (e_var rfl) (e_cons (e_callP (e_cons (e_var rfl) (e_cons (e_var rfl) (e_cons (e_var rfl) (e_cons (e_var rfl) e_nil)))) (term_value_ok hc hL ho ht) rfl) e_nil))) hat rfl) rfl)) (e_mB (e_op (e_callP (e_cons (e_var rfl) (e_cons (e_var rfl) (e_cons (e_var rfl) (e_cons (e_callP (e_cons (e_var rfl) (e_cons (e_var rfl) e_nil)) (turned_term_ok hc ht) rfl) e_nil)))) hvt rfl) (e_var rfl) (ne_same rfl))))
theorem st9 (hL : Lat n le B E) (h1 : 1 ≤ n) (hn : n ≤ 8) (hc : Lts cs) {a9 a10 a11 : Nat} {x0 x2 x8 x21 x22 x23 x24 x25 : Sl} {v w : Nat → Nat} (hv : ∀ c ∈ cs, v c < n) (hw : ∀ c ∈ cs, w c < n) {t u : Tm} (ht : Sml cs t) (hu : Sml cs u) : (gIf (mB (mOp gNe (mCallP true (m_is_so CL aH) (fCons (fVar true 4) (fCons (fVar true 7) (fCons (fVar true 15) (fCons (mCallP true (m_turned_term CL aH) (fCons (fVar true 4) (fCons (fVar true 19) fNil))) (fCons (mCallP true (m_turned_term CL aH) (fCons (fVar true 4) (fCons (fVar true 18) fNil))) fNil)))))) (mCallP true (m_is_so CL aH) (fCons (fVar true 4) (fCons (fVar true 5) (fCons (fVar true 15) (fCons (fVar true 18) (fCons (fVar true 19) fNil)))))))) (gRet (fC (.bl false))) DL.gNil)
 ⟨[x0, .va (.adr p), x2, .va (.tup (rowsL n le)), .va (ltsD cs), .va (latD CL n le B E), .va (iD n), .va (latD CL n (fun a b => le b a) E B), x8, .va (iD a9), .va (iD a10), .va (iD a11), .va (iD (B a9 a10)), .va (iD (E a9 a10)), .va (.bl (decide (B a9 a10 = a9))), .va (imgD cs v), .va (imgD cs w), .va (imgD cs fun c => E (v c) (w c)), .va t.D, .va u.D, .va (iD (t.ev B E v)), x21, x22, x23, x24, x25, .no, .no, .no, .no, .no], ar⟩ = some (.nx ⟨[x0, .va (.adr p), x2, .va (.tup (rowsL n le)), .va (ltsD cs), .va (latD CL n le B E), .va (iD n), .va (latD CL n (fun a b => le b a) E B), x8, .va (iD a9), .va (iD a10), .va (iD a11), .va (iD (B a9 a10)), .va (iD (E a9 a10)), .va (.bl (decide (B a9 a10 = a9))), .va (imgD cs v), .va (imgD cs w), .va (imgD cs fun c => E (v c) (w c)), .va t.D, .va u.D, .va (iD (t.ev B E v)), x21, x22, x23, x24, x25, .no, .no, .no, .no, .no], ar⟩) := by
  have h1 := is_so_ok (CL := CL) (aH := aH) hc hL.dual hv (sml_turn hu hu.d) (sml_turn ht ht.d)
  rw [Tm.ev_turn, Tm.ev_turn] at h1
  exact x_ifN (e_mB (e_op (e_callP (e_cons (e_var rfl) (e_cons (e_var rfl) (e_cons (e_var rfl) (e_cons (e_callP (e_cons (e_var rfl) (e_cons (e_var rfl) e_nil)) (turned_term_ok hc hu) rfl) (e_cons (e_callP (e_cons (e_var rfl) (e_cons (e_var rfl) e_nil)) (turned_term_ok hc ht) rfl) e_nil))))) h1 rfl) (e_callP (e_cons (e_var rfl) (e_cons (e_var rfl) (e_cons (e_var rfl) (e_cons (e_var rfl) (e_cons (e_var rfl) e_nil))))) (is_so_ok hc hL hv ht hu) rfl) (ne_bl rfl)))
theorem st10 (hL : Lat n le B E) (h1 : 1 ≤ n) (hn : n ≤ 8) (hc : Lts cs) {a9 a10 a11 : Nat} {x0 x2 x8 x21 x22 x23 x24 x25 : Sl} {v w : Nat → Nat} {t u : Tm} (ok : PenOk p ns ar) : ∃ (ar' : Ar) (m : Nat → Tm), (gBind (mCB gTuple (fCons (mLst (mLc [28] (.nm 28) (mSeq (fVar false 4)) fYes (mCall (md__law_drawn_term CL aH 5) (fCons (fVar true 1) (fCons (fVar true 4) (fCons (fC (.int (1))) fNil)))))) fNil)) (kPut (.nm 21)))
 ⟨[x0, .va (.adr p), x2, .va (.tup (rowsL n le)), .va (ltsD cs), .va (latD CL n le B E), .va (iD n), .va (latD CL n (fun a b => le b a) E B), x8, .va (iD a9), .va (iD a10), .va (iD a11), .va (iD (B a9 a10)), .va (iD (E a9 a10)), .va (.bl (decide (B a9 a10 = a9))), .va (imgD cs v), .va (imgD cs w), .va (imgD cs fun c => E (v c) (w c)), .va t.D, .va u.D, .va (iD (t.ev B E v)), x21, x22, x23, x24, x25, .no, .no, .no, .no, .no], ar⟩ = some (.nx ⟨[x0, .va (.adr p), x2, .va (.tup (rowsL n le)), .va (ltsD cs), .va (latD CL n le B E), .va (iD n), .va (latD CL n (fun a b => le b a) E B), x8, .va (iD a9), .va (iD a10), .va (iD a11), .va (iD (B a9 a10)), .va (iD (E a9 a10)), .va (.bl (decide (B a9 a10 = a9))), .va (imgD cs v), .va (imgD cs w), .va (imgD cs fun c => E (v c) (w c)), .va t.D, .va u.D, .va (iD (t.ev B E v)), .va (.tup (cs.map fun c => (m c).D)), x22, x23, x24, x25, .no, .no, .no, .no, .no], ar'⟩) ∧ PenOk p ns ar' ∧ (∀ c ∈ cs, (m c).In cs ∧ (m c).dep ≤ 2) := by
  have hl6 := hc.l6
  have hne : cs ≠ [] := by
    have := hc.l1
    rintro rfl
    simp at this
  obtain ⟨ds, ar1, e1, ok1, hl1, hj1⟩ := e_lcA (vs := [28]) (T := .nm 28) (fi := mSeq (fVar false 4)) (fe := mCall (md__law_drawn_term CL aH 5) (fCons (fVar true 1) (fCons (fVar true 4) (fCons (fC (.int (1))) fNil)))) (s := ⟨[x0, .va (.adr p), x2, .va (.tup (rowsL n le)), .va (ltsD cs), .va (latD CL n le B E), .va (iD n), .va (latD CL n (fun a b => le b a) E B), x8, .va (iD a9), .va (iD a10), .va (iD a11), .va (iD (B a9 a10)), .va (iD (E a9 a10)), .va (.bl (decide (B a9 a10 = a9))), .va (imgD cs v), .va (imgD cs w), .va (imgD cs fun c => E (v c) (w c)), .va t.D, .va u.D, .va (iD (t.ev B E v)), x21, x22, x23, x24, x25, .no, .no, .no, .no, .no], ar⟩) (s0 := ⟨[x0, .va (.adr p), x2, .va (.tup (rowsL n le)), .va (ltsD cs), .va (latD CL n le B E), .va (iD n), .va (latD CL n (fun a b => le b a) E B), x8, .va (iD a9), .va (iD a10), .va (iD a11), .va (iD (B a9 a10)), .va (iD (E a9 a10)), .va (.bl (decide (B a9 a10 = a9))), .va (imgD cs v), .va (imgD cs w), .va (imgD cs fun c => E (v c) (w c)), .va t.D, .va u.D, .va (iD (t.ev B E v)), x21, x22, x23, x24, x25, .no, .no, .no, .no, .no], ar⟩) (L := cs) (f := ltr) (I := PenOk p ns) (J := fun _ d => ∃ t : Tm, (t.In cs ∧ t.dep ≤ 2) ∧ d = t.D) (e_seqI (e_var rfl) lts_items) (limN (by omega)) rfl ok fun c hc ar ok => by
    obtain ⟨z, ar1, e1, i1, d1, ok1⟩ := drawn_ok (CL := CL) (aH := aH) hne (by omega) 5 1 ar ok (by decide)
    exact ⟨⟨[x0, .va (.adr p), x2, .va (.tup (rowsL n le)), .va (ltsD cs), .va (latD CL n le B E), .va (iD n), .va (latD CL n (fun a b => le b a) E B), x8, .va (iD a9), .va (iD a10), .va (iD a11), .va (iD (B a9 a10)), .va (iD (E a9 a10)), .va (.bl (decide (B a9 a10 = a9))), .va (imgD cs v), .va (imgD cs w), .va (imgD cs fun c => E (v c) (w c)), .va t.D, .va u.D, .va (iD (t.ev B E v)), x21, x22, x23, x24, x25, .no, .no, .va (ltr c), .no, .no], ar⟩, z.D, ar1, rfl, rfl, e_call (e_cons (e_var rfl) (e_cons (e_var rfl) (e_cons e_c e_nil))) e1, ok1, z, ⟨i1, d1⟩, rfl⟩
  obtain ⟨m, rfl, hm⟩ := fn_of (F := Tm.D) (Q := fun t => t.In cs ∧ t.dep ≤ 2) hc.nd hl1 fun d hd => by
    obtain ⟨_, _, h⟩ := hj1 d hd
    exact h
  exact ⟨ar1, m, x_put (e_cb (e_cons (e_lstF e1) e_nil) rfl) rfl, ok1, hm⟩
theorem st11 (hL : Lat n le B E) (h1 : 1 ≤ n) (hn : n ≤ 8) (hc : Lts cs) {a9 a10 a11 : Nat} {x0 x2 x8 x22 x23 x24 x25 : Sl} {v w : Nat → Nat} {t u : Tm} (hv : ∀ c ∈ cs, v c < n) {m : Nat → Tm} (hm : ∀ c ∈ cs, (m c).In cs ∧ (m c).dep ≤ 2) : (gBind (mCB gTuple (fCons (mLst (mLc [9] (.nm 9) (mSeq (fVar false 21)) fYes (mCallP true (m_term_value CL aH) (fCons (fVar true 4) (fCons (fVar true 5) (fCons (fVar true 15) (fCons (fVar true 9) fNil))))))) fNil)) (kPut (.nm 22)))
 ⟨[x0, .va (.adr p), x2, .va (.tup (rowsL n le)), .va (ltsD cs), .va (latD CL n le B E), .va (iD n), .va (latD CL n (fun a b => le b a) E B), x8, .va (iD a9), .va (iD a10), .va (iD a11), .va (iD (B a9 a10)), .va (iD (E a9 a10)), .va (.bl (decide (B a9 a10 = a9))), .va (imgD cs v), .va (imgD cs w), .va (imgD cs fun c => E (v c) (w c)), .va t.D, .va u.D, .va (iD (t.ev B E v)), .va (.tup (cs.map fun c => (m c).D)), x22, x23, x24, x25, .no, .no, .no, .no, .no], ar⟩ = some (.nx ⟨[x0, .va (.adr p), x2, .va (.tup (rowsL n le)), .va (ltsD cs), .va (latD CL n le B E), .va (iD n), .va (latD CL n (fun a b => le b a) E B), x8, .va (iD a9), .va (iD a10), .va (iD a11), .va (iD (B a9 a10)), .va (iD (E a9 a10)), .va (.bl (decide (B a9 a10 = a9))), .va (imgD cs v), .va (imgD cs w), .va (imgD cs fun c => E (v c) (w c)), .va t.D, .va u.D, .va (iD (t.ev B E v)), .va (.tup (cs.map fun c => (m c).D)), .va (imgD cs fun c => (m c).ev B E v), x23, x24, x25, .no, .no, .no, .no, .no], ar⟩) := by
  have hl6 := hc.l6
  exact x_put (e_cb (e_cons (e_lstF (e_lcY (L := cs) (f := fun c => (m c).D) (g := fun c => iD ((m c).ev B E v)) (s0 := ⟨[x0, .va (.adr p), x2, .va (.tup (rowsL n le)), .va (ltsD cs), .va (latD CL n le B E), .va (iD n), .va (latD CL n (fun a b => le b a) E B), x8, .no, .va (iD a10), .va (iD a11), .va (iD (B a9 a10)), .va (iD (E a9 a10)), .va (.bl (decide (B a9 a10 = a9))), .va (imgD cs v), .va (imgD cs w), .va (imgD cs fun c => E (v c) (w c)), .va t.D, .va u.D, .va (iD (t.ev B E v)), .va (.tup (cs.map fun c => (m c).D)), x22, x23, x24, x25, .no, .no, .no, .no, .no], ar⟩) (e_seqI (e_var rfl) rfl) (limN (by omega)) rfl fun c hcc => ⟨⟨[x0, .va (.adr p), x2, .va (.tup (rowsL n le)), .va (ltsD cs), .va (latD CL n le B E), .va (iD n), .va (latD CL n (fun a b => le b a) E B), x8, .va (m c).D, .va (iD a10), .va (iD a11), .va (iD (B a9 a10)), .va (iD (E a9 a10)), .va (.bl (decide (B a9 a10 = a9))), .va (imgD cs v), .va (imgD cs w), .va (imgD cs fun c => E (v c) (w c)), .va t.D, .va u.D, .va (iD (t.ev B E v)), .va (.tup (cs.map fun c => (m c).D)), x22, x23, x24, x25, .no, .no, .no, .no, .no], ar⟩, rfl, rfl, (e_callP (e_cons (e_var rfl) (e_cons (e_var rfl) (e_cons (e_var rfl) (e_cons (e_var rfl) e_nil)))) (term_value_ok hc hL hv (sml_of (hm c hcc).1 (by have := (hm c hcc).2; omega))) rfl)⟩)) e_nil) rfl) rfl
theorem st12 (hL : Lat n le B E) (h1 : 1 ≤ n) (hn : n ≤ 8) (hc : Lts cs) {a9 a10 a11 : Nat} {x0 x2 x8 x23 x24 x25 : Sl} {v w : Nat → Nat} {t u : Tm} {m : Nat → Tm} (ok : PenOk p ns ar) : ∃ (ar' : Ar) (z : Tm), (gBind (mCall (md__law_drawn_term CL aH 5) (fCons (fVar true 1) (fCons (fVar true 4) (fCons (fC (.int (2))) fNil)))) (kPut (.nm 23)))
 ⟨[x0, .va (.adr p), x2, .va (.tup (rowsL n le)), .va (ltsD cs), .va (latD CL n le B E), .va (iD n), .va (latD CL n (fun a b => le b a) E B), x8, .va (iD a9), .va (iD a10), .va (iD a11), .va (iD (B a9 a10)), .va (iD (E a9 a10)), .va (.bl (decide (B a9 a10 = a9))), .va (imgD cs v), .va (imgD cs w), .va (imgD cs fun c => E (v c) (w c)), .va t.D, .va u.D, .va (iD (t.ev B E v)), .va (.tup (cs.map fun c => (m c).D)), .va (imgD cs fun c => (m c).ev B E v), x23, x24, x25, .no, .no, .no, .no, .no], ar⟩ = some (.nx ⟨[x0, .va (.adr p), x2, .va (.tup (rowsL n le)), .va (ltsD cs), .va (latD CL n le B E), .va (iD n), .va (latD CL n (fun a b => le b a) E B), x8, .va (iD a9), .va (iD a10), .va (iD a11), .va (iD (B a9 a10)), .va (iD (E a9 a10)), .va (.bl (decide (B a9 a10 = a9))), .va (imgD cs v), .va (imgD cs w), .va (imgD cs fun c => E (v c) (w c)), .va t.D, .va u.D, .va (iD (t.ev B E v)), .va (.tup (cs.map fun c => (m c).D)), .va (imgD cs fun c => (m c).ev B E v), .va z.D, x24, x25, .no, .no, .no, .no, .no], ar'⟩) ∧ PenOk p ns ar' ∧ z.In cs ∧ z.dep ≤ 3 := by
  have hl6 := hc.l6
  have hne : cs ≠ [] := by
    have := hc.l1
    rintro rfl
    simp at this
  obtain ⟨z, ar1, e1, i1, d1, ok1⟩ := drawn_ok (CL := CL) (aH := aH) hne (by omega) 5 2 ar ok (by decide)
  exact ⟨ar1, z, x_put (e_call (e_cons (e_var rfl) (e_cons (e_var rfl) (e_cons e_c e_nil))) e1) rfl, ok1, i1, d1⟩
theorem st13 (hL : Lat n le B E) (h1 : 1 ≤ n) (hn : n ≤ 8) (hc : Lts cs) {a9 a10 a11 : Nat} {x0 x2 x8 x24 x25 : Sl} {v w : Nat → Nat} {t u : Tm} (hv : ∀ c ∈ cs, v c < n) {m : Nat → Tm} (hm : ∀ c ∈ cs, (m c).In cs ∧ (m c).dep ≤ 2) {z : Tm} (hz : z.In cs) (hz3 : z.dep ≤ 3) : (gIf (mB (mOp gNe (mCallP true (m_term_value CL aH) (fCons (fVar true 4) (fCons (fVar true 5) (fCons (fVar true 15) (fCons (mCallP true (m_put_in CL aH) (fCons (fVar true 4) (fCons (fVar true 23) (fCons (fVar true 21) fNil)))) fNil))))) (mCallP true (m_term_value CL aH) (fCons (fVar true 4) (fCons (fVar true 5) (fCons (fVar true 22) (fCons (fVar true 23) fNil))))))) (gRet (fC (.bl false))) DL.gNil)
 ⟨[x0, .va (.adr p), x2, .va (.tup (rowsL n le)), .va (ltsD cs), .va (latD CL n le B E), .va (iD n), .va (latD CL n (fun a b => le b a) E B), x8, .va (iD a9), .va (iD a10), .va (iD a11), .va (iD (B a9 a10)), .va (iD (E a9 a10)), .va (.bl (decide (B a9 a10 = a9))), .va (imgD cs v), .va (imgD cs w), .va (imgD cs fun c => E (v c) (w c)), .va t.D, .va u.D, .va (iD (t.ev B E v)), .va (.tup (cs.map fun c => (m c).D)), .va (imgD cs fun c => (m c).ev B E v), .va z.D, x24, x25, .no, .no, .no, .no, .no], ar⟩ = some (.nx ⟨[x0, .va (.adr p), x2, .va (.tup (rowsL n le)), .va (ltsD cs), .va (latD CL n le B E), .va (iD n), .va (latD CL n (fun a b => le b a) E B), x8, .va (iD a9), .va (iD a10), .va (iD a11), .va (iD (B a9 a10)), .va (iD (E a9 a10)), .va (.bl (decide (B a9 a10 = a9))), .va (imgD cs v), .va (imgD cs w), .va (imgD cs fun c => E (v c) (w c)), .va t.D, .va u.D, .va (iD (t.ev B E v)), .va (.tup (cs.map fun c => (m c).D)), .va (imgD cs fun c => (m c).ev B E v), .va z.D, x24, x25, .no, .no, .no, .no, .no], ar⟩) := by
  have hlv : ∀ c ∈ cs, (fun c => (m c).ev B E v) c < n := fun c h => Tm.ev_lt hL hv (hm c h).1
  have hp : Sml cs (z.put m) := sml_of (Tm.put_in (fun c h => (hm c h).1) hz) (by have := Tm.put_dep (k := 1) (fun c h => (hm c h).2) hz; omega)
  have h1 := term_value_ok (CL := CL) (aH := aH) hc hL hv hp
  rw [Tm.ev_put] at h1
  exact x_ifN (e_mB (e_op (e_callP (e_cons (e_var rfl) (e_cons (e_var rfl) (e_cons (e_var rfl) (e_cons (e_callP (e_cons (e_var rfl) (e_cons (e_var rfl) (e_cons (e_var rfl) e_nil))) (put_in_ok hc (sml_of hz (by omega)) (fun c h => sml_of (hm c h).1 (by have := (hm c h).2; omega)) hp) rfl) e_nil)))) h1 rfl) (e_callP (e_cons (e_var rfl) (e_cons (e_var rfl) (e_cons (e_var rfl) (e_cons (e_var rfl) e_nil)))) (term_value_ok hc hL hlv (sml_of hz (by omega))) rfl) (ne_same rfl)))
theorem st14 (hL : Lat n le B E) (h1 : 1 ≤ n) (hn : n ≤ 8) (hc : Lts cs) {a9 a10 a11 : Nat} {x0 x2 x8 x24 x25 : Sl} {v w : Nat → Nat} {t u : Tm} {m : Nat → Tm} {z : Tm} (ok : PenOk p ns ar) : ∃ (ar' : Ar) (l : List Nat), (gBind (mCall (m__law_shuffled CL aH) (fCons (fVar true 1) (fCons (mLst (fRgL (fRg1 (fVar false 6)))) fNil))) (kPut (.nm 24)))
 ⟨[x0, .va (.adr p), x2, .va (.tup (rowsL n le)), .va (ltsD cs), .va (latD CL n le B E), .va (iD n), .va (latD CL n (fun a b => le b a) E B), x8, .va (iD a9), .va (iD a10), .va (iD a11), .va (iD (B a9 a10)), .va (iD (E a9 a10)), .va (.bl (decide (B a9 a10 = a9))), .va (imgD cs v), .va (imgD cs w), .va (imgD cs fun c => E (v c) (w c)), .va t.D, .va u.D, .va (iD (t.ev B E v)), .va (.tup (cs.map fun c => (m c).D)), .va (imgD cs fun c => (m c).ev B E v), .va z.D, x24, x25, .no, .no, .no, .no, .no], ar⟩ = some (.nx ⟨[x0, .va (.adr p), x2, .va (.tup (rowsL n le)), .va (ltsD cs), .va (latD CL n le B E), .va (iD n), .va (latD CL n (fun a b => le b a) E B), x8, .va (iD a9), .va (iD a10), .va (iD a11), .va (iD (B a9 a10)), .va (iD (E a9 a10)), .va (.bl (decide (B a9 a10 = a9))), .va (imgD cs v), .va (imgD cs w), .va (imgD cs fun c => E (v c) (w c)), .va t.D, .va u.D, .va (iD (t.ev B E v)), .va (.tup (cs.map fun c => (m c).D)), .va (imgD cs fun c => (m c).ev B E v), .va z.D, .va (.lst (l.map iD)), x25, .no, .no, .no, .no, .no], ar'⟩) ∧ PenOk p ns ar' ∧ l.Perm (List.range n) := by
  obtain ⟨l, ar1, e1, pl, ok1⟩ := shuf_i (CL := CL) (aH := aH) (xs := List.range n) ok (by rw [List.length_range]; omega)
  exact ⟨ar1, l, x_put (e_call (e_cons (e_var rfl) (e_cons (e_lstF (f_rgL (n := n) (e_var rfl) (by omega))) e_nil)) e1) rfl, ok1, pl⟩
theorem st15 (hL : Lat n le B E) (h1 : 1 ≤ n) (hn : n ≤ 8) (hc : Lts cs) {a9 a10 a11 : Nat} {x0 x2 x8 x25 : Sl} {v w : Nat → Nat} {t u : Tm} {m : Nat → Tm} {z : Tm} {l : List Nat} {τ : Nat → Nat} (pl : l.Perm (List.range n)) (Rn : Ren n (sg l) τ) : (gBind (mMake CL (mk_Lattice CL aH) (fCons (mCallP true (m__law_led_rows CL aH) (fCons (fVar true 3) (fCons (fVar true 24) fNil))) fNil)) (kPut (.nm 25)))
 ⟨[x0, .va (.adr p), x2, .va (.tup (rowsL n le)), .va (ltsD cs), .va (latD CL n le B E), .va (iD n), .va (latD CL n (fun a b => le b a) E B), x8, .va (iD a9), .va (iD a10), .va (iD a11), .va (iD (B a9 a10)), .va (iD (E a9 a10)), .va (.bl (decide (B a9 a10 = a9))), .va (imgD cs v), .va (imgD cs w), .va (imgD cs fun c => E (v c) (w c)), .va t.D, .va u.D, .va (iD (t.ev B E v)), .va (.tup (cs.map fun c => (m c).D)), .va (imgD cs fun c => (m c).ev B E v), .va z.D, .va (.lst (l.map iD)), x25, .no, .no, .no, .no, .no], ar⟩ = some (.nx ⟨[x0, .va (.adr p), x2, .va (.tup (rowsL n le)), .va (ltsD cs), .va (latD CL n le B E), .va (iD n), .va (latD CL n (fun a b => le b a) E B), x8, .va (iD a9), .va (iD a10), .va (iD a11), .va (iD (B a9 a10)), .va (iD (E a9 a10)), .va (.bl (decide (B a9 a10 = a9))), .va (imgD cs v), .va (imgD cs w), .va (imgD cs fun c => E (v c) (w c)), .va t.D, .va u.D, .va (iD (t.ev B E v)), .va (.tup (cs.map fun c => (m c).D)), .va (imgD cs fun c => (m c).ev B E v), .va z.D, .va (.lst (l.map iD)), .va (latD CL n (fun a b => le (τ a) (τ b)) (fun a b => sg l (B (τ a) (τ b))) (fun a b => sg l (E (τ a) (τ b)))), .no, .no, .no, .no, .no], ar⟩) :=
  x_put (e_make (e_cons (e_callP (e_cons (e_var rfl) (e_cons (e_var rfl) e_nil)) (led_rows_ok (by omega) pl Rn) rfl) e_nil) (mk_ok (hL.move Rn) h1 (by omega))) rfl
theorem st16 (hL : Lat n le B E) (h1 : 1 ≤ n) (hn : n ≤ 8) (hc : Lts cs) {a9 a10 a11 : Nat} {x0 x2 x8 : Sl} {v w : Nat → Nat} {t u : Tm} (hv : ∀ c ∈ cs, v c < n) (ht : Sml cs t) {m : Nat → Tm} {z : Tm} {l : List Nat} {τ : Nat → Nat} (pl : l.Perm (List.range n)) (Rn : Ren n (sg l) τ) : (gIf (mB (mOp gNe (mCallP true (m_term_value CL aH) (fCons (fVar true 4) (fCons (fVar true 25) (fCons (mCB gTuple (fCons (mLst (mLc [9] (.nm 9) (mSeq (fVar false 15)) fYes (mOp gIx (fVar false 24) (fVar false 9)))) fNil)) (fCons (fVar true 18) fNil))))) (mOp gIx (fVar false 24) (fVar false 20)))) (gRet (fC (.bl false))) DL.gNil)
 ⟨[x0, .va (.adr p), x2, .va (.tup (rowsL n le)), .va (ltsD cs), .va (latD CL n le B E), .va (iD n), .va (latD CL n (fun a b => le b a) E B), x8, .va (iD a9), .va (iD a10), .va (iD a11), .va (iD (B a9 a10)), .va (iD (E a9 a10)), .va (.bl (decide (B a9 a10 = a9))), .va (imgD cs v), .va (imgD cs w), .va (imgD cs fun c => E (v c) (w c)), .va t.D, .va u.D, .va (iD (t.ev B E v)), .va (.tup (cs.map fun c => (m c).D)), .va (imgD cs fun c => (m c).ev B E v), .va z.D, .va (.lst (l.map iD)), .va (latD CL n (fun a b => le (τ a) (τ b)) (fun a b => sg l (B (τ a) (τ b))) (fun a b => sg l (E (τ a) (τ b)))), .no, .no, .no, .no, .no], ar⟩ = some (.nx ⟨[x0, .va (.adr p), x2, .va (.tup (rowsL n le)), .va (ltsD cs), .va (latD CL n le B E), .va (iD n), .va (latD CL n (fun a b => le b a) E B), x8, .va (iD a9), .va (iD a10), .va (iD a11), .va (iD (B a9 a10)), .va (iD (E a9 a10)), .va (.bl (decide (B a9 a10 = a9))), .va (imgD cs v), .va (imgD cs w), .va (imgD cs fun c => E (v c) (w c)), .va t.D, .va u.D, .va (iD (t.ev B E v)), .va (.tup (cs.map fun c => (m c).D)), .va (imgD cs fun c => (m c).ev B E v), .va z.D, .va (.lst (l.map iD)), .va (latD CL n (fun a b => le (τ a) (τ b)) (fun a b => sg l (B (τ a) (τ b))) (fun a b => sg l (E (τ a) (τ b)))), .no, .no, .no, .no, .no], ar⟩) := by
  have hl6 := hc.l6
  have hll : l.length = n := by rw [pl.length_eq, List.length_range]
  have hsv : ∀ c ∈ cs, (fun c => sg l (v c)) c < n := fun c h => Rn.sn _ (hv c h)
  have h2 := term_value_ok (CL := CL) (aH := aH) hc (hL.move Rn) hsv ht
  rw [Tm.ev_move hL Rn hv ht.i] at h2
  have hlc : mCB gTuple (fCons (mLst (mLc [9] (.nm 9) (mSeq (fVar false 15)) fYes (mOp gIx (fVar false 24) (fVar false 9)))) fNil) ⟨[x0, .va (.adr p), x2, .va (.tup (rowsL n le)), .va (ltsD cs), .va (latD CL n le B E), .va (iD n), .va (latD CL n (fun a b => le b a) E B), x8, .va (iD a9), .va (iD a10), .va (iD a11), .va (iD (B a9 a10)), .va (iD (E a9 a10)), .va (.bl (decide (B a9 a10 = a9))), .va (imgD cs v), .va (imgD cs w), .va (imgD cs fun c => E (v c) (w c)), .va t.D, .va u.D, .va (iD (t.ev B E v)), .va (.tup (cs.map fun c => (m c).D)), .va (imgD cs fun c => (m c).ev B E v), .va z.D, .va (.lst (l.map iD)), .va (latD CL n (fun a b => le (τ a) (τ b)) (fun a b => sg l (B (τ a) (τ b))) (fun a b => sg l (E (τ a) (τ b)))), .no, .no, .no, .no, .no], ar⟩ = some (.ok (imgD cs fun c => sg l (v c)) ar) :=
    e_cb (e_cons (e_lstF (e_lcY (L := cs) (f := fun c => iD (v c)) (g := fun c => iD (sg l (v c))) (s0 := ⟨[x0, .va (.adr p), x2, .va (.tup (rowsL n le)), .va (ltsD cs), .va (latD CL n le B E), .va (iD n), .va (latD CL n (fun a b => le b a) E B), x8, .no, .va (iD a10), .va (iD a11), .va (iD (B a9 a10)), .va (iD (E a9 a10)), .va (.bl (decide (B a9 a10 = a9))), .va (imgD cs v), .va (imgD cs w), .va (imgD cs fun c => E (v c) (w c)), .va t.D, .va u.D, .va (iD (t.ev B E v)), .va (.tup (cs.map fun c => (m c).D)), .va (imgD cs fun c => (m c).ev B E v), .va z.D, .va (.lst (l.map iD)), .va (latD CL n (fun a b => le (τ a) (τ b)) (fun a b => sg l (B (τ a) (τ b))) (fun a b => sg l (E (τ a) (τ b)))), .no, .no, .no, .no, .no], ar⟩) (e_seqI (e_var rfl) rfl) (limN (by omega)) rfl fun c h => ⟨⟨[x0, .va (.adr p), x2, .va (.tup (rowsL n le)), .va (ltsD cs), .va (latD CL n le B E), .va (iD n), .va (latD CL n (fun a b => le b a) E B), x8, .va (iD (v c)), .va (iD a10), .va (iD a11), .va (iD (B a9 a10)), .va (iD (E a9 a10)), .va (.bl (decide (B a9 a10 = a9))), .va (imgD cs v), .va (imgD cs w), .va (imgD cs fun c => E (v c) (w c)), .va t.D, .va u.D, .va (iD (t.ev B E v)), .va (.tup (cs.map fun c => (m c).D)), .va (imgD cs fun c => (m c).ev B E v), .va z.D, .va (.lst (l.map iD)), .va (latD CL n (fun a b => le (τ a) (τ b)) (fun a b => sg l (B (τ a) (τ b))) (fun a b => sg l (E (τ a) (τ b)))), .no, .no, .no, .no, .no], ar⟩, rfl, rfl, e_op (e_var rfl) (e_var rfl) (ix_i (by have := hv c h; omega))⟩)) e_nil) rfl
  exact x_ifN (e_mB (e_op (e_callP (e_cons (e_var rfl) (e_cons (e_var rfl) (e_cons hlc (e_cons (e_var rfl) e_nil)))) h2 rfl) (e_op (e_var rfl) (e_var rfl) (ix_i (by have := Tm.ev_lt hL hv ht.i; omega))) (ne_same rfl)))
noncomputable def gLap (CL aH : Addr) : G := (gSeq (gBind (mTup (fCons (mCall (m__law_lattice CL aH) (fCons (fVar true 1) fNil)) (fCons (mCall (m__law_letters CL aH) (fCons (fVar true 1) fNil)) fNil))) (kPut (.tp [3, 4])))
 (gSeq (gBind (mTup (fCons (mMake CL (mk_Lattice CL aH) (fCons (fVar true 3) fNil)) (fCons (mCB gLen (fCons (fVar false 3) fNil)) fNil))) (kPut (.tp [5, 6])))
 (gSeq (gBind (mCallP true (m_turned_lattice CL aH) (fCons (fVar true 5) fNil)) (kPut (.nm 7)))
 (gSeq (gFor (.nm 8) (mRg rg1 (fCons (fC (.int (6))) fNil)) (gTurn CL aH))
 (gSeq (gBind (mLst (mLc [27] (.nm 27) (mRg rg1 (fCons (fC (.int (2))) fNil)) fYes (mCB gTuple (fCons (mLst (mLc [28] (.nm 28) (mSeq (fVar false 4)) fYes (mCall (m__law_draw CL aH) (fCons (fVar true 1) (fCons (fVar true 6) fNil))))) fNil)))) (kPut (.ls [15, 16])))
 (gSeq (gBind (mCB gTuple (fCons (mLst (mLc [29, 30] (.tp [29, 30]) (mRg zpD (fCons (fVar false 15) (fCons (fVar false 16) fNil))) fYes (mCallP true (m_either_of CL aH) (fCons (fVar true 5) (fCons (fVar true 29) (fCons (fVar true 30) fNil)))))) fNil)) (kPut (.nm 17)))
 (gSeq (gPar 18 19 (mCall (md__law_drawn_term CL aH 5) (fCons (fVar true 1) (fCons (fVar true 4) (fCons (fC (.int (3))) fNil)))) (mCall (md__law_drawn_term CL aH 5) (fCons (fVar true 1) (fCons (fVar true 4) (fCons (fC (.int (2))) fNil)))))
 (gSeq (gBind (mCallP true (m_term_value CL aH) (fCons (fVar true 4) (fCons (fVar true 5) (fCons (fVar true 15) (fCons (fVar true 18) fNil))))) (kPut (.nm 20)))
 (gSeq (gIf (mOr (mNot (mTru (mCallP true (m_is_at_most CL aH) (fCons (fVar true 5) (fCons (fVar true 20) (fCons (mCallP true (m_term_value CL aH) (fCons (fVar true 4) (fCons (fVar true 5) (fCons (fVar true 17) (fCons (fVar true 18) fNil))))) fNil)))))) (mB (mOp gNe (mCallP true (m_term_value CL aH) (fCons (fVar true 4) (fCons (fVar true 7) (fCons (fVar true 15) (fCons (mCallP true (m_turned_term CL aH) (fCons (fVar true 4) (fCons (fVar true 18) fNil))) fNil))))) (fVar false 20)))) (gRet (fC (.bl false))) DL.gNil)
 (gSeq (gIf (mB (mOp gNe (mCallP true (m_is_so CL aH) (fCons (fVar true 4) (fCons (fVar true 7) (fCons (fVar true 15) (fCons (mCallP true (m_turned_term CL aH) (fCons (fVar true 4) (fCons (fVar true 19) fNil))) (fCons (mCallP true (m_turned_term CL aH) (fCons (fVar true 4) (fCons (fVar true 18) fNil))) fNil)))))) (mCallP true (m_is_so CL aH) (fCons (fVar true 4) (fCons (fVar true 5) (fCons (fVar true 15) (fCons (fVar true 18) (fCons (fVar true 19) fNil)))))))) (gRet (fC (.bl false))) DL.gNil)
 (gSeq (gBind (mCB gTuple (fCons (mLst (mLc [28] (.nm 28) (mSeq (fVar false 4)) fYes (mCall (md__law_drawn_term CL aH 5) (fCons (fVar true 1) (fCons (fVar true 4) (fCons (fC (.int (1))) fNil)))))) fNil)) (kPut (.nm 21)))
 (gSeq (gBind (mCB gTuple (fCons (mLst (mLc [9] (.nm 9) (mSeq (fVar false 21)) fYes (mCallP true (m_term_value CL aH) (fCons (fVar true 4) (fCons (fVar true 5) (fCons (fVar true 15) (fCons (fVar true 9) fNil))))))) fNil)) (kPut (.nm 22)))
 (gSeq (gBind (mCall (md__law_drawn_term CL aH 5) (fCons (fVar true 1) (fCons (fVar true 4) (fCons (fC (.int (2))) fNil)))) (kPut (.nm 23)))
 (gSeq (gIf (mB (mOp gNe (mCallP true (m_term_value CL aH) (fCons (fVar true 4) (fCons (fVar true 5) (fCons (fVar true 15) (fCons (mCallP true (m_put_in CL aH) (fCons (fVar true 4) (fCons (fVar true 23) (fCons (fVar true 21) fNil)))) fNil))))) (mCallP true (m_term_value CL aH) (fCons (fVar true 4) (fCons (fVar true 5) (fCons (fVar true 22) (fCons (fVar true 23) fNil))))))) (gRet (fC (.bl false))) DL.gNil)
 (gSeq (gBind (mCall (m__law_shuffled CL aH) (fCons (fVar true 1) (fCons (mLst (fRgL (fRg1 (fVar false 6)))) fNil))) (kPut (.nm 24)))
 (gSeq (gBind (mMake CL (mk_Lattice CL aH) (fCons (mCallP true (m__law_led_rows CL aH) (fCons (fVar true 3) (fCons (fVar true 24) fNil))) fNil)) (kPut (.nm 25)))
 (gIf (mB (mOp gNe (mCallP true (m_term_value CL aH) (fCons (fVar true 4) (fCons (fVar true 25) (fCons (mCB gTuple (fCons (mLst (mLc [9] (.nm 9) (mSeq (fVar false 15)) fYes (mOp gIx (fVar false 24) (fVar false 9)))) fNil)) (fCons (fVar true 18) fNil))))) (mOp gIx (fVar false 24) (fVar false 20)))) (gRet (fC (.bl false))) DL.gNil)))))))))))))))))
theorem lap_ok {x0 x2 x3 x4 x5 x6 x7 x8 x9 x10 x11 x12 x13 x14 x15 x16 x17 x18 x19 x20 x21 x22 x23 x24 x25 : Sl} (ok : PenOk p ns ar) : ∃ (ar' : Ar) (y2 y3 y4 y5 y6 y7 y8 y9 y10 y11 y12 y13 y14 y15 y16 y17 y18 y19 y20 y21 y22 y23 y24 y25 : Sl), gLap CL aH ⟨[x0, .va (.adr p), x2, x3, x4, x5, x6, x7, x8, x9, x10, x11, x12, x13, x14, x15, x16, x17, x18, x19, x20, x21, x22, x23, x24, x25, .no, .no, .no, .no, .no], ar⟩ = some (.nx ⟨[x0, .va (.adr p), y2, y3, y4, y5, y6, y7, y8, y9, y10, y11, y12, y13, y14, y15, y16, y17, y18, y19, y20, y21, y22, y23, y24, y25, .no, .no, .no, .no, .no], ar'⟩) ∧ PenOk p ns ar' := by
  obtain ⟨n, le, B, E, ar1, e1, hL, h1, hn, ok1⟩ := law_lattice_ok (CL := CL) (aH := aH) ok
  obtain ⟨cs, ar2, e2, nd, l1, l3, al, ok2⟩ := letters_ok (CL := CL) (aH := aH) ok1
  have hc := lts_of nd l1 l3 al
  obtain ⟨ar3, y8, a9, a10, a11, e3, ok3⟩ := st3 (CL := CL) (aH := aH) hL h1 hn hc ok2 (x0 := x0) (x2 := x2) (x8 := x8) (x9 := x9) (x10 := x10) (x11 := x11) (x12 := x12) (x13 := x13) (x14 := x14) (x15 := x15) (x16 := x16) (x17 := x17) (x18 := x18) (x19 := x19) (x20 := x20) (x21 := x21) (x22 := x22) (x23 := x23) (x24 := x24) (x25 := x25)
  obtain ⟨ar4, v, w, e4, ok4, hv, hw⟩ := st4 (CL := CL) (aH := aH) hL h1 hn hc ok3 (a9 := a9) (a10 := a10) (a11 := a11) (x0 := x0) (x2 := x2) (x8 := y8) (x15 := x15) (x16 := x16) (x17 := x17) (x18 := x18) (x19 := x19) (x20 := x20) (x21 := x21) (x22 := x22) (x23 := x23) (x24 := x24) (x25 := x25)
  obtain ⟨ar5, t, u, e5, ok5, ht, hu⟩ := st6 (CL := CL) (aH := aH) hL h1 hn hc ok4 (v := v) (w := w) (a9 := a9) (a10 := a10) (a11 := a11) (x0 := x0) (x2 := x2) (x8 := y8) (x18 := x18) (x19 := x19) (x20 := x20) (x21 := x21) (x22 := x22) (x23 := x23) (x24 := x24) (x25 := x25)
  obtain ⟨ar6, m, e6, ok6, hm⟩ := st10 (CL := CL) (aH := aH) hL h1 hn hc ok5 (v := v) (w := w) (t := t) (u := u) (a9 := a9) (a10 := a10) (a11 := a11) (x0 := x0) (x2 := x2) (x8 := y8) (x21 := x21) (x22 := x22) (x23 := x23) (x24 := x24) (x25 := x25)
  obtain ⟨ar7, z, e7, ok7, hz, hz3⟩ := st12 (CL := CL) (aH := aH) hL h1 hn hc ok6 (v := v) (w := w) (t := t) (u := u) (m := m) (a9 := a9) (a10 := a10) (a11 := a11) (x0 := x0) (x2 := x2) (x8 := y8) (x23 := x23) (x24 := x24) (x25 := x25)
  obtain ⟨ar8, l, e8, ok8, pl⟩ := st14 (CL := CL) (aH := aH) hL h1 hn hc ok7 (v := v) (w := w) (t := t) (u := u) (m := m) (z := z) (a9 := a9) (a10 := a10) (a11 := a11) (x0 := x0) (x2 := x2) (x8 := y8) (x24 := x24) (x25 := x25)
  obtain ⟨τ, Rn⟩ := ren_of pl
  refine ⟨ar8, x2, .va (.tup (rowsL n le)), .va (ltsD cs), .va (latD CL n le B E), .va (iD n), .va (latD CL n (fun a b => le b a) E B), y8, .va (iD a9), .va (iD a10), .va (iD a11), .va (iD (B a9 a10)), .va (iD (E a9 a10)), .va (.bl (decide (B a9 a10 = a9))), .va (imgD cs v), .va (imgD cs w), .va (imgD cs fun c => E (v c) (w c)), .va t.D, .va u.D, .va (iD (t.ev B E v)), .va (.tup (cs.map fun c => (m c).D)), .va (imgD cs fun c => (m c).ev B E v), .va z.D, .va (.lst (l.map iD)), .va (latD CL n (fun a b => le (τ a) (τ b)) (fun a b => sg l (B (τ a) (τ b))) (fun a b => sg l (E (τ a) (τ b)))), ?_, ok8⟩
  unfold gLap
  refine x_seq (s' := ⟨[x0, .va (.adr p), x2, .va (.tup (rowsL n le)), .va (ltsD cs), x5, x6, x7, x8, x9, x10, x11, x12, x13, x14, x15, x16, x17, x18, x19, x20, x21, x22, x23, x24, x25, .no, .no, .no, .no, .no], ar2⟩) (x_put (e_tup (e_cons (e_call (e_cons (e_var rfl) e_nil) e1) (e_cons (e_call (e_cons (e_var rfl) e_nil) e2) e_nil)) (Nat.le_of_ble_eq_true rfl)) rfl) ?_
  refine x_seq (st1 hL h1 hn hc) (x_seq (st2 hL h1 hn hc) (x_seq e3 (x_seq e4 (x_seq (st5 hL h1 hn hc hv hw) (x_seq e5 (x_seq (st7 hL h1 hn hc hv hw ht hu) (x_seq (st8 hL h1 hn hc hv hw ht hu) (x_seq (st9 hL h1 hn hc hv hw ht hu) (x_seq e6 (x_seq (st11 hL h1 hn hc hv hm) (x_seq e7 (x_seq (st13 hL h1 hn hc hv hm hz hz3) (x_seq e8 (x_seq (st15 hL h1 hn hc pl Rn) (st16 hL h1 hn hc hv ht pl Rn)))))))))))))))
theorem law_ok (ok : PenOk p ns ar) : ∃ ar', g_law CL aH ⟨.no :: .va (.adr p) :: List.replicate 29 .no, ar⟩ = some (.rt (.bl true) ar') := by
  have hf := for_inv (set := setT (.nm 2)) (f := fun i : Nat => D.int (i : Nat)) (g := gLap CL aH) (fun _ _ s => ∃ (ar' : Ar) (x2 x3 x4 x5 x6 x7 x8 x9 x10 x11 x12 x13 x14 x15 x16 x17 x18 x19 x20 x21 x22 x23 x24 x25 : Sl), s = ⟨[.no, .va (.adr p), x2, x3, x4, x5, x6, x7, x8, x9, x10, x11, x12, x13, x14, x15, x16, x17, x18, x19, x20, x21, x22, x23, x24, x25, .no, .no, .no, .no, .no], ar'⟩ ∧ PenOk p ns ar') (List.range 4) [] ⟨[.no, .va (.adr p), .no, .no, .no, .no, .no, .no, .no, .no, .no, .no, .no, .no, .no, .no, .no, .no, .no, .no, .no, .no, .no, .no, .no, .no, .no, .no, .no, .no, .no], ar⟩ ⟨ar, .no, .no, .no, .no, .no, .no, .no, .no, .no, .no, .no, .no, .no, .no, .no, .no, .no, .no, .no, .no, .no, .no, .no, .no, rfl, ok⟩ ?_
  · obtain ⟨s', e1, ar', x2, x3, x4, x5, x6, x7, x8, x9, x10, x11, x12, x13, x14, x15, x16, x17, x18, x19, x20, x21, x22, x23, x24, x25, rfl, ok'⟩ := hf
    refine ⟨ar', ?_⟩
    unfold g_law
    exact x_seq (x_for (e_rg (e_cons e_c e_nil) (rgN (n := 4) (by decide))) e1) (x_ret e_c)
  · rintro done i rest s ⟨ar1, x2, x3, x4, x5, x6, x7, x8, x9, x10, x11, x12, x13, x14, x15, x16, x17, x18, x19, x20, x21, x22, x23, x24, x25, rfl, ok1⟩
    obtain ⟨ar2, y2, y3, y4, y5, y6, y7, y8, y9, y10, y11, y12, y13, y14, y15, y16, y17, y18, y19, y20, y21, y22, y23, y24, y25, e, ok2⟩ := lap_ok (CL := CL) (aH := aH) ok1 (x0 := .no) (x2 := .va (.int (i : Nat))) (x3 := x3) (x4 := x4) (x5 := x5) (x6 := x6) (x7 := x7) (x8 := x8) (x9 := x9) (x10 := x10) (x11 := x11) (x12 := x12) (x13 := x13) (x14 := x14) (x15 := x15) (x16 := x16) (x17 := x17) (x18 := x18) (x19 := x19) (x20 := x20) (x21 := x21) (x22 := x22) (x23 := x23) (x24 := x24) (x25 := x25)
    exact ⟨_, _, rfl, e, ar2, y2, y3, y4, y5, y6, y7, y8, y9, y10, y11, y12, y13, y14, y15, y16, y17, y18, y19, y20, y21, y22, y23, y24, y25, rfl, ok2⟩
end
end K17
set_option Elab.async false
set_option linter.all false
set_option maxRecDepth 100000
namespace K17
open PySem L2 PySem.Spec PyProof.Rows DL DLk
section
variable {P : Program} {w : World} {K : PySem.W.Frag} {mg : Str → Option Value} {base : Heap}
/-! ### the pen: the script is a list that only its walk sees -/
def penKs : List Key := [.inr "cells", .inr "at", .inr "digits", .inr "count", .inr "fold"]
def penVs (q : Addr) (fold : Int) : List V := [.ref q, .int 0, .int 0, .int 0, .int fold]
def penKV (q : Addr) (fold : Int) : List (Key × V) := [(.inr "cells", .ref q), (.inr "at", .int 0), (.inr "digits", .int 0), (.inr "count", .int 0), (.inr "fold", .int fold)]
def spPen (K : PySem.W.Frag) : Sp := fun vs H Q _ => ∃ (a : Addr) (ns : List Int), vs = [.ref a] ∧ SqL K H a (ns.map V.int) ∧ ns.length ≤ 63 ∧
  ∀ (p q : Addr) (fold : Int) (H' : Hp), p ≠ q → (∀ b o, H b = some o → H' b = some o) → H' p = some (.dK (penKV q fold)) → H' q = some (.lst (ns.map V.int)) → Q (.ref p) H'
theorem sql_keep {K : PySem.W.Frag} {H H' : Hp} {a : Addr} {xs : List V} (h : SqL K H a xs) (k : ∀ b o, H b = some o → H' b = some o) : SqL K H' a xs := by
  rcases h with h | h
  · refine .inl ?_
    rcases h with h | ⟨o, h⟩
    · exact .inl (k _ _ h)
    · exact .inr ⟨o, k _ _ h⟩
  · exact .inr h
theorem merge_pen (q : Addr) (fold : Int) : mergeK [] (penKV q fold) = penKV q fold := by rfl
theorem ok_pen {f : Addr} {fd : FuncData} {CL : Addr} {a_HEADS : Addr} (T : Txt K mg CL a_HEADS) (F : L2.Fun K "_law_pen" "_law_pen" s__law_pen f fd) : FnOk P w K mg base L2.CX0 1 f fd ["script"] (spPen K) := by
  refine F.ok sc__law_pen (fun vs H Q E h => ?_) (fun cdv A outer s H vs Q E hr h => ?_)
  · obtain ⟨a, ns, rfl, _⟩ := h
    rfl
  · obtain ⟨a, ns, rfl, hS, hl, k⟩ := h
    have hu := hr.units
    have hN := sc__law_pen.nd
    refine ⟨_, pss_cons (ps_set (i := 1) hN rfl (Or.inl rfl) pe_int) (pss_cons (ps_for PassesOwn.never (by rfl) (pi_list (pv 0)) (pg_name (i := 2) hN rfl (Or.inl rfl)) (pss_one ((ds_set (i := 1) hN (de_op op_mod (v_mod (q1 := false) (q2 := false)) (de_callTy call_int1 (v_int (q1 := false)) (by rfl) T.b_int (by decide +kernel) (da_cons (de_op op_add4 (v_add (q1 := false) (q2 := false)) (de_op op_mul (v_mul (q1 := false) (q2 := false)) (dv 1) dc_int) (dv 2)) da_nil)) dc_int)) : DS _ L2.E0 _ _ _).pe))
      (pss_one (ps_ret (pe_disp (pps_cons pe_str (pe_callTy call_list_of (by rfl) T.b_list (by decide +kernel) (pa_cons (pv 0) pa_nil)) (pps_cons pe_str pe_int (pps_cons pe_str pe_int (pps_cons pe_str pe_int (pps_cons pe_str (pv 1) pps_nil))))) rfl rfl (by intro h; cases h) (by decide))))), ?_⟩
    refine ⟨.ref a, rfl, a, rfl, ⟨_, hS⟩, for_list (K := K) (a := a) (xs := ns.map V.int) (fun i σ H3 => ∃ (z : Int) (v : Option V), σ = [some (.ref a), some (.int z), v] ∧ H3 = H) ⟨0, none, rfl, rfl⟩ (fun i σ H3 _ h => by obtain ⟨z, v, rfl, rfl⟩ := h; exact hS) ?_ ?_⟩
    · rintro i x σ H3 hx ⟨z, v, rfl, rfl⟩
      obtain ⟨c, hc, rfl⟩ : ∃ c, ns[i]? = some c ∧ x = V.int c := by
        rw [List.getElem?_map] at hx
        cases e : ns[i]? with
        | none => rw [e] at hx; cases hx
        | some c => rw [e] at hx; exact ⟨c, rfl, (Option.some.inj hx).symm⟩
      refine ⟨.int z, rfl, z, 47, rfl, rfl, .inr ⟨by decide, by decide⟩, .int c, rfl, .inl ⟨z * 47, c, rfl, rfl, .inl ⟨_, rfl, _, _, rfl, rfl, (by show (0 : Int) < 1000000007; decide), ?_⟩⟩⟩
      exact ⟨_, some (.int c), rfl, rfl⟩
    · rintro σ H3 ⟨z, v, rfl, rfl⟩
      intro p hp
      have ex : ∀ b o, H3 b = some o → upd H3 p (.dK []) b = some o := fun b o h => by
        rw [upd_ne (ne_of_none h hp)]; exact h
      refine ⟨.ref a, rfl, a, ns.map V.int, rfl, .inl (sql_keep hS ex), fun q hq => ?_⟩
      have hpq : p ≠ q := fun e => by rw [e, upd_same] at hq; cases hq
      refine ⟨.int z, rfl, ?_, penKV q z, rfl, (by show 5 ≤ 15; decide), ?_⟩
      · show upd (upd H3 p (.dK [])) q _ p = _
        rw [upd_ne hpq, upd_same]
      · rw [merge_pen]
        refine k p q z _ hpq (fun b o h => ?_) upd_same ?_
        · rw [upd_ne (ne_of_none h hp), upd_ne (fun e => by have := ex b o h; rw [e, hq] at this; cases this)]
          exact ex b o h
        · show upd _ p _ q = _
          rw [upd_ne (Ne.symm hpq), upd_same]

theorem kit1 {K : PySem.W.Frag} {C : Addr} {a : String} {x : PySem.ClassData} (h1 : PySem.W.clsIn K C = some x) (h2 : PySem.W.typeIn K (.ref C) = some (.type "type")) (h3 : PySem.W.subIn K (.type a) (.ref C) = some false) : PySem.W.kitOne K (.type a) (.ref C) = some false := by
  unfold PySem.W.kitOne PySem.W.kitCls
  rw [if_neg (show ¬ ((Value.type a == Value.ref C) = true) from Bool.false_ne_true)]
  dsimp only
  rw [h1, h2, if_pos (by rfl)]
  exact h3
theorem kit2 {K : PySem.W.Frag} {C : Addr} {a : String} (hm : PySem.W.kitMeta a = true) (h3 : PySem.W.subIn K (.ref C) (.type a) = some false) : PySem.W.kitOne K (.ref C) (.type a) = some false := by
  unfold PySem.W.kitOne PySem.W.kitCls
  rw [if_neg (show ¬ ((Value.ref C == Value.type a) = true) from Bool.false_ne_true)]
  dsimp only
  rw [if_pos hm]
  exact h3
/-! ### the law's own promise -/
def spLaw (K : PySem.W.Frag) : Sp := fun vs H Q _ => ∃ (a : Addr) (ns : List Int), vs = [.ref a] ∧ SqL K H a (ns.map V.int) ∧ ns.length ≤ 63 ∧ ∀ H', Q (.bl true) H'
/-- the law's block behind its first statement, at any script -/
def Plain (CL : Addr) (a_HEADS : Addr) : Prop := ∀ (p : Addr) (ns : List Int) (fold : Int), ns.length ≤ 63 → ∃ ar', g_law CL a_HEADS ⟨.no :: .va (.adr p) :: List.replicate 29 .no, [(p, .dk penKs [.lst (ns.map D.int), .int 0, .int 0, .int 0, .int fold])]⟩ = some (.rt (.bl true) ar')
theorem ok_law {f fP : Addr} {fd fdP : FuncData} {CL : Addr} {a_HEADS : Addr} (T : Txt K mg CL a_HEADS) (F : L2.Fun K "law" "law" s_law f fd) (FP : L2.Fun K "_law_pen" "_law_pen" s__law_pen fP fdP) (hP : mg "_law_pen" = some (.ref fP)) (bP : Binds K fdP ["script"] [])  (C__law_draw : Fd P w K mg base 1 "_law_draw" 2 (m__law_draw CL a_HEADS)) (C__law_drawn_term : Fd P w K mg base 7 "_law_drawn_term" 3 (md__law_drawn_term CL a_HEADS 5)) (C__law_lattice : Fd P w K mg base 4 "_law_lattice" 1 (m__law_lattice CL a_HEADS)) (C__law_led_rows : Fd P w K mg base 1 "_law_led_rows" 2 (m__law_led_rows CL a_HEADS)) (C__law_letters : Fd P w K mg base 3 "_law_letters" 1 (m__law_letters CL a_HEADS)) (C__law_shuffled : Fd P w K mg base 2 "_law_shuffled" 2 (m__law_shuffled CL a_HEADS)) (C_both_of : Fd P w K mg base 5 "both_of" 3 (m_both_of CL a_HEADS)) (C_either_of : Fd P w K mg base 5 "either_of" 3 (m_either_of CL a_HEADS)) (C_is_at_most : Fd P w K mg base 5 "is_at_most" 3 (m_is_at_most CL a_HEADS)) (C_is_so : Fd P w K mg base 11 "is_so" 5 (m_is_so CL a_HEADS)) (C_put_in : Fd P w K mg base 11 "put_in" 3 (m_put_in CL a_HEADS)) (C_term_value : Fd P w K mg base 11 "term_value" 4 (m_term_value CL a_HEADS)) (C_turned_lattice : Fd P w K mg base 7 "turned_lattice" 1 (m_turned_lattice CL a_HEADS)) (C_turned_term : Fd P w K mg base 9 "turned_term" 2 (m_turned_term CL a_HEADS)) (M_Lattice : Cd P w K mg base 5 "Lattice" CL 1 (m_Lattice___init__ CL a_HEADS) (mk_Lattice CL a_HEADS)) (pl : Plain CL a_HEADS) :
    FnOk P w K mg base L2.CX0 12 f fd ["script"] (spLaw K) := by
  have GP : FnOk P w K mg base L2.CX0 1 fP fdP ["script"] (spPen K) := ok_pen T FP
  refine F.ok sc_law (fun vs H Q E h => ?_) (fun cdv A outer s H vs Q E hr h => ?_)
  · obtain ⟨a, ns, rfl, _⟩ := h
    rfl
  · obtain ⟨a, ns, rfl, hS, hl, k⟩ := h
    have hN := sc_law.nd
    obtain ⟨t, ht⟩ := bd_law T C__law_draw C__law_drawn_term C__law_lattice C__law_led_rows C__law_letters C__law_shuffled C_both_of C_either_of C_is_at_most C_is_so C_put_in C_term_value C_turned_lattice C_turned_term M_Lattice cdv A outer s H E hr
    refine ⟨_, pss_cons (ps_set (i := 1) hN rfl (Or.inr rfl) (pe_call GP (hr.mono (by decide)) (by rfl) hP FP.kp bP .nil L2.pass0 (pa_cons (pv 0) pa_nil)) rfl) ht.pe, ?_⟩
    refine ⟨.ref a, rfl, a, ns, rfl, hS, hl, fun p q fold H' hpq kp hp hq => ?_⟩
    obtain ⟨ar', hpl⟩ := pl p ns fold hl
    have hs0 : L2.start (["script", "pen", "lap", "rows", "letters", "made", "many", "turned", "turn", "one", "two", "three", "both", "either", "less", "images", "more", "over", "term", "other", "value", "terms", "led", "small", "order", "there", "at", "lap2", "sign", "first", "second"] : List Str) [V.ref a] = some (.ref a) :: none :: List.replicate 29 none := rfl
    refine ht.td { ban := fun _ => False, ars := [p], H0 := H', tr := fun _ => False } (List.replicate 31 none) _ _ H' _ _ ⟨rfl, rfl, fun i x hx => ?_, fun i j y h1 h2 => ?_, fun y hy => ?_, fun b hb => ?_, fun b o h _ => h, rfl, fun y hy => ?_, by simp, fun b h => h.elim⟩ hpl ?_
    · match i, hx with
      | 0, hx => cases hx; rfl
      | 1, hx => cases hx; exact ⟨rfl, .ref p, rfl, rfl⟩
      | i + 2, hx =>
        have hx : (List.replicate 29 Sl.no)[i]? = some x := hx
        rw [List.getElem?_replicate] at hx
        split at hx
        · cases hx
          show ((List.replicate 31 (none : Option Addr))[i + 2]?).join = none
          rw [List.getElem?_replicate]; split <;> rfl
        · cases hx
    · rw [List.getElem?_replicate] at h1
      split at h1 <;> cases h1
    · rw [List.mem_replicate] at hy
      cases hy.2
    · rcases hb with hb | hb
      · exact hb.elim
      · have : b = p := by simpa using hb
        rw [this, hp]; simp
    · have : y = (p, .dk penKs [.lst (ns.map D.int), .int 0, .int 0, .int 0, .int fold]) := by simpa using hy
      subst this
      refine ⟨by show 5 ≤ sizeLine; rw [sizeLine_eq]; decide, penKV q fold, hp, rfl, RepL.cons ⟨q, ns.map V.int, rfl, ?_, ⟨fun z => ?_, hq⟩, RepL.ofInts ns⟩ (RepL.cons rfl (RepL.cons rfl (RepL.cons rfl (RepL.cons rfl RepL.nil))))⟩
      · rw [List.length_map, sizeLine_eq]; omega
      · rcases F_rep z with z | z
        · exact z.elim
        · have : q = p := by simpa using z
          exact hpq this.symm
    · intro v H2 _ _ rv
      have : v = .bl true := rv
      rw [this]
      exact k H2

/-! ### what the top has written; the head -/
theorem all_mk {l : PySem.W.OpenLaw} {w : World} {K : PySem.W.Frag} {h : Heap} {mg : Str → Option Value} {fa : Addr} {CL : Addr} {a_HEADS : Addr} {f_is_whole f_is_index f_is_row f_is_order f_above_by f_common_of f_table_by f_are_rows f_need_lattice f_is_below f_both_by f_either_by f_need_element f_need_elements f_is_at_most f_both_of f_either_of f_turned_lattice f_are_letters f_need_letters f_is_node f_parts_by f_is_term_by f_need_own_term f_need_term f_nodes_by f_depth_by f_turned_by f_turned_term f_put_by f_need_small f_put_in f_are_images f_value_with f_value_by f_is_so_by f_need_images f_term_value f_is_so f__law_pen f__law_draw f__law_pick f__law_shuffled f__law_unlike f__law_letters f__law_drawn_term f__law_closed f__law_known_lattices f__law_led_rows f__law_lattice f_law f_Lattice___init__ : Addr} {od_is_whole an_is_whole od_is_index an_is_index od_is_row an_is_row od_is_order an_is_order od_above_by an_above_by od_common_of an_common_of od_table_by an_table_by od_are_rows an_are_rows od_need_lattice an_need_lattice od_is_below an_is_below od_both_by an_both_by od_either_by an_either_by od_need_element an_need_element od_need_elements an_need_elements od_is_at_most an_is_at_most od_both_of an_both_of od_either_of an_either_of od_turned_lattice an_turned_lattice od_are_letters an_are_letters od_need_letters an_need_letters od_is_node an_is_node od_parts_by an_parts_by od_is_term_by an_is_term_by od_need_own_term an_need_own_term od_need_term an_need_term od_nodes_by an_nodes_by od_depth_by an_depth_by od_turned_by an_turned_by od_turned_term an_turned_term od_put_by an_put_by od_need_small an_need_small od_put_in an_put_in od_are_images an_are_images od_value_with an_value_with od_value_by an_value_by od_is_so_by an_is_so_by od_need_images an_need_images od_term_value an_term_value od_is_so an_is_so od__law_pen an__law_pen od__law_draw an__law_draw od__law_pick an__law_pick od__law_shuffled an__law_shuffled od__law_unlike an__law_unlike od__law_letters an__law_letters od__law_drawn_term an__law_drawn_term od__law_closed an__law_closed od__law_known_lattices an__law_known_lattices od__law_led_rows an__law_led_rows od__law_lattice an__law_lattice od_law an_law od_Lattice___init__ an_Lattice___init__ : Option Addr} {sl_is_whole sl_is_index sl_is_row sl_is_order sl_above_by sl_common_of sl_table_by sl_are_rows sl_need_lattice sl_is_below sl_both_by sl_either_by sl_need_element sl_need_elements sl_is_at_most sl_both_of sl_either_of sl_turned_lattice sl_are_letters sl_need_letters sl_is_node sl_parts_by sl_is_term_by sl_need_own_term sl_need_term sl_nodes_by sl_depth_by sl_turned_by sl_turned_term sl_put_by sl_need_small sl_put_in sl_are_images sl_value_with sl_value_by sl_is_so_by sl_need_images sl_term_value sl_is_so sl__law_pen sl__law_draw sl__law_pick sl__law_shuffled sl__law_unlike sl__law_letters sl__law_drawn_term sl__law_closed sl__law_known_lattices sl__law_led_rows sl__law_lattice sl_law sl_Lattice___init__ : Array (Option Value)} {oc_is_whole kV_is_whole dc_is_whole pm_is_whole cd_is_whole ct_is_whole oc_is_index kV_is_index dc_is_index pm_is_index cd_is_index ct_is_index oc_is_row kV_is_row dc_is_row pm_is_row cd_is_row ct_is_row oc_is_order kV_is_order dc_is_order pm_is_order cd_is_order ct_is_order oc_above_by kV_above_by dc_above_by pm_above_by cd_above_by ct_above_by oc_common_of kV_common_of dc_common_of pm_common_of cd_common_of ct_common_of oc_table_by kV_table_by dc_table_by pm_table_by cd_table_by ct_table_by oc_are_rows kV_are_rows dc_are_rows pm_are_rows cd_are_rows ct_are_rows oc_need_lattice kV_need_lattice dc_need_lattice pm_need_lattice cd_need_lattice ct_need_lattice oc_is_below kV_is_below dc_is_below pm_is_below cd_is_below ct_is_below oc_both_by kV_both_by dc_both_by pm_both_by cd_both_by ct_both_by oc_either_by kV_either_by dc_either_by pm_either_by cd_either_by ct_either_by oc_need_element kV_need_element dc_need_element pm_need_element cd_need_element ct_need_element oc_need_elements kV_need_elements dc_need_elements pm_need_elements cd_need_elements ct_need_elements oc_is_at_most kV_is_at_most dc_is_at_most pm_is_at_most cd_is_at_most ct_is_at_most oc_both_of kV_both_of dc_both_of pm_both_of cd_both_of ct_both_of oc_either_of kV_either_of dc_either_of pm_either_of cd_either_of ct_either_of oc_turned_lattice kV_turned_lattice dc_turned_lattice pm_turned_lattice cd_turned_lattice ct_turned_lattice oc_are_letters kV_are_letters dc_are_letters pm_are_letters cd_are_letters ct_are_letters oc_need_letters kV_need_letters dc_need_letters pm_need_letters cd_need_letters ct_need_letters oc_is_node kV_is_node dc_is_node pm_is_node cd_is_node ct_is_node oc_parts_by kV_parts_by dc_parts_by pm_parts_by cd_parts_by ct_parts_by oc_is_term_by kV_is_term_by dc_is_term_by pm_is_term_by cd_is_term_by ct_is_term_by oc_need_own_term kV_need_own_term dc_need_own_term pm_need_own_term cd_need_own_term ct_need_own_term oc_need_term kV_need_term dc_need_term pm_need_term cd_need_term ct_need_term oc_nodes_by kV_nodes_by dc_nodes_by pm_nodes_by cd_nodes_by ct_nodes_by oc_depth_by kV_depth_by dc_depth_by pm_depth_by cd_depth_by ct_depth_by oc_turned_by kV_turned_by dc_turned_by pm_turned_by cd_turned_by ct_turned_by oc_turned_term kV_turned_term dc_turned_term pm_turned_term cd_turned_term ct_turned_term oc_put_by kV_put_by dc_put_by pm_put_by cd_put_by ct_put_by oc_need_small kV_need_small dc_need_small pm_need_small cd_need_small ct_need_small oc_put_in kV_put_in dc_put_in pm_put_in cd_put_in ct_put_in oc_are_images kV_are_images dc_are_images pm_are_images cd_are_images ct_are_images oc_value_with kV_value_with dc_value_with pm_value_with cd_value_with ct_value_with oc_value_by kV_value_by dc_value_by pm_value_by cd_value_by ct_value_by oc_is_so_by kV_is_so_by dc_is_so_by pm_is_so_by cd_is_so_by ct_is_so_by oc_need_images kV_need_images dc_need_images pm_need_images cd_need_images ct_need_images oc_term_value kV_term_value dc_term_value pm_term_value cd_term_value ct_term_value oc_is_so kV_is_so dc_is_so pm_is_so cd_is_so ct_is_so oc__law_pen kV__law_pen dc__law_pen pm__law_pen cd__law_pen ct__law_pen oc__law_draw kV__law_draw dc__law_draw pm__law_draw cd__law_draw ct__law_draw oc__law_pick kV__law_pick dc__law_pick pm__law_pick cd__law_pick ct__law_pick oc__law_shuffled kV__law_shuffled dc__law_shuffled pm__law_shuffled cd__law_shuffled ct__law_shuffled oc__law_unlike kV__law_unlike dc__law_unlike pm__law_unlike cd__law_unlike ct__law_unlike oc__law_letters kV__law_letters dc__law_letters pm__law_letters cd__law_letters ct__law_letters oc__law_drawn_term kV__law_drawn_term dc__law_drawn_term pm__law_drawn_term cd__law_drawn_term ct__law_drawn_term oc__law_closed kV__law_closed dc__law_closed pm__law_closed cd__law_closed ct__law_closed oc__law_known_lattices kV__law_known_lattices dc__law_known_lattices pm__law_known_lattices cd__law_known_lattices ct__law_known_lattices oc__law_led_rows kV__law_led_rows dc__law_led_rows pm__law_led_rows cd__law_led_rows ct__law_led_rows oc__law_lattice kV__law_lattice dc__law_lattice pm__law_lattice cd__law_lattice ct__law_lattice oc_law kV_law dc_law pm_law cd_law ct_law oc_Lattice___init__ kV_Lattice___init__ dc_Lattice___init__ pm_Lattice___init__ cd_Lattice___init__ ct_Lattice___init__ : Value} {t_ALL_LETTERS : Tok} {wd_HEADS : Option Addr} {wn_HEADS : Nat} {ws_HEADS : Array (Option Value)} {wt_HEADS_0 : Tok} {wt_HEADS_1 : Tok} {t_MOST_DEEP : Tok} {t_MOST_ELEMENTS : Tok} {t_MOST_LETTERS : Tok} {t_MOST_NODES : Tok} {cx_Lattice : PySem.ClassData} (plA : ∀ (CL : Addr) (a_HEADS : Addr), Plain CL a_HEADS) (X : K.In h) (G : h.Ns mainGlobals mg) (hfa : mg "law" = some (.ref fa))
    (a_is_whole : PySem.W.nsIn K mainGlobals "is_whole" = some (some (.ref f_is_whole)))
    (l_is_whole : K.lookup f_is_whole = some ⟨oc_is_whole, od_is_whole, .func (PySem.W.fnOf "is_whole" "is_whole" (defArgs s_is_whole) (defBody s_is_whole) (defScope s_is_whole) .none kV_is_whole dc_is_whole pm_is_whole an_is_whole cd_is_whole ct_is_whole), sl_is_whole⟩)
    (x_is_whole : PySem.W.codeIn K cd_is_whole "is_whole" = true)
    (k_is_whole : PySem.W.keepIn K (.ref f_is_whole) = true)
    (a_is_index : PySem.W.nsIn K mainGlobals "is_index" = some (some (.ref f_is_index)))
    (l_is_index : K.lookup f_is_index = some ⟨oc_is_index, od_is_index, .func (PySem.W.fnOf "is_index" "is_index" (defArgs s_is_index) (defBody s_is_index) (defScope s_is_index) .none kV_is_index dc_is_index pm_is_index an_is_index cd_is_index ct_is_index), sl_is_index⟩)
    (x_is_index : PySem.W.codeIn K cd_is_index "is_index" = true)
    (k_is_index : PySem.W.keepIn K (.ref f_is_index) = true)
    (a_is_row : PySem.W.nsIn K mainGlobals "is_row" = some (some (.ref f_is_row)))
    (l_is_row : K.lookup f_is_row = some ⟨oc_is_row, od_is_row, .func (PySem.W.fnOf "is_row" "is_row" (defArgs s_is_row) (defBody s_is_row) (defScope s_is_row) .none kV_is_row dc_is_row pm_is_row an_is_row cd_is_row ct_is_row), sl_is_row⟩)
    (x_is_row : PySem.W.codeIn K cd_is_row "is_row" = true)
    (k_is_row : PySem.W.keepIn K (.ref f_is_row) = true)
    (a_is_order : PySem.W.nsIn K mainGlobals "is_order" = some (some (.ref f_is_order)))
    (l_is_order : K.lookup f_is_order = some ⟨oc_is_order, od_is_order, .func (PySem.W.fnOf "is_order" "is_order" (defArgs s_is_order) (defBody s_is_order) (defScope s_is_order) .none kV_is_order dc_is_order pm_is_order an_is_order cd_is_order ct_is_order), sl_is_order⟩)
    (x_is_order : PySem.W.codeIn K cd_is_order "is_order" = true)
    (k_is_order : PySem.W.keepIn K (.ref f_is_order) = true)
    (a_above_by : PySem.W.nsIn K mainGlobals "above_by" = some (some (.ref f_above_by)))
    (l_above_by : K.lookup f_above_by = some ⟨oc_above_by, od_above_by, .func (PySem.W.fnOf "above_by" "above_by" (defArgs s_above_by) (defBody s_above_by) (defScope s_above_by) .none kV_above_by dc_above_by pm_above_by an_above_by cd_above_by ct_above_by), sl_above_by⟩)
    (x_above_by : PySem.W.codeIn K cd_above_by "above_by" = true)
    (k_above_by : PySem.W.keepIn K (.ref f_above_by) = true)
    (a_common_of : PySem.W.nsIn K mainGlobals "common_of" = some (some (.ref f_common_of)))
    (l_common_of : K.lookup f_common_of = some ⟨oc_common_of, od_common_of, .func (PySem.W.fnOf "common_of" "common_of" (defArgs s_common_of) (defBody s_common_of) (defScope s_common_of) .none kV_common_of dc_common_of pm_common_of an_common_of cd_common_of ct_common_of), sl_common_of⟩)
    (x_common_of : PySem.W.codeIn K cd_common_of "common_of" = true)
    (k_common_of : PySem.W.keepIn K (.ref f_common_of) = true)
    (a_table_by : PySem.W.nsIn K mainGlobals "table_by" = some (some (.ref f_table_by)))
    (l_table_by : K.lookup f_table_by = some ⟨oc_table_by, od_table_by, .func (PySem.W.fnOf "table_by" "table_by" (defArgs s_table_by) (defBody s_table_by) (defScope s_table_by) .none kV_table_by dc_table_by pm_table_by an_table_by cd_table_by ct_table_by), sl_table_by⟩)
    (x_table_by : PySem.W.codeIn K cd_table_by "table_by" = true)
    (k_table_by : PySem.W.keepIn K (.ref f_table_by) = true)
    (a_are_rows : PySem.W.nsIn K mainGlobals "are_rows" = some (some (.ref f_are_rows)))
    (l_are_rows : K.lookup f_are_rows = some ⟨oc_are_rows, od_are_rows, .func (PySem.W.fnOf "are_rows" "are_rows" (defArgs s_are_rows) (defBody s_are_rows) (defScope s_are_rows) .none kV_are_rows dc_are_rows pm_are_rows an_are_rows cd_are_rows ct_are_rows), sl_are_rows⟩)
    (x_are_rows : PySem.W.codeIn K cd_are_rows "are_rows" = true)
    (k_are_rows : PySem.W.keepIn K (.ref f_are_rows) = true)
    (a_need_lattice : PySem.W.nsIn K mainGlobals "need_lattice" = some (some (.ref f_need_lattice)))
    (l_need_lattice : K.lookup f_need_lattice = some ⟨oc_need_lattice, od_need_lattice, .func (PySem.W.fnOf "need_lattice" "need_lattice" (defArgs s_need_lattice) (defBody s_need_lattice) (defScope s_need_lattice) .none kV_need_lattice dc_need_lattice pm_need_lattice an_need_lattice cd_need_lattice ct_need_lattice), sl_need_lattice⟩)
    (x_need_lattice : PySem.W.codeIn K cd_need_lattice "need_lattice" = true)
    (k_need_lattice : PySem.W.keepIn K (.ref f_need_lattice) = true)
    (a_is_below : PySem.W.nsIn K mainGlobals "is_below" = some (some (.ref f_is_below)))
    (l_is_below : K.lookup f_is_below = some ⟨oc_is_below, od_is_below, .func (PySem.W.fnOf "is_below" "is_below" (defArgs s_is_below) (defBody s_is_below) (defScope s_is_below) .none kV_is_below dc_is_below pm_is_below an_is_below cd_is_below ct_is_below), sl_is_below⟩)
    (x_is_below : PySem.W.codeIn K cd_is_below "is_below" = true)
    (k_is_below : PySem.W.keepIn K (.ref f_is_below) = true)
    (a_both_by : PySem.W.nsIn K mainGlobals "both_by" = some (some (.ref f_both_by)))
    (l_both_by : K.lookup f_both_by = some ⟨oc_both_by, od_both_by, .func (PySem.W.fnOf "both_by" "both_by" (defArgs s_both_by) (defBody s_both_by) (defScope s_both_by) .none kV_both_by dc_both_by pm_both_by an_both_by cd_both_by ct_both_by), sl_both_by⟩)
    (x_both_by : PySem.W.codeIn K cd_both_by "both_by" = true)
    (k_both_by : PySem.W.keepIn K (.ref f_both_by) = true)
    (a_either_by : PySem.W.nsIn K mainGlobals "either_by" = some (some (.ref f_either_by)))
    (l_either_by : K.lookup f_either_by = some ⟨oc_either_by, od_either_by, .func (PySem.W.fnOf "either_by" "either_by" (defArgs s_either_by) (defBody s_either_by) (defScope s_either_by) .none kV_either_by dc_either_by pm_either_by an_either_by cd_either_by ct_either_by), sl_either_by⟩)
    (x_either_by : PySem.W.codeIn K cd_either_by "either_by" = true)
    (k_either_by : PySem.W.keepIn K (.ref f_either_by) = true)
    (a_need_element : PySem.W.nsIn K mainGlobals "need_element" = some (some (.ref f_need_element)))
    (l_need_element : K.lookup f_need_element = some ⟨oc_need_element, od_need_element, .func (PySem.W.fnOf "need_element" "need_element" (defArgs s_need_element) (defBody s_need_element) (defScope s_need_element) .none kV_need_element dc_need_element pm_need_element an_need_element cd_need_element ct_need_element), sl_need_element⟩)
    (x_need_element : PySem.W.codeIn K cd_need_element "need_element" = true)
    (k_need_element : PySem.W.keepIn K (.ref f_need_element) = true)
    (a_need_elements : PySem.W.nsIn K mainGlobals "need_elements" = some (some (.ref f_need_elements)))
    (l_need_elements : K.lookup f_need_elements = some ⟨oc_need_elements, od_need_elements, .func (PySem.W.fnOf "need_elements" "need_elements" (defArgs s_need_elements) (defBody s_need_elements) (defScope s_need_elements) .none kV_need_elements dc_need_elements pm_need_elements an_need_elements cd_need_elements ct_need_elements), sl_need_elements⟩)
    (x_need_elements : PySem.W.codeIn K cd_need_elements "need_elements" = true)
    (k_need_elements : PySem.W.keepIn K (.ref f_need_elements) = true)
    (a_is_at_most : PySem.W.nsIn K mainGlobals "is_at_most" = some (some (.ref f_is_at_most)))
    (l_is_at_most : K.lookup f_is_at_most = some ⟨oc_is_at_most, od_is_at_most, .func (PySem.W.fnOf "is_at_most" "is_at_most" (defArgs s_is_at_most) (defBody s_is_at_most) (defScope s_is_at_most) .none kV_is_at_most dc_is_at_most pm_is_at_most an_is_at_most cd_is_at_most ct_is_at_most), sl_is_at_most⟩)
    (x_is_at_most : PySem.W.codeIn K cd_is_at_most "is_at_most" = true)
    (k_is_at_most : PySem.W.keepIn K (.ref f_is_at_most) = true)
    (a_both_of : PySem.W.nsIn K mainGlobals "both_of" = some (some (.ref f_both_of)))
    (l_both_of : K.lookup f_both_of = some ⟨oc_both_of, od_both_of, .func (PySem.W.fnOf "both_of" "both_of" (defArgs s_both_of) (defBody s_both_of) (defScope s_both_of) .none kV_both_of dc_both_of pm_both_of an_both_of cd_both_of ct_both_of), sl_both_of⟩)
    (x_both_of : PySem.W.codeIn K cd_both_of "both_of" = true)
    (k_both_of : PySem.W.keepIn K (.ref f_both_of) = true)
    (a_either_of : PySem.W.nsIn K mainGlobals "either_of" = some (some (.ref f_either_of)))
    (l_either_of : K.lookup f_either_of = some ⟨oc_either_of, od_either_of, .func (PySem.W.fnOf "either_of" "either_of" (defArgs s_either_of) (defBody s_either_of) (defScope s_either_of) .none kV_either_of dc_either_of pm_either_of an_either_of cd_either_of ct_either_of), sl_either_of⟩)
    (x_either_of : PySem.W.codeIn K cd_either_of "either_of" = true)
    (k_either_of : PySem.W.keepIn K (.ref f_either_of) = true)
    (a_turned_lattice : PySem.W.nsIn K mainGlobals "turned_lattice" = some (some (.ref f_turned_lattice)))
    (l_turned_lattice : K.lookup f_turned_lattice = some ⟨oc_turned_lattice, od_turned_lattice, .func (PySem.W.fnOf "turned_lattice" "turned_lattice" (defArgs s_turned_lattice) (defBody s_turned_lattice) (defScope s_turned_lattice) .none kV_turned_lattice dc_turned_lattice pm_turned_lattice an_turned_lattice cd_turned_lattice ct_turned_lattice), sl_turned_lattice⟩)
    (x_turned_lattice : PySem.W.codeIn K cd_turned_lattice "turned_lattice" = true)
    (k_turned_lattice : PySem.W.keepIn K (.ref f_turned_lattice) = true)
    (a_are_letters : PySem.W.nsIn K mainGlobals "are_letters" = some (some (.ref f_are_letters)))
    (l_are_letters : K.lookup f_are_letters = some ⟨oc_are_letters, od_are_letters, .func (PySem.W.fnOf "are_letters" "are_letters" (defArgs s_are_letters) (defBody s_are_letters) (defScope s_are_letters) .none kV_are_letters dc_are_letters pm_are_letters an_are_letters cd_are_letters ct_are_letters), sl_are_letters⟩)
    (x_are_letters : PySem.W.codeIn K cd_are_letters "are_letters" = true)
    (k_are_letters : PySem.W.keepIn K (.ref f_are_letters) = true)
    (a_need_letters : PySem.W.nsIn K mainGlobals "need_letters" = some (some (.ref f_need_letters)))
    (l_need_letters : K.lookup f_need_letters = some ⟨oc_need_letters, od_need_letters, .func (PySem.W.fnOf "need_letters" "need_letters" (defArgs s_need_letters) (defBody s_need_letters) (defScope s_need_letters) .none kV_need_letters dc_need_letters pm_need_letters an_need_letters cd_need_letters ct_need_letters), sl_need_letters⟩)
    (x_need_letters : PySem.W.codeIn K cd_need_letters "need_letters" = true)
    (k_need_letters : PySem.W.keepIn K (.ref f_need_letters) = true)
    (a_is_node : PySem.W.nsIn K mainGlobals "is_node" = some (some (.ref f_is_node)))
    (l_is_node : K.lookup f_is_node = some ⟨oc_is_node, od_is_node, .func (PySem.W.fnOf "is_node" "is_node" (defArgs s_is_node) (defBody s_is_node) (defScope s_is_node) .none kV_is_node dc_is_node pm_is_node an_is_node cd_is_node ct_is_node), sl_is_node⟩)
    (x_is_node : PySem.W.codeIn K cd_is_node "is_node" = true)
    (k_is_node : PySem.W.keepIn K (.ref f_is_node) = true)
    (a_parts_by : PySem.W.nsIn K mainGlobals "parts_by" = some (some (.ref f_parts_by)))
    (l_parts_by : K.lookup f_parts_by = some ⟨oc_parts_by, od_parts_by, .func (PySem.W.fnOf "parts_by" "parts_by" (defArgs s_parts_by) (defBody s_parts_by) (defScope s_parts_by) .none kV_parts_by dc_parts_by pm_parts_by an_parts_by cd_parts_by ct_parts_by), sl_parts_by⟩)
    (x_parts_by : PySem.W.codeIn K cd_parts_by "parts_by" = true)
    (k_parts_by : PySem.W.keepIn K (.ref f_parts_by) = true)
    (a_is_term_by : PySem.W.nsIn K mainGlobals "is_term_by" = some (some (.ref f_is_term_by)))
    (l_is_term_by : K.lookup f_is_term_by = some ⟨oc_is_term_by, od_is_term_by, .func (PySem.W.fnOf "is_term_by" "is_term_by" (defArgs s_is_term_by) (defBody s_is_term_by) (defScope s_is_term_by) .none kV_is_term_by dc_is_term_by pm_is_term_by an_is_term_by cd_is_term_by ct_is_term_by), sl_is_term_by⟩)
    (x_is_term_by : PySem.W.codeIn K cd_is_term_by "is_term_by" = true)
    (k_is_term_by : PySem.W.keepIn K (.ref f_is_term_by) = true)
    (a_need_own_term : PySem.W.nsIn K mainGlobals "need_own_term" = some (some (.ref f_need_own_term)))
    (l_need_own_term : K.lookup f_need_own_term = some ⟨oc_need_own_term, od_need_own_term, .func (PySem.W.fnOf "need_own_term" "need_own_term" (defArgs s_need_own_term) (defBody s_need_own_term) (defScope s_need_own_term) .none kV_need_own_term dc_need_own_term pm_need_own_term an_need_own_term cd_need_own_term ct_need_own_term), sl_need_own_term⟩)
    (x_need_own_term : PySem.W.codeIn K cd_need_own_term "need_own_term" = true)
    (k_need_own_term : PySem.W.keepIn K (.ref f_need_own_term) = true)
    (a_need_term : PySem.W.nsIn K mainGlobals "need_term" = some (some (.ref f_need_term)))
    (l_need_term : K.lookup f_need_term = some ⟨oc_need_term, od_need_term, .func (PySem.W.fnOf "need_term" "need_term" (defArgs s_need_term) (defBody s_need_term) (defScope s_need_term) .none kV_need_term dc_need_term pm_need_term an_need_term cd_need_term ct_need_term), sl_need_term⟩)
    (x_need_term : PySem.W.codeIn K cd_need_term "need_term" = true)
    (k_need_term : PySem.W.keepIn K (.ref f_need_term) = true)
    (a_nodes_by : PySem.W.nsIn K mainGlobals "nodes_by" = some (some (.ref f_nodes_by)))
    (l_nodes_by : K.lookup f_nodes_by = some ⟨oc_nodes_by, od_nodes_by, .func (PySem.W.fnOf "nodes_by" "nodes_by" (defArgs s_nodes_by) (defBody s_nodes_by) (defScope s_nodes_by) .none kV_nodes_by dc_nodes_by pm_nodes_by an_nodes_by cd_nodes_by ct_nodes_by), sl_nodes_by⟩)
    (x_nodes_by : PySem.W.codeIn K cd_nodes_by "nodes_by" = true)
    (k_nodes_by : PySem.W.keepIn K (.ref f_nodes_by) = true)
    (a_depth_by : PySem.W.nsIn K mainGlobals "depth_by" = some (some (.ref f_depth_by)))
    (l_depth_by : K.lookup f_depth_by = some ⟨oc_depth_by, od_depth_by, .func (PySem.W.fnOf "depth_by" "depth_by" (defArgs s_depth_by) (defBody s_depth_by) (defScope s_depth_by) .none kV_depth_by dc_depth_by pm_depth_by an_depth_by cd_depth_by ct_depth_by), sl_depth_by⟩)
    (x_depth_by : PySem.W.codeIn K cd_depth_by "depth_by" = true)
    (k_depth_by : PySem.W.keepIn K (.ref f_depth_by) = true)
    (a_turned_by : PySem.W.nsIn K mainGlobals "turned_by" = some (some (.ref f_turned_by)))
    (l_turned_by : K.lookup f_turned_by = some ⟨oc_turned_by, od_turned_by, .func (PySem.W.fnOf "turned_by" "turned_by" (defArgs s_turned_by) (defBody s_turned_by) (defScope s_turned_by) .none kV_turned_by dc_turned_by pm_turned_by an_turned_by cd_turned_by ct_turned_by), sl_turned_by⟩)
    (x_turned_by : PySem.W.codeIn K cd_turned_by "turned_by" = true)
    (k_turned_by : PySem.W.keepIn K (.ref f_turned_by) = true)
    (a_turned_term : PySem.W.nsIn K mainGlobals "turned_term" = some (some (.ref f_turned_term)))
    (l_turned_term : K.lookup f_turned_term = some ⟨oc_turned_term, od_turned_term, .func (PySem.W.fnOf "turned_term" "turned_term" (defArgs s_turned_term) (defBody s_turned_term) (defScope s_turned_term) .none kV_turned_term dc_turned_term pm_turned_term an_turned_term cd_turned_term ct_turned_term), sl_turned_term⟩)
    (x_turned_term : PySem.W.codeIn K cd_turned_term "turned_term" = true)
    (k_turned_term : PySem.W.keepIn K (.ref f_turned_term) = true)
    (a_put_by : PySem.W.nsIn K mainGlobals "put_by" = some (some (.ref f_put_by)))
    (l_put_by : K.lookup f_put_by = some ⟨oc_put_by, od_put_by, .func (PySem.W.fnOf "put_by" "put_by" (defArgs s_put_by) (defBody s_put_by) (defScope s_put_by) .none kV_put_by dc_put_by pm_put_by an_put_by cd_put_by ct_put_by), sl_put_by⟩)
    (x_put_by : PySem.W.codeIn K cd_put_by "put_by" = true)
    (k_put_by : PySem.W.keepIn K (.ref f_put_by) = true)
    (a_need_small : PySem.W.nsIn K mainGlobals "need_small" = some (some (.ref f_need_small)))
    (l_need_small : K.lookup f_need_small = some ⟨oc_need_small, od_need_small, .func (PySem.W.fnOf "need_small" "need_small" (defArgs s_need_small) (defBody s_need_small) (defScope s_need_small) .none kV_need_small dc_need_small pm_need_small an_need_small cd_need_small ct_need_small), sl_need_small⟩)
    (x_need_small : PySem.W.codeIn K cd_need_small "need_small" = true)
    (k_need_small : PySem.W.keepIn K (.ref f_need_small) = true)
    (a_put_in : PySem.W.nsIn K mainGlobals "put_in" = some (some (.ref f_put_in)))
    (l_put_in : K.lookup f_put_in = some ⟨oc_put_in, od_put_in, .func (PySem.W.fnOf "put_in" "put_in" (defArgs s_put_in) (defBody s_put_in) (defScope s_put_in) .none kV_put_in dc_put_in pm_put_in an_put_in cd_put_in ct_put_in), sl_put_in⟩)
    (x_put_in : PySem.W.codeIn K cd_put_in "put_in" = true)
    (k_put_in : PySem.W.keepIn K (.ref f_put_in) = true)
    (a_are_images : PySem.W.nsIn K mainGlobals "are_images" = some (some (.ref f_are_images)))
    (l_are_images : K.lookup f_are_images = some ⟨oc_are_images, od_are_images, .func (PySem.W.fnOf "are_images" "are_images" (defArgs s_are_images) (defBody s_are_images) (defScope s_are_images) .none kV_are_images dc_are_images pm_are_images an_are_images cd_are_images ct_are_images), sl_are_images⟩)
    (x_are_images : PySem.W.codeIn K cd_are_images "are_images" = true)
    (k_are_images : PySem.W.keepIn K (.ref f_are_images) = true)
    (a_value_with : PySem.W.nsIn K mainGlobals "value_with" = some (some (.ref f_value_with)))
    (l_value_with : K.lookup f_value_with = some ⟨oc_value_with, od_value_with, .func (PySem.W.fnOf "value_with" "value_with" (defArgs s_value_with) (defBody s_value_with) (defScope s_value_with) .none kV_value_with dc_value_with pm_value_with an_value_with cd_value_with ct_value_with), sl_value_with⟩)
    (x_value_with : PySem.W.codeIn K cd_value_with "value_with" = true)
    (k_value_with : PySem.W.keepIn K (.ref f_value_with) = true)
    (a_value_by : PySem.W.nsIn K mainGlobals "value_by" = some (some (.ref f_value_by)))
    (l_value_by : K.lookup f_value_by = some ⟨oc_value_by, od_value_by, .func (PySem.W.fnOf "value_by" "value_by" (defArgs s_value_by) (defBody s_value_by) (defScope s_value_by) .none kV_value_by dc_value_by pm_value_by an_value_by cd_value_by ct_value_by), sl_value_by⟩)
    (x_value_by : PySem.W.codeIn K cd_value_by "value_by" = true)
    (k_value_by : PySem.W.keepIn K (.ref f_value_by) = true)
    (a_is_so_by : PySem.W.nsIn K mainGlobals "is_so_by" = some (some (.ref f_is_so_by)))
    (l_is_so_by : K.lookup f_is_so_by = some ⟨oc_is_so_by, od_is_so_by, .func (PySem.W.fnOf "is_so_by" "is_so_by" (defArgs s_is_so_by) (defBody s_is_so_by) (defScope s_is_so_by) .none kV_is_so_by dc_is_so_by pm_is_so_by an_is_so_by cd_is_so_by ct_is_so_by), sl_is_so_by⟩)
    (x_is_so_by : PySem.W.codeIn K cd_is_so_by "is_so_by" = true)
    (k_is_so_by : PySem.W.keepIn K (.ref f_is_so_by) = true)
    (a_need_images : PySem.W.nsIn K mainGlobals "need_images" = some (some (.ref f_need_images)))
    (l_need_images : K.lookup f_need_images = some ⟨oc_need_images, od_need_images, .func (PySem.W.fnOf "need_images" "need_images" (defArgs s_need_images) (defBody s_need_images) (defScope s_need_images) .none kV_need_images dc_need_images pm_need_images an_need_images cd_need_images ct_need_images), sl_need_images⟩)
    (x_need_images : PySem.W.codeIn K cd_need_images "need_images" = true)
    (k_need_images : PySem.W.keepIn K (.ref f_need_images) = true)
    (a_term_value : PySem.W.nsIn K mainGlobals "term_value" = some (some (.ref f_term_value)))
    (l_term_value : K.lookup f_term_value = some ⟨oc_term_value, od_term_value, .func (PySem.W.fnOf "term_value" "term_value" (defArgs s_term_value) (defBody s_term_value) (defScope s_term_value) .none kV_term_value dc_term_value pm_term_value an_term_value cd_term_value ct_term_value), sl_term_value⟩)
    (x_term_value : PySem.W.codeIn K cd_term_value "term_value" = true)
    (k_term_value : PySem.W.keepIn K (.ref f_term_value) = true)
    (a_is_so : PySem.W.nsIn K mainGlobals "is_so" = some (some (.ref f_is_so)))
    (l_is_so : K.lookup f_is_so = some ⟨oc_is_so, od_is_so, .func (PySem.W.fnOf "is_so" "is_so" (defArgs s_is_so) (defBody s_is_so) (defScope s_is_so) .none kV_is_so dc_is_so pm_is_so an_is_so cd_is_so ct_is_so), sl_is_so⟩)
    (x_is_so : PySem.W.codeIn K cd_is_so "is_so" = true)
    (k_is_so : PySem.W.keepIn K (.ref f_is_so) = true)
    (a__law_pen : PySem.W.nsIn K mainGlobals "_law_pen" = some (some (.ref f__law_pen)))
    (l__law_pen : K.lookup f__law_pen = some ⟨oc__law_pen, od__law_pen, .func (PySem.W.fnOf "_law_pen" "_law_pen" (defArgs s__law_pen) (defBody s__law_pen) (defScope s__law_pen) .none kV__law_pen dc__law_pen pm__law_pen an__law_pen cd__law_pen ct__law_pen), sl__law_pen⟩)
    (x__law_pen : PySem.W.codeIn K cd__law_pen "_law_pen" = true)
    (k__law_pen : PySem.W.keepIn K (.ref f__law_pen) = true)
    (a__law_draw : PySem.W.nsIn K mainGlobals "_law_draw" = some (some (.ref f__law_draw)))
    (l__law_draw : K.lookup f__law_draw = some ⟨oc__law_draw, od__law_draw, .func (PySem.W.fnOf "_law_draw" "_law_draw" (defArgs s__law_draw) (defBody s__law_draw) (defScope s__law_draw) .none kV__law_draw dc__law_draw pm__law_draw an__law_draw cd__law_draw ct__law_draw), sl__law_draw⟩)
    (x__law_draw : PySem.W.codeIn K cd__law_draw "_law_draw" = true)
    (k__law_draw : PySem.W.keepIn K (.ref f__law_draw) = true)
    (a__law_pick : PySem.W.nsIn K mainGlobals "_law_pick" = some (some (.ref f__law_pick)))
    (l__law_pick : K.lookup f__law_pick = some ⟨oc__law_pick, od__law_pick, .func (PySem.W.fnOf "_law_pick" "_law_pick" (defArgs s__law_pick) (defBody s__law_pick) (defScope s__law_pick) .none kV__law_pick dc__law_pick pm__law_pick an__law_pick cd__law_pick ct__law_pick), sl__law_pick⟩)
    (x__law_pick : PySem.W.codeIn K cd__law_pick "_law_pick" = true)
    (k__law_pick : PySem.W.keepIn K (.ref f__law_pick) = true)
    (a__law_shuffled : PySem.W.nsIn K mainGlobals "_law_shuffled" = some (some (.ref f__law_shuffled)))
    (l__law_shuffled : K.lookup f__law_shuffled = some ⟨oc__law_shuffled, od__law_shuffled, .func (PySem.W.fnOf "_law_shuffled" "_law_shuffled" (defArgs s__law_shuffled) (defBody s__law_shuffled) (defScope s__law_shuffled) .none kV__law_shuffled dc__law_shuffled pm__law_shuffled an__law_shuffled cd__law_shuffled ct__law_shuffled), sl__law_shuffled⟩)
    (x__law_shuffled : PySem.W.codeIn K cd__law_shuffled "_law_shuffled" = true)
    (k__law_shuffled : PySem.W.keepIn K (.ref f__law_shuffled) = true)
    (a__law_unlike : PySem.W.nsIn K mainGlobals "_law_unlike" = some (some (.ref f__law_unlike)))
    (l__law_unlike : K.lookup f__law_unlike = some ⟨oc__law_unlike, od__law_unlike, .func (PySem.W.fnOf "_law_unlike" "_law_unlike" (defArgs s__law_unlike) (defBody s__law_unlike) (defScope s__law_unlike) .none kV__law_unlike dc__law_unlike pm__law_unlike an__law_unlike cd__law_unlike ct__law_unlike), sl__law_unlike⟩)
    (x__law_unlike : PySem.W.codeIn K cd__law_unlike "_law_unlike" = true)
    (k__law_unlike : PySem.W.keepIn K (.ref f__law_unlike) = true)
    (a__law_letters : PySem.W.nsIn K mainGlobals "_law_letters" = some (some (.ref f__law_letters)))
    (l__law_letters : K.lookup f__law_letters = some ⟨oc__law_letters, od__law_letters, .func (PySem.W.fnOf "_law_letters" "_law_letters" (defArgs s__law_letters) (defBody s__law_letters) (defScope s__law_letters) .none kV__law_letters dc__law_letters pm__law_letters an__law_letters cd__law_letters ct__law_letters), sl__law_letters⟩)
    (x__law_letters : PySem.W.codeIn K cd__law_letters "_law_letters" = true)
    (k__law_letters : PySem.W.keepIn K (.ref f__law_letters) = true)
    (a__law_drawn_term : PySem.W.nsIn K mainGlobals "_law_drawn_term" = some (some (.ref f__law_drawn_term)))
    (l__law_drawn_term : K.lookup f__law_drawn_term = some ⟨oc__law_drawn_term, od__law_drawn_term, .func (PySem.W.fnOf "_law_drawn_term" "_law_drawn_term" (defArgs s__law_drawn_term) (defBody s__law_drawn_term) (defScope s__law_drawn_term) .none kV__law_drawn_term dc__law_drawn_term pm__law_drawn_term an__law_drawn_term cd__law_drawn_term ct__law_drawn_term), sl__law_drawn_term⟩)
    (x__law_drawn_term : PySem.W.codeIn K cd__law_drawn_term "_law_drawn_term" = true)
    (k__law_drawn_term : PySem.W.keepIn K (.ref f__law_drawn_term) = true)
    (a__law_closed : PySem.W.nsIn K mainGlobals "_law_closed" = some (some (.ref f__law_closed)))
    (l__law_closed : K.lookup f__law_closed = some ⟨oc__law_closed, od__law_closed, .func (PySem.W.fnOf "_law_closed" "_law_closed" (defArgs s__law_closed) (defBody s__law_closed) (defScope s__law_closed) .none kV__law_closed dc__law_closed pm__law_closed an__law_closed cd__law_closed ct__law_closed), sl__law_closed⟩)
    (x__law_closed : PySem.W.codeIn K cd__law_closed "_law_closed" = true)
    (k__law_closed : PySem.W.keepIn K (.ref f__law_closed) = true)
    (a__law_known_lattices : PySem.W.nsIn K mainGlobals "_law_known_lattices" = some (some (.ref f__law_known_lattices)))
    (l__law_known_lattices : K.lookup f__law_known_lattices = some ⟨oc__law_known_lattices, od__law_known_lattices, .func (PySem.W.fnOf "_law_known_lattices" "_law_known_lattices" (defArgs s__law_known_lattices) (defBody s__law_known_lattices) (defScope s__law_known_lattices) .none kV__law_known_lattices dc__law_known_lattices pm__law_known_lattices an__law_known_lattices cd__law_known_lattices ct__law_known_lattices), sl__law_known_lattices⟩)
    (x__law_known_lattices : PySem.W.codeIn K cd__law_known_lattices "_law_known_lattices" = true)
    (k__law_known_lattices : PySem.W.keepIn K (.ref f__law_known_lattices) = true)
    (a__law_led_rows : PySem.W.nsIn K mainGlobals "_law_led_rows" = some (some (.ref f__law_led_rows)))
    (l__law_led_rows : K.lookup f__law_led_rows = some ⟨oc__law_led_rows, od__law_led_rows, .func (PySem.W.fnOf "_law_led_rows" "_law_led_rows" (defArgs s__law_led_rows) (defBody s__law_led_rows) (defScope s__law_led_rows) .none kV__law_led_rows dc__law_led_rows pm__law_led_rows an__law_led_rows cd__law_led_rows ct__law_led_rows), sl__law_led_rows⟩)
    (x__law_led_rows : PySem.W.codeIn K cd__law_led_rows "_law_led_rows" = true)
    (k__law_led_rows : PySem.W.keepIn K (.ref f__law_led_rows) = true)
    (a__law_lattice : PySem.W.nsIn K mainGlobals "_law_lattice" = some (some (.ref f__law_lattice)))
    (l__law_lattice : K.lookup f__law_lattice = some ⟨oc__law_lattice, od__law_lattice, .func (PySem.W.fnOf "_law_lattice" "_law_lattice" (defArgs s__law_lattice) (defBody s__law_lattice) (defScope s__law_lattice) .none kV__law_lattice dc__law_lattice pm__law_lattice an__law_lattice cd__law_lattice ct__law_lattice), sl__law_lattice⟩)
    (x__law_lattice : PySem.W.codeIn K cd__law_lattice "_law_lattice" = true)
    (k__law_lattice : PySem.W.keepIn K (.ref f__law_lattice) = true)
    (a_law : PySem.W.nsIn K mainGlobals "law" = some (some (.ref f_law)))
    (l_law : K.lookup f_law = some ⟨oc_law, od_law, .func (PySem.W.fnOf "law" "law" (defArgs s_law) (defBody s_law) (defScope s_law) .none kV_law dc_law pm_law an_law cd_law ct_law), sl_law⟩)
    (x_law : PySem.W.codeIn K cd_law "law" = true)
    (k_law : PySem.W.keepIn K (.ref f_law) = true)
    (aC_Lattice : PySem.W.nsIn K mainGlobals "Lattice" = some (some (.ref CL)))
    (i_Lattice : PySem.W.findIn K (.ref CL) "__init__" = some (some (.ref f_Lattice___init__)))
    (fn_Lattice : PySem.W.isFn K (.ref f_Lattice___init__) = true)
    (l_Lattice___init__ : K.lookup f_Lattice___init__ = some ⟨oc_Lattice___init__, od_Lattice___init__, .func (PySem.W.fnOf "__init__" "Lattice.__init__" (defArgs s_Lattice___init__) (defBody s_Lattice___init__) (defScope s_Lattice___init__) .none kV_Lattice___init__ dc_Lattice___init__ pm_Lattice___init__ an_Lattice___init__ cd_Lattice___init__ ct_Lattice___init__), sl_Lattice___init__⟩)
    (x_Lattice___init__ : PySem.W.codeIn K cd_Lattice___init__ "Lattice.__init__" = true)
    (k_Lattice___init__ : PySem.W.keepIn K (.ref f_Lattice___init__) = true)
    (pg_Lattice : PySem.W.plainGet K CL Str.empty = true)
    (hd_Lattice : PySem.W.hasDictIn K CL = true)
    (po_Lattice : PySem.W.plainOver K CL = true)
    (sa_Lattice : PySem.W.findIn K (.ref CL) "__setattr__" = some (some (.builtin "object.__setattr__")))
    (mk_Lattice_ : PySem.W.makesIn K CL = true)
    (kc_Lattice : PySem.W.keepIn K (.ref CL) = true)
    (ha_Lattice : PySem.W.findIn K (.ref CL) "__class__" = some (some (.builtin "object.__class__")))
    (hn_Lattice : PySem.W.specialIn K (.builtin "object.__class__") "__get__" = some (some (.builtin "getset_descriptor.__get__")))
    (ht_Lattice : PySem.W.takesIn K (.builtin "object.__class__") = some true)
    (hm_Lattice : PySem.W.mroIn K CL (.type "object") = some true)
    (ci_Lattice : PySem.W.clsIn K CL = some cx_Lattice)
    (ty_Lattice : PySem.W.typeIn K (.ref CL) = some (.type "type"))
    (t_Lattice_NoneType : PySem.W.subIn K (.type "NoneType") (.ref CL) = some false)
    (t_Lattice_bool : PySem.W.subIn K (.type "bool") (.ref CL) = some false)
    (t_Lattice_int : PySem.W.subIn K (.type "int") (.ref CL) = some false)
    (t_Lattice_str : PySem.W.subIn K (.type "str") (.ref CL) = some false)
    (t_Lattice_tuple : PySem.W.subIn K (.type "tuple") (.ref CL) = some false)
    (t_Lattice_list : PySem.W.subIn K (.type "list") (.ref CL) = some false)
    (t_Lattice_dict : PySem.W.subIn K (.type "dict") (.ref CL) = some false)
    (o_Lattice_bool : PySem.W.subIn K (.ref CL) (.type "bool") = some false)
    (o_Lattice_int : PySem.W.subIn K (.ref CL) (.type "int") = some false)
    (o_Lattice_str : PySem.W.subIn K (.ref CL) (.type "str") = some false)
    (o_Lattice_tuple : PySem.W.subIn K (.ref CL) (.type "tuple") = some false)
    (o_Lattice_list : PySem.W.subIn K (.ref CL) (.type "list") = some false)
    (o_Lattice_dict : PySem.W.subIn K (.ref CL) (.type "dict") = some false)
    (nf_both : PySem.W.findIn K (.ref CL) "both" = some none)
    (nf_either : PySem.W.findIn K (.ref CL) "either" = some none)
    (nf_rows : PySem.W.findIn K (.ref CL) "rows" = some none)
    (b_all : PySem.W.nsIn K mainGlobals "all" = some none)
    (b_bool : PySem.W.nsIn K mainGlobals "bool" = some none)
    (b_dict : PySem.W.nsIn K mainGlobals "dict" = some none)
    (b_enumerate : PySem.W.nsIn K mainGlobals "enumerate" = some none)
    (b_int : PySem.W.nsIn K mainGlobals "int" = some none)
    (b_isinstance : PySem.W.nsIn K mainGlobals "isinstance" = some none)
    (b_len : PySem.W.nsIn K mainGlobals "len" = some none)
    (b_list : PySem.W.nsIn K mainGlobals "list" = some none)
    (b_max : PySem.W.nsIn K mainGlobals "max" = some none)
    (b_range : PySem.W.nsIn K mainGlobals "range" = some none)
    (b_sorted : PySem.W.nsIn K mainGlobals "sorted" = some none)
    (b_str : PySem.W.nsIn K mainGlobals "str" = some none)
    (b_tuple : PySem.W.nsIn K mainGlobals "tuple" = some none)
    (b_zip : PySem.W.nsIn K mainGlobals "zip" = some none)
    (n_ALL_LETTERS : PySem.W.nsIn K mainGlobals "ALL_LETTERS" = some (some (.str "abcdefghijklmnopqrstuvwxyz" t_ALL_LETTERS)))
    (n_HEADS : PySem.W.nsIn K mainGlobals "HEADS" = some (some (.ref a_HEADS)))
    (w_HEADS : K.lookup a_HEADS = some ⟨.type "tuple", wd_HEADS, .seq #[.str "both" wt_HEADS_0, .str "either" wt_HEADS_1] wn_HEADS, ws_HEADS⟩)
    (n_MOST_DEEP : PySem.W.nsIn K mainGlobals "MOST_DEEP" = some (some (.int 12 t_MOST_DEEP)))
    (n_MOST_ELEMENTS : PySem.W.nsIn K mainGlobals "MOST_ELEMENTS" = some (some (.int 60 t_MOST_ELEMENTS)))
    (n_MOST_LETTERS : PySem.W.nsIn K mainGlobals "MOST_LETTERS" = some (some (.int 6 t_MOST_LETTERS)))
    (n_MOST_NODES : PySem.W.nsIn K mainGlobals "MOST_NODES" = some (some (.int 40 t_MOST_NODES))) :
    ∃ fd : FuncData, (∀ (s : Shared) (v : Value), BindsTo s fd ⟨[v], []⟩ [("script", v)]) ∧ ∀ base : Heap, K.In base → base.Ns mainGlobals mg → FnOk l.prog w K mg base L2.CX0 12 fa fd ["script"] (spLaw K) := by
  have e := hfa.symm.trans (PySem.W.mg_of X G a_law)
  cases e
  have pl := plA CL a_HEADS
  have T : Txt K mg CL a_HEADS := {
    b_all := PySem.W.mg_none_of X G b_all,
    b_bool := PySem.W.mg_none_of X G b_bool,
    b_dict := PySem.W.mg_none_of X G b_dict,
    b_enumerate := PySem.W.mg_none_of X G b_enumerate,
    b_int := PySem.W.mg_none_of X G b_int,
    b_isinstance := PySem.W.mg_none_of X G b_isinstance,
    b_len := PySem.W.mg_none_of X G b_len,
    b_list := PySem.W.mg_none_of X G b_list,
    b_max := PySem.W.mg_none_of X G b_max,
    b_range := PySem.W.mg_none_of X G b_range,
    b_sorted := PySem.W.mg_none_of X G b_sorted,
    b_str := PySem.W.mg_none_of X G b_str,
    b_tuple := PySem.W.mg_none_of X G b_tuple,
    b_zip := PySem.W.mg_none_of X G b_zip,
    c_ALL_LETTERS := ⟨_, PySem.W.mg_of X G n_ALL_LETTERS⟩,
    c_HEADS := ⟨PySem.W.mg_of X G n_HEADS, ⟨_, _, _, w_HEADS, rfl, rfl, (by show _ ≤ sizeLine; rw [sizeLine_eq]; exact Nat.le_of_ble_eq_true rfl), (show Vals [V.str "both", V.str "either"] [Value.str "both" wt_HEADS_0, Value.str "either" wt_HEADS_1] from .cons ⟨_, rfl⟩ (.cons ⟨_, rfl⟩ (.nil)))⟩⟩,
    c_MOST_DEEP := ⟨_, PySem.W.mg_of X G n_MOST_DEEP⟩,
    c_MOST_ELEMENTS := ⟨_, PySem.W.mg_of X G n_MOST_ELEMENTS⟩,
    c_MOST_LETTERS := ⟨_, PySem.W.mg_of X G n_MOST_LETTERS⟩,
    c_MOST_NODES := ⟨_, PySem.W.mg_of X G n_MOST_NODES⟩,
    c_Lattice := PySem.W.mg_of X G aC_Lattice,
    cl_Lattice := ⟨pg_Lattice, hd_Lattice, po_Lattice, sa_Lattice⟩,
    isi_Lattice := ⟨⟨⟨pg_Lattice, hd_Lattice, po_Lattice, sa_Lattice⟩, ha_Lattice, hn_Lattice, ht_Lattice, hm_Lattice⟩, (by
      intro a h
      simp only [tys, List.mem_cons, List.not_mem_nil, or_false] at h
      rcases h with rfl | rfl | rfl | rfl | rfl | rfl | rfl
      · exact kit1 ci_Lattice ty_Lattice t_Lattice_NoneType
      · exact kit1 ci_Lattice ty_Lattice t_Lattice_bool
      · exact kit1 ci_Lattice ty_Lattice t_Lattice_int
      · exact kit1 ci_Lattice ty_Lattice t_Lattice_str
      · exact kit1 ci_Lattice ty_Lattice t_Lattice_tuple
      · exact kit1 ci_Lattice ty_Lattice t_Lattice_list
      · exact kit1 ci_Lattice ty_Lattice t_Lattice_dict), (by
      intro b h
      simp only [List.mem_cons, List.not_mem_nil, or_false] at h
      rcases h with rfl | rfl | rfl | rfl | rfl | rfl
      · exact kit2 (by decide +kernel) o_Lattice_bool
      · exact kit2 (by decide +kernel) o_Lattice_int
      · exact kit2 (by decide +kernel) o_Lattice_str
      · exact kit2 (by decide +kernel) o_Lattice_tuple
      · exact kit2 (by decide +kernel) o_Lattice_list
      · exact kit2 (by decide +kernel) o_Lattice_dict)⟩,
    n_Lattice_both := nf_both,
    n_Lattice_either := nf_either,
    n_Lattice_rows := nf_rows }
  have F_is_whole := fun_mk (st := s_is_whole) l_is_whole x_is_whole k_is_whole
  have F_is_index := fun_mk (st := s_is_index) l_is_index x_is_index k_is_index
  have F_is_row := fun_mk (st := s_is_row) l_is_row x_is_row k_is_row
  have F_is_order := fun_mk (st := s_is_order) l_is_order x_is_order k_is_order
  have F_above_by := fun_mk (st := s_above_by) l_above_by x_above_by k_above_by
  have F_common_of := fun_mk (st := s_common_of) l_common_of x_common_of k_common_of
  have F_table_by := fun_mk (st := s_table_by) l_table_by x_table_by k_table_by
  have F_are_rows := fun_mk (st := s_are_rows) l_are_rows x_are_rows k_are_rows
  have F_need_lattice := fun_mk (st := s_need_lattice) l_need_lattice x_need_lattice k_need_lattice
  have F_is_below := fun_mk (st := s_is_below) l_is_below x_is_below k_is_below
  have F_both_by := fun_mk (st := s_both_by) l_both_by x_both_by k_both_by
  have F_either_by := fun_mk (st := s_either_by) l_either_by x_either_by k_either_by
  have F_need_element := fun_mk (st := s_need_element) l_need_element x_need_element k_need_element
  have F_need_elements := fun_mk (st := s_need_elements) l_need_elements x_need_elements k_need_elements
  have F_is_at_most := fun_mk (st := s_is_at_most) l_is_at_most x_is_at_most k_is_at_most
  have F_both_of := fun_mk (st := s_both_of) l_both_of x_both_of k_both_of
  have F_either_of := fun_mk (st := s_either_of) l_either_of x_either_of k_either_of
  have F_turned_lattice := fun_mk (st := s_turned_lattice) l_turned_lattice x_turned_lattice k_turned_lattice
  have F_are_letters := fun_mk (st := s_are_letters) l_are_letters x_are_letters k_are_letters
  have F_need_letters := fun_mk (st := s_need_letters) l_need_letters x_need_letters k_need_letters
  have F_is_node := fun_mk (st := s_is_node) l_is_node x_is_node k_is_node
  have F_parts_by := fun_mk (st := s_parts_by) l_parts_by x_parts_by k_parts_by
  have F_is_term_by := fun_mk (st := s_is_term_by) l_is_term_by x_is_term_by k_is_term_by
  have F_need_own_term := fun_mk (st := s_need_own_term) l_need_own_term x_need_own_term k_need_own_term
  have F_need_term := fun_mk (st := s_need_term) l_need_term x_need_term k_need_term
  have F_nodes_by := fun_mk (st := s_nodes_by) l_nodes_by x_nodes_by k_nodes_by
  have F_depth_by := fun_mk (st := s_depth_by) l_depth_by x_depth_by k_depth_by
  have F_turned_by := fun_mk (st := s_turned_by) l_turned_by x_turned_by k_turned_by
  have F_turned_term := fun_mk (st := s_turned_term) l_turned_term x_turned_term k_turned_term
  have F_put_by := fun_mk (st := s_put_by) l_put_by x_put_by k_put_by
  have F_need_small := fun_mk (st := s_need_small) l_need_small x_need_small k_need_small
  have F_put_in := fun_mk (st := s_put_in) l_put_in x_put_in k_put_in
  have F_are_images := fun_mk (st := s_are_images) l_are_images x_are_images k_are_images
  have F_value_with := fun_mk (st := s_value_with) l_value_with x_value_with k_value_with
  have F_value_by := fun_mk (st := s_value_by) l_value_by x_value_by k_value_by
  have F_is_so_by := fun_mk (st := s_is_so_by) l_is_so_by x_is_so_by k_is_so_by
  have F_need_images := fun_mk (st := s_need_images) l_need_images x_need_images k_need_images
  have F_term_value := fun_mk (st := s_term_value) l_term_value x_term_value k_term_value
  have F_is_so := fun_mk (st := s_is_so) l_is_so x_is_so k_is_so
  have F__law_pen := fun_mk (st := s__law_pen) l__law_pen x__law_pen k__law_pen
  have F__law_draw := fun_mk (st := s__law_draw) l__law_draw x__law_draw k__law_draw
  have F__law_pick := fun_mk (st := s__law_pick) l__law_pick x__law_pick k__law_pick
  have F__law_shuffled := fun_mk (st := s__law_shuffled) l__law_shuffled x__law_shuffled k__law_shuffled
  have F__law_unlike := fun_mk (st := s__law_unlike) l__law_unlike x__law_unlike k__law_unlike
  have F__law_letters := fun_mk (st := s__law_letters) l__law_letters x__law_letters k__law_letters
  have F__law_drawn_term := fun_mk (st := s__law_drawn_term) l__law_drawn_term x__law_drawn_term k__law_drawn_term
  have F__law_closed := fun_mk (st := s__law_closed) l__law_closed x__law_closed k__law_closed
  have F__law_known_lattices := fun_mk (st := s__law_known_lattices) l__law_known_lattices x__law_known_lattices k__law_known_lattices
  have F__law_led_rows := fun_mk (st := s__law_led_rows) l__law_led_rows x__law_led_rows k__law_led_rows
  have F__law_lattice := fun_mk (st := s__law_lattice) l__law_lattice x__law_lattice k__law_lattice
  have F_law := fun_mk (st := s_law) l_law x_law k_law
  have F_Lattice___init__ := fun_mk (st := s_Lattice___init__) l_Lattice___init__ x_Lattice___init__ k_Lattice___init__
  refine ⟨PySem.W.fnOf "law" "law" (defArgs s_law) (defBody s_law) (defScope s_law) .none kV_law dc_law pm_law an_law cd_law ct_law, fun s v => .of_eq rfl, fun base _ _ => ?_⟩
  have C_is_whole : Fd l.prog w K mg base 1 "is_whole" 1 (m_is_whole CL a_HEADS) := fd_is_whole T F_is_whole (PySem.W.mg_of X G a_is_whole)
  have C_is_index : Fd l.prog w K mg base 2 "is_index" 2 (m_is_index CL a_HEADS) := fd_is_index T F_is_index (PySem.W.mg_of X G a_is_index) C_is_whole
  have C_is_row : Fd l.prog w K mg base 3 "is_row" 3 (m_is_row CL a_HEADS) := fd_is_row T F_is_row (PySem.W.mg_of X G a_is_row) C_is_index
  have C_is_order : Fd l.prog w K mg base 1 "is_order" 1 (m_is_order CL a_HEADS) := fd_is_order T F_is_order (PySem.W.mg_of X G a_is_order)
  have C_above_by : Fd l.prog w K mg base 1 "above_by" 2 (m_above_by CL a_HEADS) := fd_above_by T F_above_by (PySem.W.mg_of X G a_above_by)
  have C_common_of : Fd l.prog w K mg base 1 "common_of" 2 (m_common_of CL a_HEADS) := fd_common_of T F_common_of (PySem.W.mg_of X G a_common_of)
  have C_table_by : Fd l.prog w K mg base 2 "table_by" 1 (m_table_by CL a_HEADS) := fd_table_by T F_table_by (PySem.W.mg_of X G a_table_by) C_common_of
  have C_are_rows : Fd l.prog w K mg base 4 "are_rows" 1 (m_are_rows CL a_HEADS) := fd_are_rows T F_are_rows (PySem.W.mg_of X G a_are_rows) C_is_order C_is_row
  have C_need_lattice : Fd l.prog w K mg base 1 "need_lattice" 1 (m_need_lattice CL a_HEADS) := fd_need_lattice T F_need_lattice (PySem.W.mg_of X G a_need_lattice)
  have C_is_below : Fd l.prog w K mg base 1 "is_below" 3 (m_is_below CL a_HEADS) := fd_is_below T F_is_below (PySem.W.mg_of X G a_is_below)
  have C_both_by : Fd l.prog w K mg base 1 "both_by" 3 (m_both_by CL a_HEADS) := fd_both_by T F_both_by (PySem.W.mg_of X G a_both_by)
  have C_either_by : Fd l.prog w K mg base 1 "either_by" 3 (m_either_by CL a_HEADS) := fd_either_by T F_either_by (PySem.W.mg_of X G a_either_by)
  have C_need_element : Fd l.prog w K mg base 3 "need_element" 3 (m_need_element CL a_HEADS) := fd_need_element T F_need_element (PySem.W.mg_of X G a_need_element) C_is_index
  have C_need_elements : Fd l.prog w K mg base 4 "need_elements" 3 (m_need_elements CL a_HEADS) := fd_need_elements T F_need_elements (PySem.W.mg_of X G a_need_elements) C_need_element C_need_lattice
  have C_is_at_most : Fd l.prog w K mg base 5 "is_at_most" 3 (m_is_at_most CL a_HEADS) := fd_is_at_most T F_is_at_most (PySem.W.mg_of X G a_is_at_most) C_is_below C_need_elements
  have C_both_of : Fd l.prog w K mg base 5 "both_of" 3 (m_both_of CL a_HEADS) := fd_both_of T F_both_of (PySem.W.mg_of X G a_both_of) C_both_by C_need_elements
  have C_either_of : Fd l.prog w K mg base 5 "either_of" 3 (m_either_of CL a_HEADS) := fd_either_of T F_either_of (PySem.W.mg_of X G a_either_of) C_either_by C_need_elements
  have M_Lattice : Cd l.prog w K mg base 5 "Lattice" CL 1 (m_Lattice___init__ CL a_HEADS) (mk_Lattice CL a_HEADS) := ⟨⟨_, _, ["self", "rows"], fk_Lattice___init__ T F_Lattice___init__ C_above_by C_are_rows C_table_by, ⟨mk_Lattice_, i_Lattice, fn_Lattice, kc_Lattice⟩, T.c_Lattice, F_Lattice___init__.binds (ps := ["self", "rows"]) fun _ _ _ _ _ _ us hl => match us, hl with | [_, _], _ => rfl⟩, fun y ds ns xs _ h => mkOf_ok y ds ns xs h⟩
  have C_turned_lattice : Fd l.prog w K mg base 7 "turned_lattice" 1 (m_turned_lattice CL a_HEADS) := fd_turned_lattice T F_turned_lattice (PySem.W.mg_of X G a_turned_lattice) C_above_by C_need_lattice M_Lattice
  have C_are_letters : Fd l.prog w K mg base 1 "are_letters" 1 (m_are_letters CL a_HEADS) := fd_are_letters T F_are_letters (PySem.W.mg_of X G a_are_letters)
  have C_need_letters : Fd l.prog w K mg base 2 "need_letters" 1 (m_need_letters CL a_HEADS) := fd_need_letters T F_need_letters (PySem.W.mg_of X G a_need_letters) C_are_letters
  have C_is_node : Fd l.prog w K mg base 1 "is_node" 2 (m_is_node CL a_HEADS) := fd_is_node T F_is_node (PySem.W.mg_of X G a_is_node)
  have C_parts_by : Fd l.prog w K mg base 1 "parts_by" 1 (m_parts_by CL a_HEADS) := fd_parts_by T F_parts_by (PySem.W.mg_of X G a_parts_by)
  have C_is_term_by : Fd l.prog w K mg base 2 "is_term_by" 2 (m_is_term_by CL a_HEADS) := fd_is_term_by T F_is_term_by (PySem.W.mg_of X G a_is_term_by) C_is_node C_parts_by
  have C_need_own_term : Fd l.prog w K mg base 3 "need_own_term" 3 (m_need_own_term CL a_HEADS) := fd_need_own_term T F_need_own_term (PySem.W.mg_of X G a_need_own_term) C_is_term_by
  have C_need_term : Fd l.prog w K mg base 4 "need_term" 2 (m_need_term CL a_HEADS) := fd_need_term T F_need_term (PySem.W.mg_of X G a_need_term) C_need_letters C_need_own_term
  have C_nodes_by : Fd l.prog w K mg base 9 "nodes_by" 1 (md_nodes_by CL a_HEADS 8) := fdd_nodes_by T F_nodes_by (PySem.W.mg_of X G a_nodes_by) C_parts_by 8
  have C_depth_by : Fd l.prog w K mg base 9 "depth_by" 1 (md_depth_by CL a_HEADS 8) := fdd_depth_by T F_depth_by (PySem.W.mg_of X G a_depth_by) C_parts_by 8
  have C_turned_by : Fd l.prog w K mg base 8 "turned_by" 1 (md_turned_by CL a_HEADS 8) := fdd_turned_by T F_turned_by (PySem.W.mg_of X G a_turned_by) 8
  have C_turned_term : Fd l.prog w K mg base 9 "turned_term" 2 (m_turned_term CL a_HEADS) := fd_turned_term T F_turned_term (PySem.W.mg_of X G a_turned_term) C_need_term C_turned_by
  have C_put_by : Fd l.prog w K mg base 8 "put_by" 2 (md_put_by CL a_HEADS 8) := fdd_put_by T F_put_by (PySem.W.mg_of X G a_put_by) 8
  have C_need_small : Fd l.prog w K mg base 10 "need_small" 1 (m_need_small CL a_HEADS) := fd_need_small T F_need_small (PySem.W.mg_of X G a_need_small) C_depth_by C_nodes_by
  have C_put_in : Fd l.prog w K mg base 11 "put_in" 3 (m_put_in CL a_HEADS) := fd_put_in T F_put_in (PySem.W.mg_of X G a_put_in) C_is_term_by C_need_small C_need_term C_put_by
  have C_are_images : Fd l.prog w K mg base 3 "are_images" 3 (m_are_images CL a_HEADS) := fd_are_images T F_are_images (PySem.W.mg_of X G a_are_images) C_is_index
  have C_value_with : Fd l.prog w K mg base 9 "value_with" 3 (md_value_with CL a_HEADS 8) := fdd_value_with T F_value_with (PySem.W.mg_of X G a_value_with) C_both_by C_either_by 8
  have C_value_by : Fd l.prog w K mg base 10 "value_by" 4 (m_value_by CL a_HEADS) := fd_value_by T F_value_by (PySem.W.mg_of X G a_value_by) C_value_with
  have C_is_so_by : Fd l.prog w K mg base 10 "is_so_by" 4 (m_is_so_by CL a_HEADS) := fd_is_so_by T F_is_so_by (PySem.W.mg_of X G a_is_so_by) C_is_below C_value_with
  have C_need_images : Fd l.prog w K mg base 4 "need_images" 3 (m_need_images CL a_HEADS) := fd_need_images T F_need_images (PySem.W.mg_of X G a_need_images) C_are_images
  have C_term_value : Fd l.prog w K mg base 11 "term_value" 4 (m_term_value CL a_HEADS) := fd_term_value T F_term_value (PySem.W.mg_of X G a_term_value) C_need_images C_need_lattice C_need_letters C_need_own_term C_value_by
  have C_is_so : Fd l.prog w K mg base 11 "is_so" 5 (m_is_so CL a_HEADS) := fd_is_so T F_is_so (PySem.W.mg_of X G a_is_so) C_is_so_by C_need_images C_need_lattice C_need_letters C_need_own_term
  have C__law_draw : Fd l.prog w K mg base 1 "_law_draw" 2 (m__law_draw CL a_HEADS) := fd__law_draw T F__law_draw (PySem.W.mg_of X G a__law_draw)
  have C__law_pick : Fd l.prog w K mg base 2 "_law_pick" 2 (m__law_pick CL a_HEADS) := fd__law_pick T F__law_pick (PySem.W.mg_of X G a__law_pick) C__law_draw
  have C__law_shuffled : Fd l.prog w K mg base 2 "_law_shuffled" 2 (m__law_shuffled CL a_HEADS) := fd__law_shuffled T F__law_shuffled (PySem.W.mg_of X G a__law_shuffled) C__law_draw
  have C__law_unlike : Fd l.prog w K mg base 1 "_law_unlike" 1 (m__law_unlike CL a_HEADS) := fd__law_unlike T F__law_unlike (PySem.W.mg_of X G a__law_unlike)
  have C__law_letters : Fd l.prog w K mg base 3 "_law_letters" 1 (m__law_letters CL a_HEADS) := fd__law_letters T F__law_letters (PySem.W.mg_of X G a__law_letters) C__law_draw C__law_shuffled
  have C__law_drawn_term : Fd l.prog w K mg base 7 "_law_drawn_term" 3 (md__law_drawn_term CL a_HEADS 5) := fdd__law_drawn_term T F__law_drawn_term (PySem.W.mg_of X G a__law_drawn_term) C__law_draw C__law_pick 5
  have C__law_closed : Fd l.prog w K mg base 2 "_law_closed" 2 (m__law_closed CL a_HEADS) := fd__law_closed T F__law_closed (PySem.W.mg_of X G a__law_closed) C__law_unlike
  have C__law_known_lattices : Fd l.prog w K mg base 3 "_law_known_lattices" 0 (m__law_known_lattices CL a_HEADS) := fd__law_known_lattices T F__law_known_lattices (PySem.W.mg_of X G a__law_known_lattices) C__law_closed
  have C__law_led_rows : Fd l.prog w K mg base 1 "_law_led_rows" 2 (m__law_led_rows CL a_HEADS) := fd__law_led_rows T F__law_led_rows (PySem.W.mg_of X G a__law_led_rows)
  have C__law_lattice : Fd l.prog w K mg base 4 "_law_lattice" 1 (m__law_lattice CL a_HEADS) := fd__law_lattice T F__law_lattice (PySem.W.mg_of X G a__law_lattice) C__law_known_lattices C__law_led_rows C__law_pick C__law_shuffled
  exact ok_law T F_law F__law_pen (PySem.W.mg_of X G a__law_pen) (F__law_pen.binds (ps := ["script"]) fun _ _ _ _ _ _ us hl => match us, hl with | [_], _ => rfl) C__law_draw C__law_drawn_term C__law_lattice C__law_led_rows C__law_letters C__law_shuffled C_both_of C_either_of C_is_at_most C_is_so C_put_in C_term_value C_turned_lattice C_turned_term M_Lattice pl
theorem walk {l : PySem.W.OpenLaw} {q : Program} {loose : List Str} {XP : (Str → Option Value) → Heap → Prop} {YP : World → Heap → Prop} {d : DefRec} {K : Params → PySem.W.Frag} (hn : l.most = some 63) (hdf : d.params.defaults = [])
    (hY : ∀ (w : World) (h : Heap), YP w h → (K w.params).In h)
    (F : ∀ (w : World) (mg : Str → Option Value) (fa : Addr) (h : Heap), (K w.params).In h → h.Ns mainGlobals mg → mg d.name = some (.ref fa) →
      ∃ fd : FuncData, (∀ (s : Shared) (u : Value), BindsTo s fd ⟨[u], []⟩ [("script", u)]) ∧ ∀ base : Heap, (K w.params).In base → base.Ns mainGlobals mg → FnOk l.prog w (K w.params) mg base L2.CX0 12 fa fd ["script"] (spLaw (K w.params))) :
    PySem.W.WalkO q loose XP YP l.row.toRowW d [] (fun f vs => PySem.call f vs) :=
  L2.walk_of (n := 63) (k := 12) (x := "script") (CX := fun _ => L2.CX0) (sp := fun w => spLaw (K w.params)) hn (by decide) hdf ⟨rfl, by decide, by decide⟩ hY F (fun _ _ a ns hl _ hS => ⟨a, ns, rfl, hS, hl, fun _ => rfl⟩) fun _ _ _ _ _ z => z
end
theorem plain (CL a_HEADS : Addr) : Plain CL a_HEADS := fun p ns fold _ => law_ok (ns := ns) ⟨0, 0, 0, fold, rfl, Int.le_refl 0, Int.le_refl 0⟩
end K17
open PySem PySem.W PyProof.Rows
set_option maxRecDepth 100000 in
set_option maxHeartbeats 0 in
theorem PySem.Challenge.cw_botheither_k17_whole_rules_of_both_and_e_holds : PySem.Challenge.rw_botheither_k17_whole_rules_of_both_and_e.Holds := by
  w_on; o_law; k_head; (case hw => w_witness2)
  k_fill
  refine K17.walk (l := PySem.Challenge.rw_botheither_k17_whole_rules_of_both_and_e) rfl rfl (fun w h Y => PySem.W.kIn_of Y) ?F
  case F =>
    intro w mg fa h KX G hmg
    refine' K17.all_mk K17.plain KX G hmg ?a_is_whole ?l_is_whole ?x_is_whole ?k_is_whole ?a_is_index ?l_is_index ?x_is_index ?k_is_index ?a_is_row ?l_is_row ?x_is_row ?k_is_row ?a_is_order ?l_is_order ?x_is_order ?k_is_order ?a_above_by ?l_above_by ?x_above_by ?k_above_by ?a_common_of ?l_common_of ?x_common_of ?k_common_of ?a_table_by ?l_table_by ?x_table_by ?k_table_by ?a_are_rows ?l_are_rows ?x_are_rows ?k_are_rows ?a_need_lattice ?l_need_lattice ?x_need_lattice ?k_need_lattice ?a_is_below ?l_is_below ?x_is_below ?k_is_below ?a_both_by ?l_both_by ?x_both_by ?k_both_by ?a_either_by ?l_either_by ?x_either_by ?k_either_by ?a_need_element ?l_need_element ?x_need_element ?k_need_element ?a_need_elements ?l_need_elements ?x_need_elements ?k_need_elements ?a_is_at_most ?l_is_at_most ?x_is_at_most ?k_is_at_most ?a_both_of ?l_both_of ?x_both_of ?k_both_of ?a_either_of ?l_either_of ?x_either_of ?k_either_of ?a_turned_lattice ?l_turned_lattice ?x_turned_lattice ?k_turned_lattice ?a_are_letters ?l_are_letters ?x_are_letters ?k_are_letters ?a_need_letters ?l_need_letters ?x_need_letters ?k_need_letters ?a_is_node ?l_is_node ?x_is_node ?k_is_node ?a_parts_by ?l_parts_by ?x_parts_by ?k_parts_by ?a_is_term_by ?l_is_term_by ?x_is_term_by ?k_is_term_by ?a_need_own_term ?l_need_own_term ?x_need_own_term ?k_need_own_term ?a_need_term ?l_need_term ?x_need_term ?k_need_term ?a_nodes_by ?l_nodes_by ?x_nodes_by ?k_nodes_by ?a_depth_by ?l_depth_by ?x_depth_by ?k_depth_by ?a_turned_by ?l_turned_by ?x_turned_by ?k_turned_by ?a_turned_term ?l_turned_term ?x_turned_term ?k_turned_term ?a_put_by ?l_put_by ?x_put_by ?k_put_by ?a_need_small ?l_need_small ?x_need_small ?k_need_small ?a_put_in ?l_put_in ?x_put_in ?k_put_in ?a_are_images ?l_are_images ?x_are_images ?k_are_images ?a_value_with ?l_value_with ?x_value_with ?k_value_with ?a_value_by ?l_value_by ?x_value_by ?k_value_by ?a_is_so_by ?l_is_so_by ?x_is_so_by ?k_is_so_by ?a_need_images ?l_need_images ?x_need_images ?k_need_images ?a_term_value ?l_term_value ?x_term_value ?k_term_value ?a_is_so ?l_is_so ?x_is_so ?k_is_so ?a__law_pen ?l__law_pen ?x__law_pen ?k__law_pen ?a__law_draw ?l__law_draw ?x__law_draw ?k__law_draw ?a__law_pick ?l__law_pick ?x__law_pick ?k__law_pick ?a__law_shuffled ?l__law_shuffled ?x__law_shuffled ?k__law_shuffled ?a__law_unlike ?l__law_unlike ?x__law_unlike ?k__law_unlike ?a__law_letters ?l__law_letters ?x__law_letters ?k__law_letters ?a__law_drawn_term ?l__law_drawn_term ?x__law_drawn_term ?k__law_drawn_term ?a__law_closed ?l__law_closed ?x__law_closed ?k__law_closed ?a__law_known_lattices ?l__law_known_lattices ?x__law_known_lattices ?k__law_known_lattices ?a__law_led_rows ?l__law_led_rows ?x__law_led_rows ?k__law_led_rows ?a__law_lattice ?l__law_lattice ?x__law_lattice ?k__law_lattice ?a_law ?l_law ?x_law ?k_law ?aC_Lattice ?i_Lattice ?fn_Lattice ?l_Lattice___init__ ?x_Lattice___init__ ?k_Lattice___init__ ?pg_Lattice ?hd_Lattice ?po_Lattice ?sa_Lattice ?mk_Lattice_ ?kc_Lattice ?ha_Lattice ?hn_Lattice ?ht_Lattice ?hm_Lattice ?ci_Lattice ?ty_Lattice ?t_Lattice_NoneType ?t_Lattice_bool ?t_Lattice_int ?t_Lattice_str ?t_Lattice_tuple ?t_Lattice_list ?t_Lattice_dict ?o_Lattice_bool ?o_Lattice_int ?o_Lattice_str ?o_Lattice_tuple ?o_Lattice_list ?o_Lattice_dict ?nf_both ?nf_either ?nf_rows ?b_all ?b_bool ?b_dict ?b_enumerate ?b_int ?b_isinstance ?b_len ?b_list ?b_max ?b_range ?b_sorted ?b_str ?b_tuple ?b_zip ?n_ALL_LETTERS ?n_HEADS ?w_HEADS ?n_MOST_DEEP ?n_MOST_ELEMENTS ?n_MOST_LETTERS ?n_MOST_NODES
    (case a_is_whole => k_is)
    (case l_is_whole => k_is)
    (case x_is_whole => k_is)
    (case k_is_whole => k_is)
    (case a_is_index => k_is)
    (case l_is_index => k_is)
    (case x_is_index => k_is)
    (case k_is_index => k_is)
    (case a_is_row => k_is)
    (case l_is_row => k_is)
    (case x_is_row => k_is)
    (case k_is_row => k_is)
    (case a_is_order => k_is)
    (case l_is_order => k_is)
    (case x_is_order => k_is)
    (case k_is_order => k_is)
    (case a_above_by => k_is)
    (case l_above_by => k_is)
    (case x_above_by => k_is)
    (case k_above_by => k_is)
    (case a_common_of => k_is)
    (case l_common_of => k_is)
    (case x_common_of => k_is)
    (case k_common_of => k_is)
    (case a_table_by => k_is)
    (case l_table_by => k_is)
    (case x_table_by => k_is)
    (case k_table_by => k_is)
    (case a_are_rows => k_is)
    (case l_are_rows => k_is)
    (case x_are_rows => k_is)
    (case k_are_rows => k_is)
    (case a_need_lattice => k_is)
    (case l_need_lattice => k_is)
    (case x_need_lattice => k_is)
    (case k_need_lattice => k_is)
    (case a_is_below => k_is)
    (case l_is_below => k_is)
    (case x_is_below => k_is)
    (case k_is_below => k_is)
    (case a_both_by => k_is)
    (case l_both_by => k_is)
    (case x_both_by => k_is)
    (case k_both_by => k_is)
    (case a_either_by => k_is)
    (case l_either_by => k_is)
    (case x_either_by => k_is)
    (case k_either_by => k_is)
    (case a_need_element => k_is)
    (case l_need_element => k_is)
    (case x_need_element => k_is)
    (case k_need_element => k_is)
    (case a_need_elements => k_is)
    (case l_need_elements => k_is)
    (case x_need_elements => k_is)
    (case k_need_elements => k_is)
    (case a_is_at_most => k_is)
    (case l_is_at_most => k_is)
    (case x_is_at_most => k_is)
    (case k_is_at_most => k_is)
    (case a_both_of => k_is)
    (case l_both_of => k_is)
    (case x_both_of => k_is)
    (case k_both_of => k_is)
    (case a_either_of => k_is)
    (case l_either_of => k_is)
    (case x_either_of => k_is)
    (case k_either_of => k_is)
    (case a_turned_lattice => k_is)
    (case l_turned_lattice => k_is)
    (case x_turned_lattice => k_is)
    (case k_turned_lattice => k_is)
    (case a_are_letters => k_is)
    (case l_are_letters => k_is)
    (case x_are_letters => k_is)
    (case k_are_letters => k_is)
    (case a_need_letters => k_is)
    (case l_need_letters => k_is)
    (case x_need_letters => k_is)
    (case k_need_letters => k_is)
    (case a_is_node => k_is)
    (case l_is_node => k_is)
    (case x_is_node => k_is)
    (case k_is_node => k_is)
    (case a_parts_by => k_is)
    (case l_parts_by => k_is)
    (case x_parts_by => k_is)
    (case k_parts_by => k_is)
    (case a_is_term_by => k_is)
    (case l_is_term_by => k_is)
    (case x_is_term_by => k_is)
    (case k_is_term_by => k_is)
    (case a_need_own_term => k_is)
    (case l_need_own_term => k_is)
    (case x_need_own_term => k_is)
    (case k_need_own_term => k_is)
    (case a_need_term => k_is)
    (case l_need_term => k_is)
    (case x_need_term => k_is)
    (case k_need_term => k_is)
    (case a_nodes_by => k_is)
    (case l_nodes_by => k_is)
    (case x_nodes_by => k_is)
    (case k_nodes_by => k_is)
    (case a_depth_by => k_is)
    (case l_depth_by => k_is)
    (case x_depth_by => k_is)
    (case k_depth_by => k_is)
    (case a_turned_by => k_is)
    (case l_turned_by => k_is)
    (case x_turned_by => k_is)
    (case k_turned_by => k_is)
    (case a_turned_term => k_is)
    (case l_turned_term => k_is)
    (case x_turned_term => k_is)
    (case k_turned_term => k_is)
    (case a_put_by => k_is)
    (case l_put_by => k_is)
    (case x_put_by => k_is)
    (case k_put_by => k_is)
    (case a_need_small => k_is)
    (case l_need_small => k_is)
    (case x_need_small => k_is)
    (case k_need_small => k_is)
    (case a_put_in => k_is)
    (case l_put_in => k_is)
    (case x_put_in => k_is)
    (case k_put_in => k_is)
    (case a_are_images => k_is)
    (case l_are_images => k_is)
    (case x_are_images => k_is)
    (case k_are_images => k_is)
    (case a_value_with => k_is)
    (case l_value_with => k_is)
    (case x_value_with => k_is)
    (case k_value_with => k_is)
    (case a_value_by => k_is)
    (case l_value_by => k_is)
    (case x_value_by => k_is)
    (case k_value_by => k_is)
    (case a_is_so_by => k_is)
    (case l_is_so_by => k_is)
    (case x_is_so_by => k_is)
    (case k_is_so_by => k_is)
    (case a_need_images => k_is)
    (case l_need_images => k_is)
    (case x_need_images => k_is)
    (case k_need_images => k_is)
    (case a_term_value => k_is)
    (case l_term_value => k_is)
    (case x_term_value => k_is)
    (case k_term_value => k_is)
    (case a_is_so => k_is)
    (case l_is_so => k_is)
    (case x_is_so => k_is)
    (case k_is_so => k_is)
    (case a__law_pen => k_is)
    (case l__law_pen => k_is)
    (case x__law_pen => k_is)
    (case k__law_pen => k_is)
    (case a__law_draw => k_is)
    (case l__law_draw => k_is)
    (case x__law_draw => k_is)
    (case k__law_draw => k_is)
    (case a__law_pick => k_is)
    (case l__law_pick => k_is)
    (case x__law_pick => k_is)
    (case k__law_pick => k_is)
    (case a__law_shuffled => k_is)
    (case l__law_shuffled => k_is)
    (case x__law_shuffled => k_is)
    (case k__law_shuffled => k_is)
    (case a__law_unlike => k_is)
    (case l__law_unlike => k_is)
    (case x__law_unlike => k_is)
    (case k__law_unlike => k_is)
    (case a__law_letters => k_is)
    (case l__law_letters => k_is)
    (case x__law_letters => k_is)
    (case k__law_letters => k_is)
    (case a__law_drawn_term => k_is)
    (case l__law_drawn_term => k_is)
    (case x__law_drawn_term => k_is)
    (case k__law_drawn_term => k_is)
    (case a__law_closed => k_is)
    (case l__law_closed => k_is)
    (case x__law_closed => k_is)
    (case k__law_closed => k_is)
    (case a__law_known_lattices => k_is)
    (case l__law_known_lattices => k_is)
    (case x__law_known_lattices => k_is)
    (case k__law_known_lattices => k_is)
    (case a__law_led_rows => k_is)
    (case l__law_led_rows => k_is)
    (case x__law_led_rows => k_is)
    (case k__law_led_rows => k_is)
    (case a__law_lattice => k_is)
    (case l__law_lattice => k_is)
    (case x__law_lattice => k_is)
    (case k__law_lattice => k_is)
    (case a_law => k_is)
    (case l_law => k_is)
    (case x_law => k_is)
    (case k_law => k_is)
    (case aC_Lattice => k_is)
    (case i_Lattice => k_is)
    (case fn_Lattice => k_is)
    (case l_Lattice___init__ => k_is)
    (case x_Lattice___init__ => k_is)
    (case k_Lattice___init__ => k_is)
    (case pg_Lattice => k_is)
    (case hd_Lattice => k_is)
    (case po_Lattice => k_is)
    (case sa_Lattice => k_is)
    (case mk_Lattice_ => k_is)
    (case kc_Lattice => k_is)
    (case ha_Lattice => k_is)
    (case hn_Lattice => k_is)
    (case ht_Lattice => k_is)
    (case hm_Lattice => k_is)
    (case ci_Lattice => k_is)
    (case ty_Lattice => k_is)
    (case t_Lattice_NoneType => k_is)
    (case t_Lattice_bool => k_is)
    (case t_Lattice_int => k_is)
    (case t_Lattice_str => k_is)
    (case t_Lattice_tuple => k_is)
    (case t_Lattice_list => k_is)
    (case t_Lattice_dict => k_is)
    (case o_Lattice_bool => k_is)
    (case o_Lattice_int => k_is)
    (case o_Lattice_str => k_is)
    (case o_Lattice_tuple => k_is)
    (case o_Lattice_list => k_is)
    (case o_Lattice_dict => k_is)
    (case nf_both => k_is)
    (case nf_either => k_is)
    (case nf_rows => k_is)
    (case b_all => k_is)
    (case b_bool => k_is)
    (case b_dict => k_is)
    (case b_enumerate => k_is)
    (case b_int => k_is)
    (case b_isinstance => k_is)
    (case b_len => k_is)
    (case b_list => k_is)
    (case b_max => k_is)
    (case b_range => k_is)
    (case b_sorted => k_is)
    (case b_str => k_is)
    (case b_tuple => k_is)
    (case b_zip => k_is)
    (case n_ALL_LETTERS => k_is)
    (case n_HEADS => k_is)
    (case w_HEADS => k_is)
    (case n_MOST_DEEP => k_is)
    (case n_MOST_ELEMENTS => k_is)
    (case n_MOST_LETTERS => k_is)
    (case n_MOST_NODES => k_is)
