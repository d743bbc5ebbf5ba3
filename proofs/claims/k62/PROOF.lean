import PyProof.Rows.All
import Wide.All
import OpenK.AllK
import Wide.FinOn
import HandS.ForMost
import HandS.Wide
import HandS.Walk
import HandS.Gcd
import HandS.IsInst
import HandS.Style
import HandS.Defaults
import HandS.EndBits
import HandS.Head0
import HandS.Head1
import HandS.Head2
import HandS.Head3
import HandS.HeadEnd
import HandS.HeadHook1
import HandS.HeadHook2
import PySem.Challenge.RW_lasttwo_k62_across_sums_and_members
set_option Elab.async false
set_option linter.all false
set_option autoImplicit false
set_option maxRecDepth 100000
set_option maxHeartbeats 4000000
/-! MpA: mini-Python over HandS: values as data, the three heaps (frozen, own, all), the judgements. -/
namespace MP
open PySem PySem.Spec PyProof.Rows L2
abbrev SS := L2.St
/-- a value as data -/
inductive D where
  | non | bl (b : Bool) | int (i : Int) | str (x : Str) | ty (n : String) | obj (a : Addr)
  | tup (ds : List D) | lst (ds : List D) | rol (ds : List D) | dct (ks : List Key) (ds : List D)
mutual
def Rep (K : PySem.W.Frag) (F : Hp) : D → V → Prop
  | .non, v => v = .non
  | .bl b, v => v = .bl b
  | .int i, v => v = .int i
  | .str x, v => v = .str x
  | .ty n, v => v = .ty n
  | .obj a, v => v = .ref a
  | .tup ds, v => ∃ a xs, v = .ref a ∧ SqT K F a xs ∧ Reps K F ds xs
  | .lst ds, v => ∃ a xs, v = .ref a ∧ F a = some (.lst xs) ∧ Reps K F ds xs
  | .rol ds, v => ∃ a xs, v = .ref a ∧ SqL K F a xs ∧ Reps K F ds xs
  | .dct ks ds, v => ∃ a kvs, v = .ref a ∧ F a = some (.dK kvs) ∧ kvs.map (·.1) = ks ∧ Reps K F ds (kvs.map (·.2))
def Reps (K : PySem.W.Frag) (F : Hp) : List D → List V → Prop
  | [], xs => xs = []
  | d :: ds, xs => ∃ x r, xs = x :: r ∧ Rep K F d x ∧ Reps K F ds r
end
/-- F only grows -/
def Le (F F' : Hp) : Prop := ∀ a u, F a = some u → F' a = some u
theorem Le.refl (F : Hp) : Le F F := fun _ _ h => h
theorem Le.trans {F F1 F2 : Hp} (a : Le F F1) (b : Le F1 F2) : Le F F2 := fun x u h => b x u (a x u h)
theorem Le.sqL {K : PySem.W.Frag} {F F' : Hp} {a : Addr} {xs : List V} (h : Le F F') (q : SqL K F a xs) : SqL K F' a xs := by
  rcases q with (q | ⟨o, q⟩) | q
  · exact .inl (.inl (h _ _ q))
  · exact .inl (.inr ⟨o, h _ _ q⟩)
  · exact .inr q
theorem Le.sqT {K : PySem.W.Frag} {F F' : Hp} {a : Addr} {xs : List V} (h : Le F F') (q : SqT K F a xs) : SqT K F' a xs := by
  rcases q with (q | ⟨o, q⟩) | q
  · exact .inl (.inl (h _ _ q))
  · exact .inl (.inr ⟨o, h _ _ q⟩)
  · exact .inr q
section
variable {K : PySem.W.Frag} {F F' : Hp}
mutual
theorem Rep.mono (h : Le F F') : ∀ {d : D} {v : V}, Rep K F d v → Rep K F' d v
  | .non, _, r => r
  | .bl _, _, r => r
  | .int _, _, r => r
  | .str _, _, r => r
  | .ty _, _, r => r
  | .obj _, _, r => r
  | .tup ds, v, r => by
    simp only [Rep] at r ⊢
    obtain ⟨a, xs, e, q, rs⟩ := r
    exact ⟨a, xs, e, h.sqT q, Reps.mono h rs⟩
  | .lst ds, v, r => by
    simp only [Rep] at r ⊢
    obtain ⟨a, xs, e, q, rs⟩ := r
    exact ⟨a, xs, e, h _ _ q, Reps.mono h rs⟩
  | .rol ds, v, r => by
    simp only [Rep] at r ⊢
    obtain ⟨a, xs, e, q, rs⟩ := r
    exact ⟨a, xs, e, h.sqL q, Reps.mono h rs⟩
  | .dct ks ds, v, r => by
    simp only [Rep] at r ⊢
    obtain ⟨a, kvs, e, q, ek, rs⟩ := r
    exact ⟨a, kvs, e, h _ _ q, ek, Reps.mono h rs⟩
theorem Reps.mono (h : Le F F') : ∀ {ds : List D} {xs : List V}, Reps K F ds xs → Reps K F' ds xs
  | [], _, r => by simp only [Reps] at r ⊢; exact r
  | d :: ds, xs, r => by
    simp only [Reps] at r ⊢
    obtain ⟨x, rr, e, q, rs⟩ := r
    exact ⟨x, rr, e, Rep.mono h q, Reps.mono h rs⟩
end
theorem Reps.nil_iff {xs : List V} : Reps K F [] xs ↔ xs = [] := by simp only [Reps]
theorem Reps.cons_iff {d : D} {ds : List D} {xs : List V} : Reps K F (d :: ds) xs ↔ ∃ x r, xs = x :: r ∧ Rep K F d x ∧ Reps K F ds r := by simp only [Reps]
theorem Reps.nil : Reps K F [] [] := Reps.nil_iff.mpr rfl
theorem Reps.cons {d : D} {ds : List D} {x : V} {r : List V} (h : Rep K F d x) (t : Reps K F ds r) : Reps K F (d :: ds) (x :: r) := Reps.cons_iff.mpr ⟨x, r, rfl, h, t⟩
theorem Reps.length : ∀ {ds : List D} {xs : List V}, Reps K F ds xs → xs.length = ds.length
  | [], _, r => by rw [Reps.nil_iff.mp r]; rfl
  | d :: ds, xs, r => by
    obtain ⟨x, rr, rfl, _, t⟩ := Reps.cons_iff.mp r
    rw [List.length_cons, List.length_cons, Reps.length t]
theorem Reps.get : ∀ {ds : List D} {xs : List V} {i : Nat} {d : D}, Reps K F ds xs → ds[i]? = some d → ∃ x, xs[i]? = some x ∧ Rep K F d x
  | [], _, _, _, _, e => by simp at e
  | d :: ds, xs, i, d', r, e => by
    obtain ⟨x, rr, rfl, h, t⟩ := Reps.cons_iff.mp r
    cases i with
    | zero => simp at e; subst e; exact ⟨x, rfl, h⟩
    | succ i => simp at e; obtain ⟨y, h1, h2⟩ := Reps.get t e; exact ⟨y, by simpa using h1, h2⟩
theorem Reps.get' : ∀ {ds : List D} {xs : List V} {i : Nat} {x : V}, Reps K F ds xs → xs[i]? = some x → ∃ d, ds[i]? = some d ∧ Rep K F d x := by
  intro ds xs i x r e
  have hl := r.length
  have hi : i < ds.length := by
    rw [← hl]; exact (List.getElem?_eq_some_iff.mp e).1
  obtain ⟨y, h1, h2⟩ := Reps.get r (List.getElem?_eq_getElem hi)
  rw [e] at h1; cases h1
  exact ⟨_, List.getElem?_eq_getElem hi, h2⟩
theorem Reps.append : ∀ {ds es : List D} {xs ys : List V}, Reps K F ds xs → Reps K F es ys → Reps K F (ds ++ es) (xs ++ ys)
  | [], _, _, _, r, t => by rw [Reps.nil_iff.mp r]; exact t
  | d :: ds, _, _, _, r, t => by
    obtain ⟨x, rr, rfl, h, q⟩ := Reps.cons_iff.mp r
    exact Reps.cons h (Reps.append q t)
theorem Reps.drop : ∀ {ds : List D} {xs : List V} (n : Nat), Reps K F ds xs → Reps K F (ds.drop n) (xs.drop n)
  | _, _, 0, r => r
  | [], _, n + 1, r => by rw [Reps.nil_iff.mp r]; simpa using Reps.nil
  | d :: ds, _, n + 1, r => by
    obtain ⟨x, rr, rfl, h, q⟩ := Reps.cons_iff.mp r
    exact Reps.drop n q
theorem Reps.take : ∀ {ds : List D} {xs : List V} (n : Nat), Reps K F ds xs → Reps K F (ds.take n) (xs.take n)
  | _, _, 0, r => by simpa using Reps.nil
  | [], _, n + 1, r => by rw [Reps.nil_iff.mp r]; simpa using Reps.nil
  | d :: ds, _, n + 1, r => by
    obtain ⟨x, rr, rfl, h, q⟩ := Reps.cons_iff.mp r
    exact Reps.cons h (Reps.take n q)
theorem Reps.reverse : ∀ {ds : List D} {xs : List V}, Reps K F ds xs → Reps K F ds.reverse xs.reverse
  | [], _, r => by rw [Reps.nil_iff.mp r]; simpa using Reps.nil
  | d :: ds, _, r => by
    obtain ⟨x, rr, rfl, h, q⟩ := Reps.cons_iff.mp r
    rw [List.reverse_cons, List.reverse_cons]
    exact Reps.append (Reps.reverse q) (Reps.cons h Reps.nil)
theorem Rep.int_iff {i : Int} {v : V} : Rep K F (.int i) v ↔ v = .int i := by simp only [Rep]
theorem Rep.bl_iff {b : Bool} {v : V} : Rep K F (.bl b) v ↔ v = .bl b := by simp only [Rep]
theorem Rep.str_iff {x : Str} {v : V} : Rep K F (.str x) v ↔ v = .str x := by simp only [Rep]
theorem Rep.non_iff {v : V} : Rep K F .non v ↔ v = .non := by simp only [Rep]
theorem Rep.obj_iff {a : Addr} {v : V} : Rep K F (.obj a) v ↔ v = .ref a := by simp only [Rep]
theorem Rep.tup_iff {ds : List D} {v : V} : Rep K F (.tup ds) v ↔ ∃ a xs, v = .ref a ∧ SqT K F a xs ∧ Reps K F ds xs := by simp only [Rep]
theorem Rep.lst_iff {ds : List D} {v : V} : Rep K F (.lst ds) v ↔ ∃ a xs, v = .ref a ∧ F a = some (.lst xs) ∧ Reps K F ds xs := by simp only [Rep]
theorem Rep.rol_iff {ds : List D} {v : V} : Rep K F (.rol ds) v ↔ ∃ a xs, v = .ref a ∧ SqL K F a xs ∧ Reps K F ds xs := by simp only [Rep]
theorem Rep.dct_iff {ks : List Key} {ds : List D} {v : V} : Rep K F (.dct ks ds) v ↔ ∃ a kvs, v = .ref a ∧ F a = some (.dK kvs) ∧ kvs.map (·.1) = ks ∧ Reps K F ds (kvs.map (·.2)) := by simp only [Rep]
theorem Reps.ints : ∀ {ns : List Int} {xs : List V}, Reps K F (ns.map D.int) xs ↔ xs = ns.map V.int
  | [], xs => by simp [Reps.nil_iff]
  | n :: ns, xs => by
    rw [List.map_cons, Reps.cons_iff, List.map_cons]
    constructor
    · rintro ⟨x, r, rfl, h, t⟩
      rw [Rep.int_iff.mp h, Reps.ints.mp t]
    · rintro rfl
      exact ⟨_, _, rfl, Rep.int_iff.mpr rfl, Reps.ints.mpr rfl⟩
end
/-- the frozen part stands in the heap (a thing may be locked meanwhile) -/
def Sub (F H : Hp) : Prop := ∀ a u, F a = some u → H a = some u ∨ ∃ kvs o, u = .dK kvs ∧ H a = some (.frz o (.dK kvs))
theorem Sub.rd {F H : Hp} (s : Sub F H) {a : Addr} {u : HO} (h : F a = some u) : Rd H a u := by
  rcases s a u h with z | ⟨kvs, o, rfl, z⟩
  · exact .inl z
  · exact .inr ⟨o, z⟩
theorem Sub.sqL {K : PySem.W.Frag} {F H : Hp} (s : Sub F H) {a : Addr} {xs : List V} (q : SqL K F a xs) : SqL K H a xs := by
  rcases q with (q | ⟨o, q⟩) | q
  · rcases s _ _ q with z | ⟨_, _, e, _⟩
    · exact .inl (.inl z)
    · cases e
  · rcases s _ _ q with z | ⟨_, _, e, _⟩
    · exact .inl (.inr ⟨o, z⟩)
    · cases e
  · exact .inr q
theorem Sub.sqT {K : PySem.W.Frag} {F H : Hp} (s : Sub F H) {a : Addr} {xs : List V} (q : SqT K F a xs) : SqT K H a xs := by
  rcases q with (q | ⟨o, q⟩) | q
  · rcases s _ _ q with z | ⟨_, _, e, _⟩
    · exact .inl (.inl z)
    · cases e
  · rcases s _ _ q with z | ⟨_, _, e, _⟩
    · exact .inl (.inr ⟨o, z⟩)
    · cases e
  · exact .inr q
theorem Sub.lst {F H : Hp} (s : Sub F H) {a : Addr} {xs : List V} (q : F a = some (.lst xs)) : H a = some (.lst xs) := by
  rcases s _ _ q with z | ⟨_, _, e, _⟩
  · exact z
  · cases e
/-- frozen, own world, all -/
structure C3 where
  F : Hp
  G : Hp
  H : Hp
/-- new frozen things alone -/
structure PExt (c c' : C3) : Prop where
  g : c'.G = c.G
  fle : Le c.F c'.F
  fnew : ∀ a, c'.F a ≠ none → c.F a = none → c.H a = none
  same : ∀ a o, c.H a = some o → c'.H a = some o
  sub : Sub c.F c.H → Sub c'.F c'.H
/-- the own world changes, the rest is kept -/
structure Ext (c c' : C3) : Prop where
  fle : Le c.F c'.F
  fnew : ∀ a, c'.F a ≠ none → c.F a = none → c.H a = none
  keep : ∀ a o, c.H a = some o → c.G a = none → c'.H a = some o
  gnew : ∀ a, c'.G a ≠ none → c.G a = none → c.H a = none
  there : ∀ a, c.H a ≠ none → c'.H a ≠ none
/-- a world: what the law's own state is, how it lies -/
structure Wd where
  S : Type
  I : S → Hp → Hp → Prop
  mono : ∀ s F F' G, Le F F' → I s F G → I s F' G
structure Okh (W : Wd) (c : C3) (s : W.S) : Prop where
  sub : Sub c.F c.H
  subG : ∀ a u, c.G a = some u → c.H a = some u
  dis : ∀ a, c.G a ≠ none → c.F a = none
  inv : W.I s c.F c.G
theorem Rd.keepS {H H' : Hp} {a : Addr} {u : HO} (s : ∀ a o, H a = some o → H' a = some o) (r : Rd H a u) : Rd H' a u :=
  r.elim (fun z => .inl (s _ _ z)) fun ⟨o, z⟩ => .inr ⟨o, s _ _ z⟩
theorem PExt.refl (c : C3) : PExt c c := ⟨rfl, Le.refl _, fun _ h h' => absurd h' h, fun _ _ h => h, fun h => h⟩
theorem PExt.trans {c c1 c2 : C3} (a : PExt c c1) (b : PExt c1 c2) : PExt c c2 where
  g := b.g.trans a.g
  fle := a.fle.trans b.fle
  fnew := fun x h h' => by
    by_cases e : c1.F x = none
    · have e2 := b.fnew x h e
      cases q : c.H x with
      | none => rfl
      | some o => rw [a.same x o q] at e2; cases e2
    · exact a.fnew x e h'
  same := fun x o h => b.same x o (a.same x o h)
  sub := fun h => b.sub (a.sub h)
theorem PExt.ext {c c' : C3} (a : PExt c c') : Ext c c' where
  fle := a.fle
  fnew := a.fnew
  keep := fun x o h _ => a.same x o h
  gnew := fun x h h' => by rw [a.g] at h; exact absurd h' h
  there := fun x h => by
    cases q : c.H x with
    | none => exact absurd q h
    | some o => rw [a.same x o q]; exact Option.some_ne_none _
theorem Okh.pext {W : Wd} {c c' : C3} {s : W.S} (o : Okh W c s) (a : PExt c c') : Okh W c' s where
  sub := a.sub o.sub
  subG := fun x u h => by rw [a.g] at h; exact a.same x u (o.subG x u h)
  dis := fun x h => by
    rw [a.g] at h
    cases q : c'.F x with
    | none => rfl
    | some u =>
      have e := a.fnew x (by rw [q]; exact Option.some_ne_none _) (o.dis x h)
      cases q2 : c.G x with
      | none => exact absurd q2 h
      | some z => rw [o.subG x z q2] at e; cases e
  inv := by rw [a.g]; exact W.mono _ _ _ _ a.fle o.inv
theorem Ext.refl (c : C3) : Ext c c := (PExt.refl c).ext
theorem Ext.trans {c c1 c2 : C3} (a : Ext c c1) (b : Ext c1 c2) : Ext c c2 where
  fle := a.fle.trans b.fle
  fnew := fun x h h' => by
    by_cases e : c1.F x = none
    · have e2 := b.fnew x h e
      cases q : c.H x with
      | none => rfl
      | some o => exact absurd e2 (a.there x (by rw [q]; exact Option.some_ne_none _))
    · exact a.fnew x e h'
  keep := fun x o h hg => by
    refine b.keep x o (a.keep x o h hg) ?_
    cases q : c1.G x with
    | none => rfl
    | some u =>
      have := a.gnew x (by rw [q]; exact Option.some_ne_none _) hg
      rw [h] at this; cases this
  gnew := fun x h h' => by
    by_cases e : c1.G x = none
    · have e2 := b.gnew x h e
      cases q : c.H x with
      | none => rfl
      | some o => exact absurd e2 (a.there x (by rw [q]; exact Option.some_ne_none _))
    · exact a.gnew x e h'
  there := fun x h => b.there x (a.there x h)
theorem Sub.free {F H : Hp} (s : Sub F H) {p : Addr} (h : H p = none) : F p = none := by
  cases q : F p with
  | none => rfl
  | some u =>
    rcases s p u q with z | ⟨_, _, _, z⟩
    · rw [h] at z; cases z
    · rw [h] at z; cases z
/-- a new frozen thing -/
theorem PExt.alloc {c : C3} (s : Sub c.F c.H) {p : Addr} (o : HO) (hp : c.H p = none) : PExt c ⟨upd c.F p o, c.G, upd c.H p o⟩ where
  g := rfl
  fle := fun a u h => by
    show upd c.F p o a = some u
    rw [upd_ne (ne_of_none h (s.free hp))]; exact h
  fnew := fun a h h' => by
    by_cases e : a = p
    · subst e; exact hp
    · exact absurd (show upd c.F p o a = none by rw [upd_ne e]; exact h') h
  same := fun a u h => by
    show upd c.H p o a = some u
    rw [upd_ne (ne_of_none h hp)]; exact h
  sub := fun s a u h => by
    by_cases e : a = p
    · subst e
      have h2 : upd c.F a o a = some u := h
      rw [upd_same] at h2; cases h2
      exact .inl upd_same
    · have h2 : upd c.F p o a = some u := h
      rw [upd_ne e] at h2
      rcases s a u h2 with z | ⟨kvs, ob, z1, z⟩
      · exact .inl (by show upd c.H p o a = some u; rw [upd_ne e]; exact z)
      · exact .inr ⟨kvs, ob, z1, by show upd c.H p o a = _; rw [upd_ne e]; exact z⟩
/-! ### slots -/
/-- a slot: nothing known; data; a list or dict of the def's own, not yet handed on; such a dict while it is walked -/
inductive Sl where
  | u | v (d : D) | ol (ds : List D) | od (ks : List Key) (ds : List D) | lk (ks : List Key) (ds : List D)
abbrev Env := List Sl
def Sl.own : Sl → Bool
  | .ol _ => true
  | .od _ _ => true
  | .lk _ _ => true
  | _ => false
def SlOk (K : PySem.W.Frag) (c : C3) : Sl → Option (Option V) → Prop
  | .u, _ => True
  | .v d, o => ∃ x, o = some (some x) ∧ Rep K c.F d x
  | .ol ds, o => ∃ p xs, o = some (some (.ref p)) ∧ c.H p = some (.lst xs) ∧ Reps K c.F ds xs ∧ c.F p = none ∧ c.G p = none
  | .od ks ds, o => ∃ p kvs, o = some (some (.ref p)) ∧ c.H p = some (.dK kvs) ∧ kvs.map (·.1) = ks ∧ Reps K c.F ds (kvs.map (·.2)) ∧ c.F p = none ∧ c.G p = none
  | .lk ks ds, o => ∃ p kvs ob, o = some (some (.ref p)) ∧ c.H p = some (.frz ob (.dK kvs)) ∧ kvs.map (·.1) = ks ∧ Reps K c.F ds (kvs.map (·.2)) ∧ c.F p = none ∧ c.G p = none
structure Slots (K : PySem.W.Frag) (c : C3) (σ : SS) (ρ : Env) : Prop where
  len : σ.length = ρ.length
  ok : ∀ (i : Nat) (sl : Sl), ρ[i]? = some sl → SlOk K c sl σ[i]?
  dist : ∀ (i j : Nat) (si sj : Sl) (p : Addr), ρ[i]? = some si → ρ[j]? = some sj → i ≠ j → si.own = true → sj.own = true → σ[i]? = some (some (.ref p)) → σ[j]? = some (some (.ref p)) → False
theorem Ext.ownOk {c c' : C3} (e : Ext c c') {p : Addr} {o : HO} (h : c.H p = some o) (hf : c.F p = none) (hg : c.G p = none) : c'.H p = some o ∧ c'.F p = none ∧ c'.G p = none := by
  refine ⟨e.keep p o h hg, ?_, ?_⟩
  · cases q : c'.F p with
    | none => rfl
    | some u =>
      have := e.fnew p (by rw [q]; exact Option.some_ne_none _) hf
      rw [h] at this; cases this
  · cases q : c'.G p with
    | none => rfl
    | some u =>
      have := e.gnew p (by rw [q]; exact Option.some_ne_none _) hg
      rw [h] at this; cases this
theorem SlOk.ext {K : PySem.W.Frag} {c c' : C3} (e : Ext c c') : ∀ {sl : Sl} {o : Option (Option V)}, SlOk K c sl o → SlOk K c' sl o
  | .u, _, _ => trivial
  | .v d, _, ⟨x, h, r⟩ => ⟨x, h, r.mono e.fle⟩
  | .ol ds, _, ⟨p, xs, h, q, r, hf, hg⟩ => let ⟨a, b, d⟩ := e.ownOk q hf hg; ⟨p, xs, h, a, r.mono e.fle, b, d⟩
  | .od ks ds, _, ⟨p, xs, h, q, k, r, hf, hg⟩ => let ⟨a, b, d⟩ := e.ownOk q hf hg; ⟨p, xs, h, a, k, r.mono e.fle, b, d⟩
  | .lk ks ds, _, ⟨p, xs, ob, h, q, k, r, hf, hg⟩ => let ⟨a, b, d⟩ := e.ownOk q hf hg; ⟨p, xs, ob, h, a, k, r.mono e.fle, b, d⟩
theorem Slots.ext {K : PySem.W.Frag} {c c' : C3} {σ : SS} {ρ : Env} (s : Slots K c σ ρ) (e : Ext c c') : Slots K c' σ ρ :=
  ⟨s.len, fun i sl h => (s.ok i sl h).ext e, s.dist⟩
structure Sta (K : PySem.W.Frag) (W : Wd) (c : C3) (σ : SS) (ρ : Env) (s : W.S) : Prop where
  ok : Okh W c s
  sl : Slots K c σ ρ
theorem Sta.step {K : PySem.W.Frag} {W : Wd} {c c' : C3} {σ : SS} {ρ : Env} {s s' : W.S} (a : Sta K W c σ ρ s) (e : Ext c c') (o : Okh W c' s') : Sta K W c' σ ρ s' := ⟨o, a.sl.ext e⟩
theorem Sta.pure {K : PySem.W.Frag} {W : Wd} {c c' : C3} {σ : SS} {ρ : Env} {s : W.S} (a : Sta K W c σ ρ s) (e : PExt c c') : Sta K W c' σ ρ s := ⟨a.ok.pext e, a.sl.ext e.ext⟩
/-! ### judgements -/
abbrev EF (W : Wd) (α : Type) := Env → W.S → Option (α × W.S)
/-- an expression's value -/
structure GE (X : Cx) (W : Wd) (e : Expr) (f : EF W D) : Prop where
  run : ∃ t : TE, PE X e t ∧ ∀ (c : C3) (σ : SS) (ρ : Env) (s : W.S) (d : D) (s' : W.S) (Q : VK), Sta X.K W c σ ρ s → f ρ s = some (d, s') →
    (∀ v c', Ext c c' → Okh W c' s' → Rep X.K c'.F d v → Q v c'.H) → t σ c.H Q
/-- a test's -/
structure GT (X : Cx) (W : Wd) (e : Expr) (f : EF W Bool) : Prop where
  run : ∃ t : TT, PT X e t ∧ ∀ (c : C3) (σ : SS) (ρ : Env) (s : W.S) (b : Bool) (s' : W.S) (Q : Bool → Hp → Prop), Sta X.K W c σ ρ s → f ρ s = some (b, s') →
    (∀ c', Ext c c' → Okh W c' s' → Q b c'.H) → t σ c.H Q
/-- a test's within and, or -/
structure GW (X : Cx) (W : Wd) (e : Expr) (f : EF W Bool) : Prop where
  run : ∃ t : TT, PW X e t ∧ ∀ (c : C3) (σ : SS) (ρ : Env) (s : W.S) (b : Bool) (s' : W.S) (Q : Bool → Hp → Prop), Sta X.K W c σ ρ s → f ρ s = some (b, s') →
    (∀ c', Ext c c' → Okh W c' s' → Q b c'.H) → t σ c.H Q
/-- arguments' -/
structure GA (X : Cx) (W : Wd) (es : List Expr) (f : EF W (List D)) : Prop where
  run : ∃ t : TA, PA X es t ∧ ∀ (c : C3) (σ : SS) (ρ : Env) (s : W.S) (ds : List D) (s' : W.S) (Q : List V → Hp → Prop), Sta X.K W c σ ρ s → f ρ s = some (ds, s') →
    (∀ vs c', Ext c c' → Okh W c' s' → Reps X.K c'.F ds vs → Q vs c'.H) → t σ c.H Q
/-- a list (a tuple) that is read: frozen, or a def's own -/
def LAt (K : PySem.W.Frag) (c : C3) (a : Addr) (xs : List V) : Prop := SqL K c.F a xs ∨ (c.H a = some (.lst xs) ∧ c.F a = none ∧ c.G a = none)
def DAt (c : C3) (a : Addr) (kvs : List (Key × V)) : Prop := c.F a = some (.dK kvs) ∨ (c.H a = some (.dK kvs) ∧ c.F a = none ∧ c.G a = none) ∨ (∃ ob, c.H a = some (.frz ob (.dK kvs)) ∧ c.F a = none ∧ c.G a = none)
structure GL (X : Cx) (W : Wd) (e : Expr) (f : EF W (List D)) : Prop where
  run : ∃ t : TE, PE X e t ∧ ∀ (c : C3) (σ : SS) (ρ : Env) (s : W.S) (ds : List D) (s' : W.S) (Q : VK), Sta X.K W c σ ρ s → f ρ s = some (ds, s') →
    (∀ a xs c', Ext c c' → Okh W c' s' → LAt X.K c' a xs → Reps X.K c'.F ds xs → Q (.ref a) c'.H) → t σ c.H Q
structure GD (X : Cx) (W : Wd) (e : Expr) (f : EF W (List Key × List D)) : Prop where
  run : ∃ t : TE, PE X e t ∧ ∀ (c : C3) (σ : SS) (ρ : Env) (s : W.S) (ks : List Key) (ds : List D) (s' : W.S) (Q : VK), Sta X.K W c σ ρ s → f ρ s = some ((ks, ds), s') →
    (∀ a kvs c', Ext c c' → Okh W c' s' → DAt c' a kvs → kvs.map (·.1) = ks → Reps X.K c'.F ds (kvs.map (·.2)) → Q (.ref a) c'.H) → t σ c.H Q
theorem LAt.ext {K : PySem.W.Frag} {c c' : C3} {a : Addr} {xs : List V} (h : LAt K c a xs) (e : Ext c c') : LAt K c' a xs := by
  rcases h with h | ⟨h, h1, h2⟩
  · exact .inl (e.fle.sqL h)
  · exact .inr (e.ownOk h h1 h2)
theorem DAt.ext {c c' : C3} {a : Addr} {xs : List (Key × V)} (h : DAt c a xs) (e : Ext c c') : DAt c' a xs := by
  rcases h with h | ⟨h, h1, h2⟩ | ⟨ob, h, h1, h2⟩
  · exact .inl (e.fle _ _ h)
  · exact .inr (.inl (e.ownOk h h1 h2))
  · exact .inr (.inr ⟨ob, e.ownOk h h1 h2⟩)
theorem LAt.sq {K : PySem.W.Frag} {c : C3} {a : Addr} {xs : List V} (h : LAt K c a xs) (s : Sub c.F c.H) : SqL K c.H a xs := by
  rcases h with h | ⟨h, _⟩
  · exact s.sqL h
  · exact .inl (.inl h)
theorem DAt.rd {c : C3} {a : Addr} {kvs : List (Key × V)} (h : DAt c a kvs) (s : Sub c.F c.H) : Rd c.H a (.dK kvs) := by
  rcases h with h | ⟨h, _⟩ | ⟨ob, h, _⟩
  · exact s.rd h
  · exact .inl h
  · exact .inr ⟨ob, h⟩
/-- an operation on two values -/
structure GO (X : Cx) (f : Value → Value → Sem Value) (g : D → D → Option D) : Prop where
  run : ∃ r : R2, OpR X f r ∧ ∀ (c : C3) (x y : V) (a b d : D) (Q : VK), Sub c.F c.H → Rep X.K c.F a x → Rep X.K c.F b y → g a b = some d →
    (∀ v c', PExt c c' → Rep X.K c'.F d v → Q v c'.H) → r x y c.H Q
/-- a call of a built-in -/
structure GC (X : Cx) (f : Value) (g : List D → Option D) : Prop where
  run : ∃ r : List V → Hp → VK → Prop, CallR X f r ∧ ∀ (c : C3) (xs : List V) (ds : List D) (d : D) (Q : VK), Sub c.F c.H → Reps X.K c.F ds xs → g ds = some d →
    (∀ v c', PExt c c' → Rep X.K c'.F d v → Q v c'.H) → r xs c.H Q
section
variable {X : Cx} {W : Wd}
/-! ### expressions -/
def eVar {W : Wd} (i : Nat) : EF W D := fun ρ s => match ρ[i]? with
  | some (.v d) => some (d, s)
  | _ => none
theorem ge_var {i : Nat} {e : Expr} (h : PE X e (tVar i)) : GE X W e (eVar i) := by
  refine ⟨⟨_, h, fun c σ ρ s d s' Q st hf q => ?_⟩⟩
  unfold eVar at hf
  split at hf
  · rename_i d' e
    cases hf
    obtain ⟨x, h1, r⟩ := st.sl.ok i _ e
    exact ⟨x, h1, q x c (Ext.refl c) st.ok r⟩
  · cases hf
def eC {W : Wd} (d : D) : EF W D := fun _ s => some (d, s)
theorem ge_const {e : Expr} {v : V} {d : D} (h : PE X e (tC v)) (r : ∀ F, Rep X.K F d v) : GE X W e (eC d) := by
  refine ⟨⟨_, h, fun c σ ρ s d s' Q st hf q => ?_⟩⟩
  cases hf
  exact q v c (Ext.refl c) st.ok (r _)
theorem ge_int {i j pos} : GE X W (.Constant (.int i) j pos) (eC (.int i)) := ge_const pe_int fun _ => Rep.int_iff.mpr rfl
theorem ge_bl {b j pos} : GE X W (.Constant (.bool b) j pos) (eC (.bl b)) := ge_const pe_bl fun _ => Rep.bl_iff.mpr rfl
theorem ge_non {j pos} : GE X W (.Constant .none j pos) (eC .non) := ge_const pe_non fun _ => Rep.non_iff.mpr rfl
theorem ge_str {x j pos} : GE X W (.Constant (.str x) j pos) (eC (.str x)) := ge_const pe_str fun _ => Rep.str_iff.mpr rfl
/-- a module's int constant -/
theorem ge_globI {x : Str} {i : Int} {t : Tok} {pos : Pos} (hg : Gl X x) (hm : X.mg x = some (.int i t)) (hd : (x == ("__debug__" : Str)) = false := by decide) : GE X W (.Name x pos) (eC (.int i)) :=
  ge_const (pe_glob hg hm (v := .int i) ⟨_, rfl⟩ hd) fun _ => Rep.int_iff.mpr rfl
def eBin {W : Wd} (g : D → D → Option D) (fa fb : EF W D) : EF W D := fun ρ s => (fa ρ s).bind fun r => (fb ρ r.2).bind fun q => (g r.1 q.1).map fun d => (d, q.2)
theorem two_run {fa fb : EF W D} {ta tb : TE} {g : D → D → Option D} {r : R2}
    (qa : ∀ (c : C3) (σ : SS) (ρ : Env) (s : W.S) (d : D) (s' : W.S) (Q : VK), Sta X.K W c σ ρ s → fa ρ s = some (d, s') → (∀ v c', Ext c c' → Okh W c' s' → Rep X.K c'.F d v → Q v c'.H) → ta σ c.H Q)
    (qb : ∀ (c : C3) (σ : SS) (ρ : Env) (s : W.S) (d : D) (s' : W.S) (Q : VK), Sta X.K W c σ ρ s → fb ρ s = some (d, s') → (∀ v c', Ext c c' → Okh W c' s' → Rep X.K c'.F d v → Q v c'.H) → tb σ c.H Q)
    (qo : ∀ (c : C3) (x y : V) (a b d : D) (Q : VK), Sub c.F c.H → Rep X.K c.F a x → Rep X.K c.F b y → g a b = some d → (∀ v c', PExt c c' → Rep X.K c'.F d v → Q v c'.H) → r x y c.H Q)
    (c : C3) (σ : SS) (ρ : Env) (s : W.S) (d : D) (s' : W.S) (Q : VK) (st : Sta X.K W c σ ρ s) (hf : eBin g fa fb ρ s = some (d, s'))
    (q : ∀ v c', Ext c c' → Okh W c' s' → Rep X.K c'.F d v → Q v c'.H) : tOp r ta tb σ c.H Q := by
  simp only [eBin, Option.bind_eq_some_iff, Option.map_eq_some_iff] at hf
  obtain ⟨⟨da, s1⟩, h1, ⟨db, s2⟩, h2, d', h3, e⟩ := hf
  cases e
  refine qa c σ ρ s da s1 _ st h1 fun x c1 e1 o1 r1 => ?_
  refine qb c1 σ ρ s1 db s2 _ (st.step e1 o1) h2 fun y c2 e2 o2 r2 => ?_
  refine qo c2 x y da db d _ o2.sub (r1.mono e2.fle) r2 h3 fun v c3 e3 r3 => ?_
  exact q v c3 (e1.trans (e2.trans e3.ext)) (o2.pext e3) r3
theorem ge_bin {op : Operator} {a b : Expr} {pos : Pos} {fa fb : EF W D} {g : D → D → Option D} (ho : GO X (binaryOp op) g) (ha : GE X W a fa) (hb : GE X W b fb) : GE X W (.BinOp a op b pos) (eBin g fa fb) := by
  obtain ⟨ta, pa, qa⟩ := ha.run
  obtain ⟨tb, pb, qb⟩ := hb.run
  obtain ⟨r, po, qo⟩ := ho.run
  exact ⟨⟨_, pe_op po pa pb, two_run qa qb qo⟩⟩
theorem ge_cmp {op : CmpOp} {a b : Expr} {pos : Pos} {fa fb : EF W D} {g : D → D → Option D} (ho : GO X (compareOp op) g) (ha : GE X W a fa) (hb : GE X W b fb) (hm : behindInMarks op b = false) : GE X W (.Compare a [op] [b] pos) (eBin g fa fb) := by
  obtain ⟨ta, pa, qa⟩ := ha.run
  obtain ⟨tb, pb, qb⟩ := hb.run
  obtain ⟨r, po, qo⟩ := ho.run
  exact ⟨⟨_, pe_cmpR po pa pb hm, two_run qa qb qo⟩⟩
def toB {W : Wd} (f : EF W D) : EF W Bool := fun ρ s => (f ρ s).bind fun r => match r.1 with
  | .bl b => some (b, r.2)
  | _ => none
theorem toB_some {f : EF W D} {ρ : Env} {s s' : W.S} {b : Bool} (h : toB f ρ s = some (b, s')) : f ρ s = some (.bl b, s') := by
  simp only [toB, Option.bind_eq_some_iff] at h
  obtain ⟨⟨d, s1⟩, h1, h2⟩ := h
  cases d <;> simp at h2
  obtain ⟨rfl, rfl⟩ := h2
  exact h1
theorem gt_cmp {op : CmpOp} {a b : Expr} {pos : Pos} {fa fb : EF W D} {g : D → D → Option D} (ho : GO X (compareOp op) g) (ha : GE X W a fa) (hb : GE X W b fb) (hm : behindInMarks op b = false) : GT X W (.Compare a [op] [b] pos) (toB (eBin g fa fb)) := by
  obtain ⟨ta, pa, qa⟩ := ha.run
  obtain ⟨tb, pb, qb⟩ := hb.run
  obtain ⟨r, po, qo⟩ := ho.run
  refine ⟨⟨_, pt_cmpR po pa pb hm, fun c σ ρ s b s' Q st hf q => ?_⟩⟩
  refine two_run qa qb qo c σ ρ s _ s' _ st (toB_some hf) fun v c' e o r => ?_
  exact ⟨b, Rep.bl_iff.mp r, q c' e o⟩
/-- any expression that gives a bool, as a test -/
theorem gt_val {e : Expr} {f : EF W D} (h : GE X W e f) (he : ∀ whole, isTrue e X.env whole = (do let v ← whole; standAt e.pos; holding [v] (truthy v)) := by intro _; rfl) : GT X W e (toB f) := by
  obtain ⟨t, p, q0⟩ := h.run
  refine ⟨⟨_, pt_val p he, fun c σ ρ s b s' Q st hf q => ?_⟩⟩
  refine q0 c σ ρ s _ s' _ st (toB_some hf) fun v c' e o r => ?_
  exact ⟨b, Rep.bl_iff.mp r, q c' e o⟩
def tAnd2 {W : Wd} (f g : EF W Bool) : EF W Bool := fun ρ s => (f ρ s).bind fun r => if r.1 = true then g ρ r.2 else some (false, r.2)
def tOr2 {W : Wd} (f g : EF W Bool) : EF W Bool := fun ρ s => (f ρ s).bind fun r => if r.1 = true then some (true, r.2) else g ρ r.2
def tNot1 {W : Wd} (f : EF W Bool) : EF W Bool := fun ρ s => (f ρ s).map fun r => (!r.1, r.2)
theorem gw_and1 {a : Expr} {pos : Pos} {f : EF W Bool} (h : GT X W a f) : GW X W (.BoolOp .And [a] pos) f := by
  obtain ⟨t, p, q⟩ := h.run
  exact ⟨⟨_, pw_and1 p, q⟩⟩
theorem gw_or1 {a : Expr} {pos : Pos} {f : EF W Bool} (h : GT X W a f) : GW X W (.BoolOp .Or [a] pos) f := by
  obtain ⟨t, p, q⟩ := h.run
  exact ⟨⟨_, pw_or1 p, q⟩⟩
theorem gw_and {a b : Expr} {rest : List Expr} {pos : Pos} {f g : EF W Bool} (h : GT X W a f) (h2 : GW X W (.BoolOp .And (b :: rest) pos) g) : GW X W (.BoolOp .And (a :: b :: rest) pos) (tAnd2 f g) := by
  obtain ⟨t, p, q⟩ := h.run
  obtain ⟨t2, p2, q2⟩ := h2.run
  refine ⟨⟨_, pw_and p p2, fun c σ ρ s b s' Q st hf k => ?_⟩⟩
  simp only [tAnd2, Option.bind_eq_some_iff] at hf
  obtain ⟨⟨b1, s1⟩, h1, h2⟩ := hf
  refine q c σ ρ s b1 s1 _ st h1 fun c1 e1 o1 => ?_
  cases b1 with
  | true => rw [if_pos rfl]; exact q2 c1 σ ρ s1 b s' _ (st.step e1 o1) (by simpa using h2) fun c2 e2 o2 => k c2 (e1.trans e2) o2
  | false =>
    rw [if_neg Bool.false_ne_true]
    have h3 : some (false, s1) = some (b, s') := by simpa using h2
    cases h3
    exact k c1 e1 o1
theorem gw_or {a b : Expr} {rest : List Expr} {pos : Pos} {f g : EF W Bool} (h : GT X W a f) (h2 : GW X W (.BoolOp .Or (b :: rest) pos) g) : GW X W (.BoolOp .Or (a :: b :: rest) pos) (tOr2 f g) := by
  obtain ⟨t, p, q⟩ := h.run
  obtain ⟨t2, p2, q2⟩ := h2.run
  refine ⟨⟨_, pw_or p p2, fun c σ ρ s b s' Q st hf k => ?_⟩⟩
  simp only [tOr2, Option.bind_eq_some_iff] at hf
  obtain ⟨⟨b1, s1⟩, h1, h2⟩ := hf
  refine q c σ ρ s b1 s1 _ st h1 fun c1 e1 o1 => ?_
  cases b1 with
  | false => rw [if_neg Bool.false_ne_true]; exact q2 c1 σ ρ s1 b s' _ (st.step e1 o1) (by simpa using h2) fun c2 e2 o2 => k c2 (e1.trans e2) o2
  | true =>
    rw [if_pos rfl]
    have h3 : some (true, s1) = some (b, s') := by simpa using h2
    cases h3
    exact k c1 e1 o1
theorem GW.pt {e : Expr} {f : EF W Bool} (h : GW X W e f) : GT X W e f := by
  obtain ⟨t, p, q⟩ := h.run
  exact ⟨⟨_, p.pt, q⟩⟩
theorem gt_not {a : Expr} {pos : Pos} {f : EF W Bool} (h : GT X W a f) : GT X W (.UnaryOp .Not a pos) (tNot1 f) := by
  obtain ⟨t, p, q⟩ := h.run
  refine ⟨⟨_, pt_not p, fun c σ ρ s b s' Q st hf k => ?_⟩⟩
  simp only [tNot1, Option.map_eq_some_iff] at hf
  obtain ⟨⟨b1, s1⟩, h1, e⟩ := hf
  cases e
  exact q c σ ρ s b1 s1 _ st h1 fun c1 e1 o1 => k c1 e1 o1
/-- and, or, not as values (of bools) -/
def eAnd {W : Wd} (f g : EF W D) : EF W D := fun ρ s => (toB f ρ s).bind fun r => if r.1 = true then g ρ r.2 else some (.bl false, r.2)
def eOr {W : Wd} (f g : EF W D) : EF W D := fun ρ s => (toB f ρ s).bind fun r => if r.1 = true then some (.bl true, r.2) else g ρ r.2
def eNot {W : Wd} (f : EF W D) : EF W D := fun ρ s => (toB f ρ s).map fun r => (.bl (!r.1), r.2)
theorem ge_one {op} {a : Expr} {pos : Pos} {f : EF W D} (h : GE X W a f) : GE X W (.BoolOp op [a] pos) f := by
  obtain ⟨t, p, q⟩ := h.run
  exact ⟨⟨_, pe_one p, q⟩⟩
theorem ge_and {a b : Expr} {rest : List Expr} {pos : Pos} {f g : EF W D} (h : GE X W a f) (h2 : GE X W (.BoolOp .And (b :: rest) pos) g) : GE X W (.BoolOp .And (a :: b :: rest) pos) (eAnd f g) := by
  obtain ⟨t, p, q⟩ := h.run
  obtain ⟨t2, p2, q2⟩ := h2.run
  refine ⟨⟨_, pe_and p p2, fun c σ ρ s d s' Q st hf k => ?_⟩⟩
  simp only [eAnd, Option.bind_eq_some_iff] at hf
  obtain ⟨⟨b1, s1⟩, h1, h2⟩ := hf
  refine q c σ ρ s _ s1 _ st (toB_some h1) fun v c1 e1 o1 r1 => ⟨b1, Rep.bl_iff.mp r1, ?_⟩
  cases b1 with
  | true => rw [if_pos rfl]; exact q2 c1 σ ρ s1 d s' _ (st.step e1 o1) (by simpa using h2) fun v c2 e2 o2 r => k v c2 (e1.trans e2) o2 r
  | false =>
    rw [if_neg Bool.false_ne_true]
    have h3 : some (D.bl false, s1) = some (d, s') := by simpa using h2
    cases h3
    exact k _ c1 e1 o1 (Rep.bl_iff.mpr rfl)
theorem ge_or {a b : Expr} {rest : List Expr} {pos : Pos} {f g : EF W D} (h : GE X W a f) (h2 : GE X W (.BoolOp .Or (b :: rest) pos) g) : GE X W (.BoolOp .Or (a :: b :: rest) pos) (eOr f g) := by
  obtain ⟨t, p, q⟩ := h.run
  obtain ⟨t2, p2, q2⟩ := h2.run
  refine ⟨⟨_, pe_or p p2, fun c σ ρ s d s' Q st hf k => ?_⟩⟩
  simp only [eOr, Option.bind_eq_some_iff] at hf
  obtain ⟨⟨b1, s1⟩, h1, h2⟩ := hf
  refine q c σ ρ s _ s1 _ st (toB_some h1) fun v c1 e1 o1 r1 => ⟨b1, Rep.bl_iff.mp r1, ?_⟩
  cases b1 with
  | false => rw [if_neg Bool.false_ne_true]; exact q2 c1 σ ρ s1 d s' _ (st.step e1 o1) (by simpa using h2) fun v c2 e2 o2 r => k v c2 (e1.trans e2) o2 r
  | true =>
    rw [if_pos rfl]
    have h3 : some (D.bl true, s1) = some (d, s') := by simpa using h2
    cases h3
    exact k _ c1 e1 o1 (Rep.bl_iff.mpr rfl)
theorem ge_not {a : Expr} {pos : Pos} {f : EF W D} (h : GE X W a f) : GE X W (.UnaryOp .Not a pos) (eNot f) := by
  obtain ⟨t, p, q⟩ := h.run
  refine ⟨⟨_, pe_not p, fun c σ ρ s d s' Q st hf k => ?_⟩⟩
  simp only [eNot, Option.map_eq_some_iff] at hf
  obtain ⟨⟨b1, s1⟩, h1, e⟩ := hf
  cases e
  exact q c σ ρ s _ s1 _ st (toB_some h1) fun v c1 e1 o1 r1 => ⟨b1, Rep.bl_iff.mp r1, k _ c1 e1 o1 (Rep.bl_iff.mpr rfl)⟩
def eIf {W : Wd} (t : EF W Bool) (f g : EF W D) : EF W D := fun ρ s => (t ρ s).bind fun r => if r.1 = true then f ρ r.2 else g ρ r.2
theorem ge_if {c a b : Expr} {pos : Pos} {t : EF W Bool} {f g : EF W D} (hc : GT X W c t) (ha : GE X W a f) (hb : GE X W b g) : GE X W (.IfExp c a b pos) (eIf t f g) := by
  obtain ⟨tc, pc, qc⟩ := hc.run
  obtain ⟨ta, pa, qa⟩ := ha.run
  obtain ⟨tb, pb, qb⟩ := hb.run
  refine ⟨⟨_, pe_ifExp pc pa pb, fun c σ ρ s d s' Q st hf k => ?_⟩⟩
  simp only [eIf, Option.bind_eq_some_iff] at hf
  obtain ⟨⟨b1, s1⟩, h1, h2⟩ := hf
  refine qc c σ ρ s b1 s1 _ st h1 fun c1 e1 o1 => ?_
  cases b1 with
  | true => rw [if_pos rfl]; exact qa c1 σ ρ s1 d s' _ (st.step e1 o1) (by simpa using h2) fun v c2 e2 o2 r => k v c2 (e1.trans e2) o2 r
  | false => rw [if_neg Bool.false_ne_true]; exact qb c1 σ ρ s1 d s' _ (st.step e1 o1) (by simpa using h2) fun v c2 e2 o2 r => k v c2 (e1.trans e2) o2 r
/-- a op1 b op2 c -/
def eChain {W : Wd} (g g' : D → D → Option D) (fa fb fc : EF W D) : EF W D := fun ρ s => (fa ρ s).bind fun r => (fb ρ r.2).bind fun q => (g r.1 q.1).bind fun d => match d with
  | .bl true => (fc ρ q.2).bind fun z => (g' q.1 z.1).map fun d' => (d', z.2)
  | .bl false => some (.bl false, q.2)
  | _ => none
theorem chain_run {fa fb fc : EF W D} {ta tb tc : TE} {g g' : D → D → Option D} {r r' : R2}
    (qa : ∀ (c : C3) (σ : SS) (ρ : Env) (s : W.S) (d : D) (s' : W.S) (Q : VK), Sta X.K W c σ ρ s → fa ρ s = some (d, s') → (∀ v c', Ext c c' → Okh W c' s' → Rep X.K c'.F d v → Q v c'.H) → ta σ c.H Q)
    (qb : ∀ (c : C3) (σ : SS) (ρ : Env) (s : W.S) (d : D) (s' : W.S) (Q : VK), Sta X.K W c σ ρ s → fb ρ s = some (d, s') → (∀ v c', Ext c c' → Okh W c' s' → Rep X.K c'.F d v → Q v c'.H) → tb σ c.H Q)
    (qc : ∀ (c : C3) (σ : SS) (ρ : Env) (s : W.S) (d : D) (s' : W.S) (Q : VK), Sta X.K W c σ ρ s → fc ρ s = some (d, s') → (∀ v c', Ext c c' → Okh W c' s' → Rep X.K c'.F d v → Q v c'.H) → tc σ c.H Q)
    (qo : ∀ (c : C3) (x y : V) (a b d : D) (Q : VK), Sub c.F c.H → Rep X.K c.F a x → Rep X.K c.F b y → g a b = some d → (∀ v c', PExt c c' → Rep X.K c'.F d v → Q v c'.H) → r x y c.H Q)
    (qo' : ∀ (c : C3) (x y : V) (a b d : D) (Q : VK), Sub c.F c.H → Rep X.K c.F a x → Rep X.K c.F b y → g' a b = some d → (∀ v c', PExt c c' → Rep X.K c'.F d v → Q v c'.H) → r' x y c.H Q)
    (c : C3) (σ : SS) (ρ : Env) (s : W.S) (d : D) (s' : W.S) (Q : VK) (st : Sta X.K W c σ ρ s) (hf : eChain g g' fa fb fc ρ s = some (d, s'))
    (q : ∀ v c', Ext c c' → Okh W c' s' → Rep X.K c'.F d v → Q v c'.H) : tChain r r' ta tb tc σ c.H Q := by
  simp only [eChain, Option.bind_eq_some_iff] at hf
  obtain ⟨⟨da, s1⟩, h1, ⟨db, s2⟩, h2, dd, h3, h4⟩ := hf
  refine qa c σ ρ s da s1 _ st h1 fun x c1 e1 o1 r1 => ?_
  refine qb c1 σ ρ s1 db s2 _ (st.step e1 o1) h2 fun y c2 e2 o2 r2 => ?_
  refine qo c2 x y da db dd _ o2.sub (r1.mono e2.fle) r2 h3 fun v c3 e3 r3 => ?_
  have o3 := o2.pext e3
  have e13 := e1.trans (e2.trans e3.ext)
  cases dd with
  | bl k =>
    refine ⟨k, Rep.bl_iff.mp r3, ?_⟩
    cases k with
    | true =>
      rw [if_pos rfl]
      simp only [Option.bind_eq_some_iff, Option.map_eq_some_iff] at h4
      obtain ⟨⟨dz, s3⟩, h5, d', h6, e6⟩ := h4
      cases e6
      refine qc c3 σ ρ s2 dz s3 _ (st.step e13 o3) h5 fun z c4 e4 o4 r4 => ?_
      refine qo' c4 y z db dz d _ o4.sub ((r2.mono e3.fle).mono e4.fle) r4 h6 fun v c5 e5 r5 => ?_
      exact q v c5 (e13.trans (e4.trans e5.ext)) (o4.pext e5) r5
    | false =>
      rw [if_neg Bool.false_ne_true]
      cases h4
      exact q _ c3 e13 o3 (Rep.bl_iff.mpr rfl)
  | _ => cases h4
theorem ge_chain {op op' : CmpOp} {a b c : Expr} {pos : Pos} {fa fb fc : EF W D} {g g' : D → D → Option D} (ho : GO X (compareOp op) g) (ho' : GO X (compareOp op') g') (ha : GE X W a fa) (hb : GE X W b fb) (hc : GE X W c fc)
    (hm : lastMarks [op, op'] [b, c] = false := by with_unfolding_all rfl) : GE X W (.Compare a [op, op'] [b, c] pos) (eChain g g' fa fb fc) := by
  obtain ⟨ta, pa, qa⟩ := ha.run
  obtain ⟨tb, pb, qb⟩ := hb.run
  obtain ⟨tc, pc, qc⟩ := hc.run
  obtain ⟨r, po, qo⟩ := ho.run
  obtain ⟨r', po', qo'⟩ := ho'.run
  exact ⟨⟨_, pe_chain po po' pa pb pc hm, chain_run qa qb qc qo qo'⟩⟩
theorem gt_chain {op op' : CmpOp} {a b c : Expr} {pos : Pos} {fa fb fc : EF W D} {g g' : D → D → Option D} (ho : GO X (compareOp op) g) (ho' : GO X (compareOp op') g') (ha : GE X W a fa) (hb : GE X W b fb) (hc : GE X W c fc)
    (hm : lastMarks [op, op'] [b, c] = false := by with_unfolding_all rfl) : GT X W (.Compare a [op, op'] [b, c] pos) (toB (eChain g g' fa fb fc)) := by
  obtain ⟨ta, pa, qa⟩ := ha.run
  obtain ⟨tb, pb, qb⟩ := hb.run
  obtain ⟨tc, pc, qc⟩ := hc.run
  obtain ⟨r, po, qo⟩ := ho.run
  obtain ⟨r', po', qo'⟩ := ho'.run
  refine ⟨⟨_, pt_chain po po' pa pb pc hm, fun c σ ρ s b s' Q st hf q => ?_⟩⟩
  refine chain_run qa qb qc qo qo' c σ ρ s _ s' _ st (toB_some hf) fun v c' e o r => ?_
  exact ⟨b, Rep.bl_iff.mp r, q c' e o⟩
/-! ### arguments, displays -/
def aNil {W : Wd} : EF W (List D) := fun _ s => some ([], s)
def aCons {W : Wd} (f : EF W D) (g : EF W (List D)) : EF W (List D) := fun ρ s => (f ρ s).bind fun r => (g ρ r.2).map fun q => (r.1 :: q.1, q.2)
theorem ga_nil : GA X W [] aNil := ⟨⟨_, pa_nil, fun c σ ρ s ds s' Q st hf q => by cases hf; exact q [] c (Ext.refl c) st.ok Reps.nil⟩⟩
theorem ga_cons {e : Expr} {es : List Expr} {f : EF W D} {g : EF W (List D)} (h : GE X W e f) (h2 : GA X W es g) (hs : starEach (e :: es) X.env = (false, eval e X.env) :: starEach es X.env := by rfl) : GA X W (e :: es) (aCons f g) := by
  obtain ⟨t, p, q⟩ := h.run
  obtain ⟨t2, p2, q2⟩ := h2.run
  refine ⟨⟨_, pa_cons p p2 hs, fun c σ ρ s ds s' Q st hf k => ?_⟩⟩
  simp only [aCons, Option.bind_eq_some_iff, Option.map_eq_some_iff] at hf
  obtain ⟨⟨d, s1⟩, h1, ⟨dr, s2⟩, h2, e⟩ := hf
  cases e
  refine q c σ ρ s d s1 _ st h1 fun x c1 e1 o1 r1 => ?_
  refine q2 c1 σ ρ s1 dr s2 _ (st.step e1 o1) h2 fun xs c2 e2 o2 r2 => ?_
  exact k _ c2 (e1.trans e2) o2 (Reps.cons (r1.mono e2.fle) r2)
def eTup {W : Wd} (f : EF W (List D)) : EF W D := fun ρ s => (f ρ s).bind fun r => if r.1.length ≤ sizeLine then some (.tup r.1, r.2) else none
def eLst {W : Wd} (f : EF W (List D)) : EF W D := fun ρ s => (f ρ s).bind fun r => if r.1.length ≤ sizeLine then some (.lst r.1, r.2) else none
theorem Okh.alloc {c : C3} {s : W.S} (o : Okh W c s) {p : Addr} (ob : HO) (hp : c.H p = none) : PExt c ⟨upd c.F p ob, c.G, upd c.H p ob⟩ := PExt.alloc o.sub ob hp
theorem ge_tup {es : List Expr} {x1} {pos : Pos} {f : EF W (List D)} (h : GA X W es f) : GE X W (.Tuple es x1 pos) (eTup f) := by
  obtain ⟨t, p, q⟩ := h.run
  refine ⟨⟨_, pe_tup p, fun c σ ρ s d s' Q st hf k => ?_⟩⟩
  simp only [eTup, Option.bind_eq_some_iff] at hf
  obtain ⟨⟨ds, s1⟩, h1, h2⟩ := hf
  split at h2
  · rename_i hl
    cases h2
    refine q c σ ρ s ds s1 _ st h1 fun xs c1 e1 o1 r1 => ⟨by rw [r1.length]; exact hl, fun a ha => ?_⟩
    have pe := o1.alloc (HO.tup xs) ha
    exact k _ _ (e1.trans pe.ext) (o1.pext pe) (Rep.tup_iff.mpr ⟨a, xs, rfl, .inl (.inl upd_same), r1.mono pe.fle⟩)
  · cases h2
theorem ge_lst {es : List Expr} {pos : Pos} {f : EF W (List D)} (h : GA X W es f) : GE X W (.List es pos) (eLst f) := by
  obtain ⟨t, p, q⟩ := h.run
  refine ⟨⟨_, pe_lst p, fun c σ ρ s d s' Q st hf k => ?_⟩⟩
  simp only [eLst, Option.bind_eq_some_iff] at hf
  obtain ⟨⟨ds, s1⟩, h1, h2⟩ := hf
  split at h2
  · rename_i hl
    cases h2
    refine q c σ ρ s ds s1 _ st h1 fun xs c1 e1 o1 r1 => ⟨by rw [r1.length]; exact hl, fun a ha => ?_⟩
    have pe := o1.alloc (HO.lst xs) ha
    exact k _ _ (e1.trans pe.ext) (o1.pext pe) (Rep.lst_iff.mpr ⟨a, xs, rfl, upd_same, r1.mono pe.fle⟩)
  · cases h2
/-! ### lists and dicts that are read -/
def lOf {W : Wd} (f : EF W D) : EF W (List D) := fun ρ s => (f ρ s).bind fun r => match r.1 with
  | .lst ds => some (ds, r.2)
  | .rol ds => some (ds, r.2)
  | _ => none
theorem gl_of {e : Expr} {f : EF W D} (h : GE X W e f) : GL X W e (lOf f) := by
  obtain ⟨t, p, q⟩ := h.run
  refine ⟨⟨t, p, fun c σ ρ s ds s' Q st hf k => ?_⟩⟩
  simp only [lOf, Option.bind_eq_some_iff] at hf
  obtain ⟨⟨d, s1⟩, h1, h2⟩ := hf
  cases d <;> simp at h2
  · obtain ⟨rfl, rfl⟩ := h2
    refine q c σ ρ s _ _ _ st h1 fun v c1 e1 o1 r1 => ?_
    obtain ⟨a, xs, rfl, ha, rs⟩ := Rep.lst_iff.mp r1
    exact k a xs c1 e1 o1 (.inl (.inl (.inl ha))) rs
  · obtain ⟨rfl, rfl⟩ := h2
    refine q c σ ρ s _ _ _ st h1 fun v c1 e1 o1 r1 => ?_
    obtain ⟨a, xs, rfl, ha, rs⟩ := Rep.rol_iff.mp r1
    exact k a xs c1 e1 o1 (.inl ha) rs
def lOwn {W : Wd} (i : Nat) : EF W (List D) := fun ρ s => match ρ[i]? with
  | some (.ol ds) => some (ds, s)
  | some (.v (.lst ds)) => some (ds, s)
  | _ => none
theorem gl_own {i : Nat} {e : Expr} (h : PE X e (tVar i)) : GL X W e (lOwn i) := by
  refine ⟨⟨_, h, fun c σ ρ s ds s' Q st hf k => ?_⟩⟩
  unfold lOwn at hf
  split at hf
  · rename_i ds' e
    cases hf
    obtain ⟨p, xs, h1, h2, r, hF, hG⟩ := st.sl.ok i _ e
    exact ⟨.ref p, h1, k p xs c (Ext.refl c) st.ok (.inr ⟨h2, hF, hG⟩) r⟩
  · rename_i ds' e
    cases hf
    obtain ⟨x, h1, r⟩ := st.sl.ok i _ e
    obtain ⟨a, xs, rfl, ha, rs⟩ := Rep.lst_iff.mp r
    exact ⟨_, h1, k a xs c (Ext.refl c) st.ok (.inl (.inl (.inl ha))) rs⟩
  · cases hf
def dOf {W : Wd} (f : EF W D) : EF W (List Key × List D) := fun ρ s => (f ρ s).bind fun r => match r.1 with
  | .dct ks ds => some ((ks, ds), r.2)
  | _ => none
theorem gd_of {e : Expr} {f : EF W D} (h : GE X W e f) : GD X W e (dOf f) := by
  obtain ⟨t, p, q⟩ := h.run
  refine ⟨⟨t, p, fun c σ ρ s ks ds s' Q st hf k => ?_⟩⟩
  simp only [dOf, Option.bind_eq_some_iff] at hf
  obtain ⟨⟨d, s1⟩, h1, h2⟩ := hf
  cases d <;> simp at h2
  obtain ⟨⟨rfl, rfl⟩, rfl⟩ := h2
  refine q c σ ρ s _ _ _ st h1 fun v c1 e1 o1 r1 => ?_
  obtain ⟨a, kvs, rfl, ha, hk, rs⟩ := Rep.dct_iff.mp r1
  exact k a kvs c1 e1 o1 (.inl ha) hk rs
def dOwn {W : Wd} (i : Nat) : EF W (List Key × List D) := fun ρ s => match ρ[i]? with
  | some (.od ks ds) => some ((ks, ds), s)
  | some (.lk ks ds) => some ((ks, ds), s)
  | some (.v (.dct ks ds)) => some ((ks, ds), s)
  | _ => none
theorem gd_own {i : Nat} {e : Expr} (h : PE X e (tVar i)) : GD X W e (dOwn i) := by
  refine ⟨⟨_, h, fun c σ ρ s ks ds s' Q st hf k => ?_⟩⟩
  unfold dOwn at hf
  split at hf
  · rename_i ks' ds' e
    cases hf
    obtain ⟨p, xs, h1, h2, hk, r, hF, hG⟩ := st.sl.ok i _ e
    exact ⟨.ref p, h1, k p xs c (Ext.refl c) st.ok (.inr (.inl ⟨h2, hF, hG⟩)) hk r⟩
  · rename_i ks' ds' e
    cases hf
    obtain ⟨p, xs, ob, h1, h2, hk, r, hF, hG⟩ := st.sl.ok i _ e
    exact ⟨.ref p, h1, k p xs c (Ext.refl c) st.ok (.inr (.inr ⟨ob, h2, hF, hG⟩)) hk r⟩
  · rename_i ks' ds' e
    cases hf
    obtain ⟨x, h1, r⟩ := st.sl.ok i _ e
    obtain ⟨a, kvs, rfl, ha, hk, rs⟩ := Rep.dct_iff.mp r
    exact ⟨_, h1, k a kvs c (Ext.refl c) st.ok (.inl ha) hk rs⟩
  · cases hf
end
end MP
/-! MpB: operators and built-ins over data. -/
namespace MP
open PySem PySem.Spec PyProof.Rows L2
/-! ### sizes -/
instance (a b : Int) : Decidable (IntMulOk a b) := by unfold IntMulOk; infer_instance
theorem intBits_log2 (x : Int) : Builtin.Int.intBits x ≤ x.natAbs.log2 + 1 := by
  unfold Builtin.Int.intBits
  split <;> omega
theorem mulOk_of {i j : Int} {a b : Nat} (ha : i.natAbs < 2 ^ a) (hb : j.natAbs < 2 ^ b) (h0 : 0 < a) (h1 : 0 < b) (h : a + b ≤ 134000000) : IntMulOk i j := by
  have x := PySem.Flt.log2_lt_of h0 ha
  have y := PySem.Flt.log2_lt_of h1 hb
  have e1 := intBits_log2 i
  have e2 := intBits_log2 j
  have e : bitsLine = 134217728 := by decide
  unfold IntMulOk
  intro z
  rw [Bool.and_eq_true] at z
  have z2 := z.2
  unfold Builtin.Int.intTooBig at z2
  have z3 := of_decide_eq_true z2
  rw [e] at z3
  omega
theorem mulOk_left {i j : Int} (h1 : -(2 ^ 64) < i) (h2 : i < 2 ^ 64) : IntMulOk i j := .of_left (intBits_le_64 h1 h2)
theorem mulOk_right {i j : Int} (h1 : -(2 ^ 64) < j) (h2 : j < 2 ^ 64) : IntMulOk i j := .of_right (intBits_le_64 h1 h2)
theorem mulOk_bits {i j : Int} (h : Builtin.Int.intBits i + Builtin.Int.intBits j ≤ 134217728) : IntMulOk i j := by
  have e : bitsLine = 134217728 := by decide
  unfold IntMulOk
  intro z
  rw [Bool.and_eq_true] at z
  have z2 := z.2
  unfold Builtin.Int.intTooBig at z2
  have z3 := of_decide_eq_true z2
  rw [e] at z3
  omega
/-- a divisor that // takes -/
def DivOk (b : Int) : Prop := b ≠ 0 ∧ b.natAbs.log2 < 9000
instance (b : Int) : Decidable (DivOk b) := by unfold DivOk; infer_instance
theorem divOk_of {b : Int} {n : Nat} (h : b ≠ 0) (hb : b.natAbs < 2 ^ n) (h0 : 0 < n) (h9 : n ≤ 9000) : DivOk b := ⟨h, Nat.lt_of_lt_of_le (PySem.Flt.log2_lt_of h0 hb) h9⟩
/-! ### arithmetic -/
def addD : D → D → Option D
  | .int a, .int b => some (.int (a + b))
  | .str a, .str b => if a.length + b.length ≤ sizeLine then some (.str (a ++ b)) else none
  | .lst a, .lst b => if a.length + b.length ≤ sizeLine then some (.lst (a ++ b)) else none
  | _, _ => none
def subD : D → D → Option D
  | .int a, .int b => some (.int (a - b))
  | _, _ => none
def mulD : D → D → Option D
  | .int a, .int b => if IntMulOk a b then some (.int (a * b)) else none
  | .lst a, .int k => if -(2 ^ 63) ≤ k ∧ k < 2 ^ 63 ∧ a.length * k.toNat ≤ sizeLine then some (.lst (List.replicate k.toNat a).flatten) else none
  | _, _ => none
def fdivD : D → D → Option D
  | .int a, .int b => if DivOk b then some (.int (a.fdiv b)) else none
  | _, _ => none
def modD : D → D → Option D
  | .int a, .int b => if b ≠ 0 then some (.int (a.fmod b)) else none
  | _, _ => none
def powD : D → D → Option D
  | .int a, .int b => if 0 ≤ b ∧ b ≤ 1000000 ∧ a.natAbs < 2 ^ 64 then some (.int (a ^ b.toNat)) else none
  | _, _ => none
theorem reps_rep {K : PySem.W.Frag} {F : Hp} {ds : List D} {xs : List V} (r : Reps K F ds xs) : ∀ n : Nat, Reps K F (List.replicate n ds).flatten (List.replicate n xs).flatten
  | 0 => Reps.nil
  | n + 1 => by
    simp only [List.replicate_succ, List.flatten_cons]
    exact r.append (reps_rep r n)
section
variable {X : Cx}
theorem op_subI : GO X (binaryOp .Sub) subD := ⟨⟨_, op_sub, fun c x y a b d Q s ra rb h q => by
  cases a <;> cases b <;> simp [subD] at h
  subst h
  exact ⟨_, _, Rep.int_iff.mp ra, Rep.int_iff.mp rb, q _ c (PExt.refl c) (Rep.int_iff.mpr rfl)⟩⟩⟩
theorem op_modI : GO X (binaryOp .Mod) modD := ⟨⟨_, op_modN, fun c x y a b d Q s ra rb h q => by
  cases a <;> cases b <;> simp only [modD] at h <;> try (cases h)
  split at h
  · rename_i hb
    cases h
    exact ⟨_, _, Rep.int_iff.mp ra, Rep.int_iff.mp rb, hb, q _ c (PExt.refl c) (Rep.int_iff.mpr rfl)⟩
  · cases h⟩⟩
theorem op_fdivG : OpR X (binaryOp .FloorDiv) (rI (fun _ j => j ≠ 0 ∧ j.natAbs.log2 < 9000) fun i j => .int (i.fdiv j)) := opI fun i j _ _ _ _ _ hc q =>
  floordiv_int hc.1 q (.inl (PyProof.noPylong_of_log2 hc.2))
theorem op_fdivI : GO X (binaryOp .FloorDiv) fdivD := ⟨⟨_, op_fdivG, fun c x y a b d Q s ra rb h q => by
  cases a <;> cases b <;> simp only [fdivD] at h <;> try (cases h)
  split at h
  · rename_i hb
    cases h
    exact ⟨_, _, Rep.int_iff.mp ra, Rep.int_iff.mp rb, hb, q _ c (PExt.refl c) (Rep.int_iff.mpr rfl)⟩
  · cases h⟩⟩
theorem op_powI : GO X (binaryOp .Pow) powD := ⟨⟨_, op_pow, fun c x y a b d Q s ra rb h q => by
  cases a <;> cases b <;> simp only [powD] at h <;> try (cases h)
  split at h
  · rename_i hb
    cases h
    exact ⟨_, _, Rep.int_iff.mp ra, Rep.int_iff.mp rb, hb, q _ c (PExt.refl c) (Rep.int_iff.mpr rfl)⟩
  · cases h⟩⟩
theorem op_mulG : OpR X (binaryOp .Mult) (rI IntMulOk fun i j => .int (i * j)) := opI fun _ _ _ _ _ _ _ hc q => mul_int q hc
theorem op_mulI : GO X (binaryOp .Mult) mulD := ⟨⟨_, op_mulG.or op_rep, fun c x y a b d Q s ra rb h q => by
  cases a <;> cases b <;> simp only [mulD] at h <;> try (cases h)
  · split at h
    · rename_i hb
      cases h
      exact .inl ⟨_, _, Rep.int_iff.mp ra, Rep.int_iff.mp rb, hb, q _ c (PExt.refl c) (Rep.int_iff.mpr rfl)⟩
    · cases h
  · split at h
    · rename_i ds k hb
      cases h
      obtain ⟨l, xs, rfl, hl, rs⟩ := Rep.lst_iff.mp ra
      refine .inr ⟨l, k, xs, rfl, Rep.int_iff.mp rb, s.lst hl, hb.1, hb.2.1, by rw [rs.length]; exact hb.2.2, fun p hp => ?_⟩
      have pe := PExt.alloc s (HO.lst (List.replicate k.toNat xs).flatten) hp
      refine q _ _ pe (Rep.lst_iff.mpr ⟨p, _, rfl, upd_same, ?_⟩)
      have rs' := rs.mono (K := X.K) pe.fle
      exact reps_rep rs' k.toNat
    · cases h⟩⟩
theorem op_addI : GO X (binaryOp .Add) addD := ⟨⟨_, (op_add.or op_add_str).or op_cat, fun c x y a b d Q s ra rb h q => by
  cases a <;> cases b <;> simp only [addD] at h <;> try (cases h)
  · exact .inl (.inl ⟨_, _, Rep.int_iff.mp ra, Rep.int_iff.mp rb, q _ c (PExt.refl c) (Rep.int_iff.mpr rfl)⟩)
  · split at h
    · rename_i hb
      cases h
      exact .inl (.inr ⟨_, _, Rep.str_iff.mp ra, Rep.str_iff.mp rb, hb, q _ c (PExt.refl c) (Rep.str_iff.mpr rfl)⟩)
    · cases h
  · split at h
    · rename_i hb
      cases h
      obtain ⟨l, xs, rfl, hl, rs⟩ := Rep.lst_iff.mp ra
      obtain ⟨l2, ys, rfl, hl2, rs2⟩ := Rep.lst_iff.mp rb
      refine .inr ⟨l, l2, xs, ys, rfl, rfl, s.lst hl, s.lst hl2, by rw [rs.length, rs2.length]; exact hb, fun p hp => ?_⟩
      have pe := PExt.alloc s (HO.lst (xs ++ ys)) hp
      exact q _ _ pe (Rep.lst_iff.mpr ⟨p, _, rfl, upd_same, (rs.mono pe.fle).append (rs2.mono pe.fle)⟩)
    · cases h⟩⟩
/-- unary minus -/
def negD : D → Option D
  | .int a => some (.int (-a))
  | _ => none
end
section
variable {X : Cx} {W : Wd}
def eUn {W : Wd} (g : D → Option D) (f : EF W D) : EF W D := fun ρ s => (f ρ s).bind fun r => (g r.1).map fun d => (d, r.2)
theorem ge_neg {a : Expr} {pos : Pos} {f : EF W D} (h : GE X W a f) : GE X W (.UnaryOp .USub a pos) (eUn negD f) := by
  obtain ⟨t, p, q⟩ := h.run
  refine ⟨⟨_, pe_un un_neg p, fun c σ ρ s d s' Q st hf k => ?_⟩⟩
  simp only [eUn, Option.bind_eq_some_iff, Option.map_eq_some_iff] at hf
  obtain ⟨⟨d1, s1⟩, h1, d2, h2, e⟩ := hf
  cases e
  refine q c σ ρ s d1 s1 _ st h1 fun v c1 e1 o1 r1 => ?_
  cases d1 <;> simp [negD] at h2
  subst h2
  exact ⟨_, Rep.int_iff.mp r1, k _ c1 e1 o1 (Rep.int_iff.mpr rfl)⟩
end
/-! ### comparisons -/
def cmpI (p : Int → Int → Bool) : D → D → Option D
  | .int a, .int b => some (.bl (p a b))
  | _, _ => none
section
variable {X : Cx}
theorem cmp_of {op : CmpOp} {p : Int → Int → Bool} (h : OpR X (compareOp op) (rI0 fun i j => .bl (p i j))) : GO X (compareOp op) (cmpI p) := ⟨⟨_, h, fun c x y a b d Q s ra rb h q => by
  cases a <;> cases b <;> simp [cmpI] at h
  subst h
  exact ⟨_, _, Rep.int_iff.mp ra, Rep.int_iff.mp rb, q _ c (PExt.refl c) (Rep.bl_iff.mpr rfl)⟩⟩⟩
abbrev ltD := cmpI fun i j => decide (i < j)
abbrev leD := cmpI fun i j => decide (i ≤ j)
abbrev gtD := cmpI fun i j => decide (j < i)
abbrev geD := cmpI fun i j => decide (j ≤ i)
theorem op_ltI : GO X (compareOp .Lt) ltD := cmp_of op_lt
theorem op_leI : GO X (compareOp .LtE) leD := cmp_of op_le
theorem op_gtI : GO X (compareOp .Gt) gtD := cmp_of op_gt
theorem op_geI : GO X (compareOp .GtE) geD := cmp_of op_ge
end
/-! ### == of data -/
mutual
/-- data without dicts, as the library's -/
def pyD : D → Option PyData
  | .non => some .none
  | .bl b => some (.bool b)
  | .int i => some (.int i)
  | .str x => some (.str x)
  | .tup ds => (pyDs ds).map .tuple
  | .lst ds => (pyDs ds).map .list
  | .rol ds => (pyDs ds).map .list
  | _ => none
def pyDs : List D → Option (List PyData)
  | [] => some []
  | d :: ds => (pyD d).bind fun p => (pyDs ds).map fun q => p :: q
end
section
variable {X : Cx} {pins : List (Addr × Obj)} {σ : SS} {H : Hp} {s : Shared} {F : Hp}
mutual
theorem reads_of (I : Inv X pins σ H s) (S : Sub F H) : ∀ {d : D} {p : PyData} {x : V} {v : Value}, pyD d = some p → Rep X.K F d x → RelV x v → ∃ as, Reads s.heap v p as
  | .non, p, x, v, e, r, rv => by
    simp only [pyD, Option.some.injEq] at e; subst e
    rw [Rep.non_iff.mp r] at rv; cases rv; exact ⟨_, .none⟩
  | .bl b, p, x, v, e, r, rv => by
    simp only [pyD, Option.some.injEq] at e; subst e
    rw [Rep.bl_iff.mp r] at rv; cases rv; exact ⟨_, .bool b⟩
  | .int i, p, x, v, e, r, rv => by
    simp only [pyD, Option.some.injEq] at e; subst e
    rw [Rep.int_iff.mp r] at rv; obtain ⟨t, rfl⟩ := rv; exact ⟨_, .int i t⟩
  | .str i, p, x, v, e, r, rv => by
    simp only [pyD, Option.some.injEq] at e; subst e
    rw [Rep.str_iff.mp r] at rv; obtain ⟨t, rfl⟩ := rv; exact ⟨_, .str i t⟩
  | .tup ds, p, x, v, e, r, rv => by
    simp only [pyD, Option.map_eq_some_iff] at e
    obtain ⟨ps, e1, rfl⟩ := e
    obtain ⟨a, xs, rfl, h, rs⟩ := Rep.tup_iff.mp r
    cases (show v = Value.ref a from rv)
    obtain ⟨its, rr, ⟨o, h1, h2, n, h3⟩, _⟩ := I.tuple (S.sqT h)
    obtain ⟨as, q⟩ := reads_all I S e1 rs rr
    exact ⟨_, .tuple h1 h2 h3 q⟩
  | .lst ds, p, x, v, e, r, rv => by
    simp only [pyD, Option.map_eq_some_iff] at e
    obtain ⟨ps, e1, rfl⟩ := e
    obtain ⟨a, xs, rfl, h, rs⟩ := Rep.lst_iff.mp r
    cases (show v = Value.ref a from rv)
    obtain ⟨its, rr, pl, _⟩ := I.list (.inl (.inl (S.lst h)))
    obtain ⟨o, h1, h2, n, h3⟩ := pl.isList
    obtain ⟨as, q⟩ := reads_all I S e1 rs rr
    exact ⟨_, .list h1 h2 h3 q⟩
  | .rol ds, p, x, v, e, r, rv => by
    simp only [pyD, Option.map_eq_some_iff] at e
    obtain ⟨ps, e1, rfl⟩ := e
    obtain ⟨a, xs, rfl, h, rs⟩ := Rep.rol_iff.mp r
    cases (show v = Value.ref a from rv)
    obtain ⟨its, rr, pl, _⟩ := I.list (S.sqL h)
    obtain ⟨o, h1, h2, n, h3⟩ := pl.isList
    obtain ⟨as, q⟩ := reads_all I S e1 rs rr
    exact ⟨_, .list h1 h2 h3 q⟩
  | .ty n, p, x, v, e, r, rv => by simp [pyD] at e
  | .obj n, p, x, v, e, r, rv => by simp [pyD] at e
  | .dct ks ds, p, x, v, e, r, rv => by simp [pyD] at e
theorem reads_all (I : Inv X pins σ H s) (S : Sub F H) : ∀ {ds : List D} {ps : List PyData} {xs : List V} {vs : List Value}, pyDs ds = some ps → Reps X.K F ds xs → Vals xs vs → ∃ as, ReadsAll s.heap vs ps as
  | [], ps, xs, vs, e, r, rv => by
    simp only [pyDs, Option.some.injEq] at e; subst e
    rw [Reps.nil_iff.mp r] at rv; cases rv; exact ⟨_, .nil⟩
  | d :: ds, ps, xs, vs, e, r, rv => by
    simp only [pyDs, Option.bind_eq_some_iff, Option.map_eq_some_iff] at e
    obtain ⟨p, e1, q, e2, rfl⟩ := e
    obtain ⟨x, rr, rfl, h, t⟩ := Reps.cons_iff.mp r
    cases rv with
    | cons r1 r2 =>
      obtain ⟨as, h1⟩ := reads_of I S e1 h r1
      obtain ⟨bs, h2⟩ := reads_all I S e2 t r2
      exact ⟨_, .cons h1 h2⟩
end
end
def eqD (a b : D) : Option Bool := (pyD a).bind fun p => (pyD b).bind fun q => if SeqAt.shaped p = true ∧ SeqAt.shaped q = true then some (PyData.eqv p q) else none
def eqDD (a b : D) : Option D := (eqD a b).map .bl
def neDD (a b : D) : Option D := (eqD a b).map fun e => .bl (!e)
section
variable {X : Cx}
theorem eqD_some {a b : D} {e : Bool} (h : eqD a b = some e) : ∃ p q, pyD a = some p ∧ pyD b = some q ∧ SeqAt.shaped p = true ∧ SeqAt.shaped q = true ∧ PyData.eqv p q = e := by
  simp only [eqD, Option.bind_eq_some_iff] at h
  obtain ⟨p, h1, q, h2, h3⟩ := h
  split at h3
  · rename_i hs
    cases h3
    exact ⟨p, q, h1, h2, hs.1, hs.2, rfl⟩
  · cases h3
theorem op_eqI (hu : X.A.units + 64 < cLine) : GO X (compareOp .Eq) eqDD :=
  ⟨⟨fun x y H Q => ∃ (F : Hp) (a b : D) (e : Bool), Sub F H ∧ Rep X.K F a x ∧ Rep X.K F b y ∧ eqD a b = some e ∧ Q (.bl e) H, fun pins s σ H x y v u Q I rx ry h => by
    obtain ⟨F, a, b, e, S, ra, rb, he, q⟩ := h
    obtain ⟨p, p2, h1, h2, h3, h4, rfl⟩ := eqD_some he
    obtain ⟨as, r1⟩ := reads_of I S h1 ra rx
    obtain ⟨bs, r2⟩ := reads_of I S h2 rb ry
    exact PyProof.Rows.eq_dataH r1 r2 h3 h4 hu ⟨.bl _, H, I, rfl, q⟩, fun c x y a b d Q S ra rb h q => by
    simp only [eqDD, Option.map_eq_some_iff] at h
    obtain ⟨e, he, rfl⟩ := h
    exact ⟨c.F, a, b, e, S, ra, rb, he, q _ c (PExt.refl c) (Rep.bl_iff.mpr rfl)⟩⟩⟩
theorem op_neI (hu : X.A.units + 64 < cLine) : GO X (compareOp .NotEq) neDD :=
  ⟨⟨fun x y H Q => ∃ (F : Hp) (a b : D) (e : Bool), Sub F H ∧ Rep X.K F a x ∧ Rep X.K F b y ∧ eqD a b = some e ∧ Q (.bl (!e)) H, fun pins s σ H x y v u Q I rx ry h => by
    obtain ⟨F, a, b, e, S, ra, rb, he, q⟩ := h
    obtain ⟨p, p2, h1, h2, h3, h4, rfl⟩ := eqD_some he
    obtain ⟨as, r1⟩ := reads_of I S h1 ra rx
    obtain ⟨bs, r2⟩ := reads_of I S h2 rb ry
    exact PyProof.Rows.ne_dataH r1 r2 h3 h4 hu ⟨.bl _, H, I, rfl, q⟩, fun c x y a b d Q S ra rb h q => by
    simp only [neDD, Option.map_eq_some_iff] at h
    obtain ⟨e, he, rfl⟩ := h
    exact ⟨c.F, a, b, e, S, ra, rb, he, q _ c (PExt.refl c) (Rep.bl_iff.mpr rfl)⟩⟩⟩
def isNon : D → Bool
  | .non => true
  | _ => false
theorem rep_non {K : PySem.W.Frag} {F : Hp} {a : D} {x : V} (r : Rep K F a x) : decide (x = .non) = isNon a := by
  cases a with
  | non => rw [Rep.non_iff.mp r]; rfl
  | bl b => rw [Rep.bl_iff.mp r]; rfl
  | int b => rw [Rep.int_iff.mp r]; rfl
  | str b => rw [Rep.str_iff.mp r]; rfl
  | ty b => simp only [Rep] at r; rw [r]; rfl
  | obj b => rw [Rep.obj_iff.mp r]; rfl
  | tup b => obtain ⟨a, xs, rfl, _⟩ := Rep.tup_iff.mp r; rfl
  | lst b => obtain ⟨a, xs, rfl, _⟩ := Rep.lst_iff.mp r; rfl
  | rol b => obtain ⟨a, xs, rfl, _⟩ := Rep.rol_iff.mp r; rfl
  | dct b => obtain ⟨a, xs, rfl, _⟩ := Rep.dct_iff.mp r; rfl
def isN : D → D → Option D
  | a, .non => some (.bl (isNon a))
  | _, _ => none
def notN : D → D → Option D
  | a, .non => some (.bl (!isNon a))
  | _, _ => none
theorem op_isN' : GO X (compareOp .Is) isN := ⟨⟨_, op_isN, fun c x y a b d Q S ra rb h q => by
  cases b <;> simp [isN] at h
  subst h
  rw [rep_non ra]
  exact ⟨Rep.non_iff.mp rb, q _ c (PExt.refl c) (Rep.bl_iff.mpr rfl)⟩⟩⟩
theorem op_notN' : GO X (compareOp .IsNot) notN := ⟨⟨_, op_notN, fun c x y a b d Q S ra rb h q => by
  cases b <;> simp [notN] at h
  subst h
  rw [rep_non ra]
  exact ⟨Rep.non_iff.mp rb, q _ c (PExt.refl c) (Rep.bl_iff.mpr rfl)⟩⟩⟩
end
end MP
/-! MpC: calls, built-ins, subscripts, in. -/
namespace MP
open PySem PySem.Spec PyProof.Rows L2
/-! ### calls of defs -/
/-- a def that computes fn, changes nothing -/
def spP (K : PySem.W.Frag) (n : Nat) (fn : List D → Option D) : Sp := fun vs H Q _ => vs.length = n ∧ ∃ (c : C3) (ds : List D) (d : D), c.H = H ∧ Sub c.F c.H ∧ Reps K c.F ds vs ∧ fn ds = some d ∧
  ∀ v c', PExt c c' → Rep K c'.F d v → Q v c'.H
/-- a def that computes fn over a world -/
def spW (K : PySem.W.Frag) (W : Wd) (n : Nat) (fn : List D → W.S → Option (D × W.S)) : Sp := fun vs H Q _ => vs.length = n ∧ ∃ (c : C3) (ds : List D) (s : W.S) (d : D) (s' : W.S), c.H = H ∧ Okh W c s ∧ Reps K c.F ds vs ∧ fn ds s = some (d, s') ∧
  ∀ v c', Ext c c' → Okh W c' s' → Rep K c'.F d v → Q v c'.H
def eCall {W : Wd} (n : Nat) (fn : List D → Option D) (dvs : List D) (fa : EF W (List D)) : EF W D := fun ρ s => (fa ρ s).bind fun r => if (r.1 ++ dvs).length = n then (fn (r.1 ++ dvs)).map fun d => (d, r.2) else none
def eCallW {W : Wd} (n : Nat) (fn : List D → W.S → Option (D × W.S)) (dvs : List D) (fa : EF W (List D)) : EF W D := fun ρ s => (fa ρ s).bind fun r => if (r.1 ++ dvs).length = n then fn (r.1 ++ dvs) r.2 else none
section
variable {X : Cx} {W : Wd} {k n : Nat} {f : Addr} {fd : FuncData} {ps : List Str} {x : Str} {p pos : Pos} {e : Expr} {es : List Expr} {dvs : List V} {ddv : List D} {ds : List Value} {fa : EF W (List D)}
theorem ge_call {fn : List D → Option D} (F : FnOk X.prog X.w X.K X.mg X.base CX0 k f fd ps (spP X.K n fn)) (hr : Room k X.A) (hg : Gl X x) (hm : X.mg x = some (.ref f)) (hk : PySem.W.keepIn X.K (.ref f) = true) (hb : Binds X.K fd ps ds) (hd : Vals dvs ds)
    (hdd : ∀ F, Reps X.K F ddv dvs) (ha : GA X W (e :: es) fa) (hdb : (x == ("__debug__" : Str)) = false := by decide) (he : starEach (e :: es) X.env = (false, eval e X.env) :: starEach es X.env := by rfl)
    (hpl : (backTo pos (starEach es X.env)).any (·.1) = false := by rfl) : GE X W (.Call (.Name x p) (e :: es) [] pos) (eCall n fn ddv fa) := by
  obtain ⟨t, pa, qa⟩ := ha.run
  refine ⟨⟨_, pe_call F hr hg hm hk hb hd pass0 pa hdb he hpl, fun c σ ρ s d s' Q st hf q => ?_⟩⟩
  simp only [eCall, Option.bind_eq_some_iff] at hf
  obtain ⟨⟨das, s1⟩, h1, h2⟩ := hf
  split at h2
  · rename_i hl
    simp only [Option.map_eq_some_iff] at h2
    obtain ⟨d', h3, e3⟩ := h2
    cases e3
    refine qa c σ ρ s das _ _ st h1 fun vs c1 e1 o1 r1 => ?_
    have rr := r1.append (hdd c1.F)
    refine ⟨by rw [rr.length]; exact hl, c1, _, d, rfl, o1.sub, rr, h3, fun v c' pe r => ?_⟩
    exact q v c' (e1.trans pe.ext) (o1.pext pe) r
  · cases h2
theorem ge_callW {fn : List D → W.S → Option (D × W.S)} (F : FnOk X.prog X.w X.K X.mg X.base CX0 k f fd ps (spW X.K W n fn)) (hr : Room k X.A) (hg : Gl X x) (hm : X.mg x = some (.ref f)) (hk : PySem.W.keepIn X.K (.ref f) = true) (hb : Binds X.K fd ps ds) (hd : Vals dvs ds)
    (hdd : ∀ F, Reps X.K F ddv dvs) (ha : GA X W (e :: es) fa) (hdb : (x == ("__debug__" : Str)) = false := by decide) (he : starEach (e :: es) X.env = (false, eval e X.env) :: starEach es X.env := by rfl)
    (hpl : (backTo pos (starEach es X.env)).any (·.1) = false := by rfl) : GE X W (.Call (.Name x p) (e :: es) [] pos) (eCallW n fn ddv fa) := by
  obtain ⟨t, pa, qa⟩ := ha.run
  refine ⟨⟨_, pe_call F hr hg hm hk hb hd pass0 pa hdb he hpl, fun c σ ρ s d s' Q st hf q => ?_⟩⟩
  simp only [eCallW, Option.bind_eq_some_iff] at hf
  obtain ⟨⟨das, s1⟩, h1, h2⟩ := hf
  split at h2
  · rename_i hl
    refine qa c σ ρ s das s1 _ st h1 fun vs c1 e1 o1 r1 => ?_
    have rr := r1.append (hdd c1.F)
    refine ⟨by rw [rr.length]; exact hl, c1, _, s1, d, s', rfl, o1, rr, h2, fun v c' pe o r => ?_⟩
    exact q v c' (e1.trans pe) o r
  · cases h2
end
/-- a pure def over any world -/
theorem spW_of {K : PySem.W.Frag} {W : Wd} {n : Nat} {fn : List D → Option D} {vs : List V} {H : Hp} {Q : VK} {E : XK} (h : spW K W n (fun ds s => (fn ds).map fun d => (d, s)) vs H Q E) : spP K n fn vs H Q E := by
  obtain ⟨hl, c, ds, s, d, s', hc, o, r, hf, q⟩ := h
  simp only [Option.map_eq_some_iff] at hf
  obtain ⟨d', h1, e⟩ := hf
  cases e
  exact ⟨hl, c, ds, d, hc, o.sub, r, h1, fun v c' pe rr => q v c' pe.ext (o.pext pe) rr⟩
/-! ### calls of built-ins -/
def eB {W : Wd} (g : List D → Option D) (fa : EF W (List D)) : EF W D := fun ρ s => (fa ρ s).bind fun r => (g r.1).map fun d => (d, r.2)
section
variable {X : Cx} {W : Wd} {x : Str} {p pos : Pos} {e : Expr} {es : List Expr} {fa : EF W (List D)} {g : List D → Option D}
theorem cb_run {t : TA} {r : List V → Hp → VK → Prop}
    (qa : ∀ (c : C3) (σ : SS) (ρ : Env) (s : W.S) (ds : List D) (s' : W.S) (Q : List V → Hp → Prop), Sta X.K W c σ ρ s → fa ρ s = some (ds, s') → (∀ vs c', Ext c c' → Okh W c' s' → Reps X.K c'.F ds vs → Q vs c'.H) → t σ c.H Q)
    (qc : ∀ (c : C3) (xs : List V) (ds : List D) (d : D) (Q : VK), Sub c.F c.H → Reps X.K c.F ds xs → g ds = some d → (∀ v c', PExt c c' → Rep X.K c'.F d v → Q v c'.H) → r xs c.H Q)
    (c : C3) (σ : SS) (ρ : Env) (s : W.S) (d : D) (s' : W.S) (Q : VK) (st : Sta X.K W c σ ρ s) (hf : eB g fa ρ s = some (d, s'))
    (q : ∀ v c', Ext c c' → Okh W c' s' → Rep X.K c'.F d v → Q v c'.H) : tCB r t σ c.H Q := by
  simp only [eB, Option.bind_eq_some_iff, Option.map_eq_some_iff] at hf
  obtain ⟨⟨das, s1⟩, h1, d', h2, e2⟩ := hf
  cases e2
  refine qa c σ ρ s das s1 _ st h1 fun vs c1 e1 o1 r1 => ?_
  exact qc c1 vs das d _ o1.sub r1 h2 fun v c2 pe r2 => q v c2 (e1.trans pe.ext) (o1.pext pe) r2
theorem ge_callB {id : String} (hc : GC X (.builtin id) g) (hg : Gl X x) (hm : X.mg x = none) (hv : bootBuiltins x = some (.builtin id)) (ha : GA X W (e :: es) fa) (hn : x ≠ "__name__" := by decide) (hdb : (x == ("__debug__" : Str)) = false := by decide)
    (he : starEach (e :: es) X.env = (false, eval e X.env) :: starEach es X.env := by rfl) (hpl : (backTo pos (starEach es X.env)).any (·.1) = false := by rfl) : GE X W (.Call (.Name x p) (e :: es) [] pos) (eB g fa) := by
  obtain ⟨t, pa, qa⟩ := ha.run
  obtain ⟨r, pc, qc⟩ := hc.run
  exact ⟨⟨_, pe_callB pc hg hm hv pa hn hdb he hpl, cb_run qa qc⟩⟩
theorem ge_callTy {T : String} (hc : GC X (.type T) g) (hg : Gl X x) (hm : X.mg x = none) (hv : bootBuiltins x = some (.type T)) (ha : GA X W (e :: es) fa) (hn : x ≠ "__name__" := by decide) (hdb : (x == ("__debug__" : Str)) = false := by decide)
    (he : starEach (e :: es) X.env = (false, eval e X.env) :: starEach es X.env := by rfl) (hpl : (backTo pos (starEach es X.env)).any (·.1) = false := by rfl) : GE X W (.Call (.Name x p) (e :: es) [] pos) (eB g fa) := by
  obtain ⟨t, pa, qa⟩ := ha.run
  obtain ⟨r, pc, qc⟩ := hc.run
  exact ⟨⟨_, pe_callTy pc hg hm hv pa hn hdb he hpl, cb_run qa qc⟩⟩
/-- a built-in that the module imported (gcd) -/
theorem ge_callBg {id : String} (hc : GC X (.builtin id) g) (hg : Gl X x) (hm : X.mg x = some (.builtin id)) (ha : GA X W (e :: es) fa) (hdb : (x == ("__debug__" : Str)) = false := by decide)
    (he : starEach (e :: es) X.env = (false, eval e X.env) :: starEach es X.env := by rfl) (hpl : (backTo pos (starEach es X.env)).any (·.1) = false := by rfl) : GE X W (.Call (.Name x p) (e :: es) [] pos) (eB g fa) := by
  obtain ⟨t, pa, qa⟩ := ha.run
  obtain ⟨r, pc, qc⟩ := hc.run
  exact ⟨⟨_, pe_callBfun pc hg hm pa hdb he hpl, cb_run qa qc⟩⟩
end
/-- arguments of which the first is a list that is read -/
def aL {W : Wd} (f : EF W (List D)) : EF W (List D) := fun ρ s => (f ρ s).map fun r => ([.rol r.1], r.2)
section
variable {X : Cx}
def absD : List D → Option D
  | [.int i] => some (.int (if i < 0 then -i else i))
  | _ => none
def intD : List D → Option D
  | [.int i] => some (.int i)
  | _ => none
def maxD : List D → Option D
  | [.int i, .int j] => some (.int (if j > i then j else i))
  | _ => none
def minD : List D → Option D
  | [.int i, .int j] => some (.int (if j < i then j else i))
  | _ => none
def gcdD : List D → Option D
  | [.int i, .int j] => some (.int ((Nat.gcd i.natAbs j.natAbs : Nat) : Int))
  | _ => none
theorem gc_abs : GC X (.builtin "abs") absD := ⟨⟨_, call_abs, fun c xs ds d Q S r h q => by
  unfold absD at h
  split at h
  · cases h
    obtain ⟨x, r1, rfl, h1, r2⟩ := Reps.cons_iff.mp r
    rw [Reps.nil_iff.mp r2, Rep.int_iff.mp h1]
    exact ⟨_, rfl, q _ c (PExt.refl c) (Rep.int_iff.mpr rfl)⟩
  · cases h⟩⟩
theorem gc_int : GC X (.type "int") intD := ⟨⟨_, call_int1, fun c xs ds d Q S r h q => by
  unfold intD at h
  split at h
  · cases h
    obtain ⟨x, r1, rfl, h1, r2⟩ := Reps.cons_iff.mp r
    rw [Reps.nil_iff.mp r2, Rep.int_iff.mp h1]
    exact .inl ⟨_, rfl, q _ c (PExt.refl c) (Rep.int_iff.mpr rfl)⟩
  · cases h⟩⟩
theorem two_ints {K : PySem.W.Frag} {F : Hp} {i j : Int} {xs : List V} (r : Reps K F [.int i, .int j] xs) : xs = [.int i, .int j] := by
  obtain ⟨x, r1, rfl, h1, r2⟩ := Reps.cons_iff.mp r
  obtain ⟨y, r3, rfl, h2, r4⟩ := Reps.cons_iff.mp r2
  rw [Reps.nil_iff.mp r4, Rep.int_iff.mp h1, Rep.int_iff.mp h2]
theorem gc_max (hc : X.calm = true) : GC X (.builtin "max") maxD := ⟨⟨_, call_max2 hc, fun c xs ds d Q S r h q => by
  unfold maxD at h
  split at h
  · cases h
    exact ⟨_, _, two_ints r, q _ c (PExt.refl c) (Rep.int_iff.mpr rfl)⟩
  · cases h⟩⟩
theorem gc_min (hc : X.calm = true) : GC X (.builtin "min") minD := ⟨⟨_, call_min2 hc, fun c xs ds d Q S r h q => by
  unfold minD at h
  split at h
  · cases h
    exact ⟨_, _, two_ints r, q _ c (PExt.refl c) (Rep.int_iff.mpr rfl)⟩
  · cases h⟩⟩
theorem gc_gcd : GC X (.builtin "math.gcd") gcdD := ⟨⟨_, cr_gcd, fun c xs ds d Q S r h q => by
  unfold gcdD at h
  split at h
  · cases h
    exact ⟨_, _, two_ints r, q _ c (PExt.refl c) (Rep.int_iff.mpr rfl)⟩
  · cases h⟩⟩
/-- the items of a list or tuple -/
def seqOf : D → Option (List D)
  | .tup ds => some ds
  | .lst ds => some ds
  | .rol ds => some ds
  | _ => none
theorem rep_seq {K : PySem.W.Frag} {F : Hp} {d : D} {ds : List D} {v : V} (h : seqOf d = some ds) (r : Rep K F d v) : ∃ a xs, v = .ref a ∧ (SqL K F a xs ∨ SqT K F a xs) ∧ Reps K F ds xs := by
  cases d <;> simp [seqOf] at h
  · subst h; obtain ⟨a, xs, e, q, rs⟩ := Rep.tup_iff.mp r; exact ⟨a, xs, e, .inr q, rs⟩
  · subst h; obtain ⟨a, xs, e, q, rs⟩ := Rep.lst_iff.mp r; exact ⟨a, xs, e, .inl (.inl (.inl q)), rs⟩
  · subst h; obtain ⟨a, xs, e, q, rs⟩ := Rep.rol_iff.mp r; exact ⟨a, xs, e, .inl q, rs⟩
def lenD : List D → Option D
  | [.str x] => if x.length ≤ sizeLine then some (.int x.length) else none
  | [.dct ks _] => some (.int ks.length)
  | [d] => (seqOf d).map fun ds => .int ds.length
  | _ => none
theorem call_lenDK : CallR X (.builtin "len") (fun xs H Q => ∃ a kvs, xs = [.ref a] ∧ Rd H a (.dK kvs) ∧ Q (.int kvs.length) H) := by
  intro pins s σ H xs us Q I r h
  obtain ⟨a, kvs, rfl, e, q⟩ := h
  obtain ⟨u, rfl, rx⟩ := vals1 r
  cases (show u = Value.ref a from rx)
  exact d_len I e fun t s' I' => ⟨.int kvs.length, H, I', ⟨_, rfl⟩, q⟩
theorem gc_len : GC X (.builtin "len") lenD := ⟨⟨_, CallR.or call_len call_lenDK, fun c xs ds d Q S r h q => by
  unfold lenD at h
  split at h
  · split at h
    · rename_i x hx
      cases h
      obtain ⟨y, r1, rfl, h1, r2⟩ := Reps.cons_iff.mp r
      rw [Reps.nil_iff.mp r2, Rep.str_iff.mp h1]
      exact .inl ⟨_, _, rfl, ⟨hx, rfl⟩, q _ c (PExt.refl c) (Rep.int_iff.mpr rfl)⟩
    · cases h
  · rename_i ks vs
    cases h
    obtain ⟨y, r1, rfl, h1, r2⟩ := Reps.cons_iff.mp r
    rw [Reps.nil_iff.mp r2]
    obtain ⟨a, kvs, rfl, ha, hk, rs⟩ := Rep.dct_iff.mp h1
    refine .inr ⟨a, kvs, rfl, S.rd ha, ?_⟩
    rw [← hk] at q
    rw [List.length_map] at q
    exact q _ c (PExt.refl c) (Rep.int_iff.mpr rfl)
  · rename_i d0 _ _
    simp only [Option.map_eq_some_iff] at h
    obtain ⟨ds', h1, rfl⟩ := h
    obtain ⟨y, r1, rfl, hy, r2⟩ := Reps.cons_iff.mp r
    rw [Reps.nil_iff.mp r2]
    obtain ⟨a, xs, rfl, ha, rs⟩ := rep_seq h1 hy
    refine .inl ⟨_, xs.length, rfl, ha.elim (fun z => .inl ⟨xs, S.sqL z, rfl⟩) (fun z => .inr ⟨xs, S.sqT z, rfl⟩), ?_⟩
    rw [rs.length]
    exact q _ c (PExt.refl c) (Rep.int_iff.mpr rfl)
  · cases h⟩⟩
/-- a list of ints -/
def intsOf : List D → Option (List Int)
  | [] => some []
  | .int i :: ds => (intsOf ds).map fun r => i :: r
  | _ => none
theorem intsOf_eq : ∀ {ds : List D} {ns : List Int}, intsOf ds = some ns → ds = ns.map D.int
  | [], _, h => by cases h; rfl
  | .int i :: ds, ns, h => by
    simp only [intsOf, Option.map_eq_some_iff] at h
    obtain ⟨r, h1, rfl⟩ := h
    rw [List.map_cons, ← intsOf_eq h1]
  | .non :: _, _, h | .bl _ :: _, _, h | .str _ :: _, _, h | .ty _ :: _, _, h | .obj _ :: _, _, h | .tup _ :: _, _, h | .lst _ :: _, _, h | .rol _ :: _, _, h | .dct _ _ :: _, _, h => by simp [intsOf] at h
theorem intsOf_map : ∀ ns : List Int, intsOf (ns.map D.int) = some ns
  | [] => rfl
  | n :: ns => by rw [List.map_cons, intsOf, intsOf_map ns]; rfl
def blsOf : List D → Option (List Bool)
  | [] => some []
  | .bl i :: ds => (blsOf ds).map fun r => i :: r
  | _ => none
theorem blsOf_eq : ∀ {ds : List D} {ns : List Bool}, blsOf ds = some ns → ds = ns.map D.bl
  | [], _, h => by cases h; rfl
  | .bl i :: ds, ns, h => by
    simp only [blsOf, Option.map_eq_some_iff] at h
    obtain ⟨r, h1, rfl⟩ := h
    rw [List.map_cons, ← blsOf_eq h1]
  | .non :: _, _, h | .int _ :: _, _, h | .str _ :: _, _, h | .ty _ :: _, _, h | .obj _ :: _, _, h | .tup _ :: _, _, h | .lst _ :: _, _, h | .rol _ :: _, _, h | .dct _ _ :: _, _, h => by simp [blsOf] at h
theorem blsOf_map : ∀ ns : List Bool, blsOf (ns.map D.bl) = some ns
  | [] => rfl
  | n :: ns => by rw [List.map_cons, blsOf, blsOf_map ns]; rfl
theorem Reps.bls {K : PySem.W.Frag} {F : Hp} : ∀ {ns : List Bool} {xs : List V}, Reps K F (ns.map D.bl) xs ↔ xs = ns.map V.bl
  | [], xs => by simp [Reps.nil_iff]
  | n :: ns, xs => by
    rw [List.map_cons, Reps.cons_iff, List.map_cons]
    constructor
    · rintro ⟨x, r, rfl, h, t⟩
      rw [Rep.bl_iff.mp h, Reps.bls.mp t]
    · rintro rfl
      exact ⟨_, _, rfl, Rep.bl_iff.mpr rfl, Reps.bls.mpr rfl⟩
/-- the one argument is a list -/
def lst1 : List D → Option (List D)
  | [.lst ds] => some ds
  | [.rol ds] => some ds
  | _ => none
theorem rep_lst1 {K : PySem.W.Frag} {F : Hp} {es ds : List D} {vs : List V} (h : lst1 es = some ds) (r : Reps K F es vs) : ∃ a xs, vs = [.ref a] ∧ SqL K F a xs ∧ Reps K F ds xs := by
  unfold lst1 at h
  split at h
  · cases h
    obtain ⟨y, r1, rfl, hy, r2⟩ := Reps.cons_iff.mp r
    rw [Reps.nil_iff.mp r2]
    obtain ⟨a, xs, rfl, ha, rs⟩ := Rep.lst_iff.mp hy
    exact ⟨a, xs, rfl, .inl (.inl ha), rs⟩
  · cases h
    obtain ⟨y, r1, rfl, hy, r2⟩ := Reps.cons_iff.mp r
    rw [Reps.nil_iff.mp r2]
    obtain ⟨a, xs, rfl, ha, rs⟩ := Rep.rol_iff.mp hy
    exact ⟨a, xs, rfl, ha, rs⟩
  · cases h
def sumD (es : List D) : Option D := (lst1 es).bind fun ds => (intsOf ds).map fun ns => .int ns.sum
theorem gc_sum (hc : X.calm = true) : GC X (.builtin "sum") sumD := ⟨⟨_, cr_sum hc, fun c xs ds d Q S r h q => by
  simp only [sumD, Option.bind_eq_some_iff, Option.map_eq_some_iff] at h
  obtain ⟨es, h1, ns, h2, rfl⟩ := h
  obtain ⟨a, ys, rfl, ha, rs⟩ := rep_lst1 h1 r
  rw [intsOf_eq h2, Reps.ints] at rs
  subst rs
  exact ⟨a, ns, rfl, S.sqL ha, q _ c (PExt.refl c) (Rep.int_iff.mpr rfl)⟩⟩⟩
def allD (es : List D) : Option D := (lst1 es).bind fun ds => (blsOf ds).map fun ns => .bl (ns.all id)
theorem gc_all (hc : X.calm = true) : GC X (.builtin "all") allD := ⟨⟨_, cr_all hc, fun c xs ds d Q S r h q => by
  simp only [allD, Option.bind_eq_some_iff, Option.map_eq_some_iff] at h
  obtain ⟨es, h1, ns, h2, rfl⟩ := h
  obtain ⟨a, ys, rfl, ha, rs⟩ := rep_lst1 h1 r
  rw [blsOf_eq h2, Reps.bls] at rs
  subst rs
  exact ⟨a, ns, rfl, S.sqL ha, q _ c (PExt.refl c) (Rep.bl_iff.mpr rfl)⟩⟩⟩
/-- max of a list of ints -/
def maxL (es : List D) : Option D := (lst1 es).bind fun ds => (intsOf ds).bind fun ns => (ns.max?).map D.int
theorem max_is {ns : List Int} {m k : Int} (h : ns.max? = some m) (hk : k ∈ ns) (hu : ∀ y, y ∈ ns → y ≤ k) : k = m := by
  have h1 := List.max?_eq_some_iff.mp h
  have a := hu m h1.1
  have b := h1.2 k hk
  omega
theorem gc_maxL (hc : X.calm = true) : GC X (.builtin "max") maxL := ⟨⟨_, cr_max hc, fun c xs ds d Q S r h q => by
  simp only [maxL, Option.bind_eq_some_iff, Option.map_eq_some_iff] at h
  obtain ⟨es, h1, ns, h2, m, h3, rfl⟩ := h
  obtain ⟨a, ys, rfl, ha, rs⟩ := rep_lst1 h1 r
  rw [intsOf_eq h2, Reps.ints] at rs
  subst rs
  refine ⟨a, ns, rfl, S.sqL ha, ?_, fun k hk hu => ?_⟩
  · cases ns with
    | nil => cases h3
    | cons _ _ => exact Nat.succ_pos _
  · rw [max_is h3 hk hu]
    exact q _ c (PExt.refl c) (Rep.int_iff.mpr rfl)⟩⟩
def seq1 : List D → Option (List D)
  | [d] => seqOf d
  | _ => none
theorem rep_seq1 {K : PySem.W.Frag} {F : Hp} {es ds : List D} {vs : List V} (h : seq1 es = some ds) (r : Reps K F es vs) : ∃ a xs, vs = [.ref a] ∧ (SqL K F a xs ∨ SqT K F a xs) ∧ Reps K F ds xs := by
  unfold seq1 at h
  split at h
  · obtain ⟨y, r1, rfl, hy, r2⟩ := Reps.cons_iff.mp r
    rw [Reps.nil_iff.mp r2]
    obtain ⟨a, xs, rfl, ha, rs⟩ := rep_seq h hy
    exact ⟨a, xs, rfl, ha, rs⟩
  · cases h
def tupleD (es : List D) : Option D := (seq1 es).map .tup
theorem gc_tuple : GC X (.type "tuple") tupleD := ⟨⟨_, call_tuple_of, fun c xs ds d Q S r h q => by
  simp only [tupleD, Option.map_eq_some_iff] at h
  obtain ⟨es, h1, rfl⟩ := h
  obtain ⟨a, ys, rfl, ha, rs⟩ := rep_seq1 h1 r
  rcases ha with ha | ha
  · refine ⟨a, ys, rfl, .inl ⟨S.sqL ha, fun l hl => ?_⟩⟩
    have pe := PExt.alloc S (HO.tup ys) hl
    exact q _ _ pe (Rep.tup_iff.mpr ⟨l, ys, rfl, .inl (.inl upd_same), rs.mono pe.fle⟩)
  · exact ⟨a, ys, rfl, .inr ⟨S.sqT ha, q _ c (PExt.refl c) (Rep.tup_iff.mpr ⟨a, ys, rfl, ha, rs⟩)⟩⟩⟩⟩
def listD (es : List D) : Option D := (seq1 es).map .lst
theorem gc_list : GC X (.type "list") listD := ⟨⟨_, call_list_of, fun c xs ds d Q S r h q => by
  simp only [listD, Option.map_eq_some_iff] at h
  obtain ⟨es, h1, rfl⟩ := h
  obtain ⟨a, ys, rfl, ha, rs⟩ := rep_seq1 h1 r
  refine ⟨a, ys, rfl, ha.elim (fun z => .inl (S.sqL z)) (fun z => .inr (S.sqT z)), fun l hl => ?_⟩
  have pe := PExt.alloc S (HO.lst ys) hl
  exact q _ _ pe (Rep.lst_iff.mpr ⟨l, ys, rfl, upd_same, rs.mono pe.fle⟩)⟩⟩
/-! ### isinstance -/
def tyName : D → Option String
  | .non => some "NoneType"
  | .bl _ => some "bool"
  | .int _ => some "int"
  | .str _ => some "str"
  | .tup _ => some "tuple"
  | .lst _ => some "list"
  | .rol _ => some "list"
  | .dct _ _ => some "dict"
  | _ => none
def isiD (T : String) (d : D) : Option D := (tyName d).bind fun t => (kitB t T).map D.bl
theorem tyx_of {F H : Hp} {d : D} {t : String} {x : V} (S : Sub F H) (h : tyName d = some t) (r : Rep X.K F d x) : TyX X.K H x (.type t) := by
  cases d <;> simp [tyName] at h <;> subst h
  · rw [Rep.non_iff.mp r]; exact .base .non
  · rw [Rep.bl_iff.mp r]; exact .base (.bl _)
  · rw [Rep.int_iff.mp r]; exact .base (.int _)
  · rw [Rep.str_iff.mp r]; exact .base (.str _)
  · obtain ⟨a, xs, rfl, ha, _⟩ := Rep.tup_iff.mp r
    rcases S.sqT ha with (z | ⟨o, z⟩) | ⟨o, _, _, z, z2, _⟩
    · exact .base (.tup z)
    · exact .fTuple z
    · exact .kTuple z z2
  · obtain ⟨a, xs, rfl, ha, _⟩ := Rep.lst_iff.mp r
    exact .base (.lst (S.lst ha))
  · obtain ⟨a, xs, rfl, ha, _⟩ := Rep.rol_iff.mp r
    rcases S.sqL ha with (z | ⟨o, z⟩) | ⟨o, _, _, z, z2, _⟩
    · exact .base (.lst z)
    · exact .base (.frz z)
    · exact .kList z z2
  · obtain ⟨a, xs, rfl, ha, _⟩ := Rep.dct_iff.mp r
    rcases S.rd ha with z | ⟨o, z⟩
    · exact .base (.dK z)
    · exact .fDict z
def eIsi {W : Wd} (T : String) (f : EF W D) : EF W D := fun ρ s => (f ρ s).bind fun r => (isiD T r.1).map fun d => (d, r.2)
theorem ge_isi {W : Wd} {e : Expr} {T : String} {x : Str} {p p2 pos : Pos} {f : EF W D} (h : GE X W e f) (hg : Gl X "isinstance") (hm : X.mg "isinstance" = none) (hg2 : Gl X x) (hm2 : X.mg x = none) (hv2 : bootBuiltins x = some (.type T)) (hn : x ≠ "__name__" := by decide) (hd : (x == ("__debug__" : Str)) = false := by decide)
    (hv : bootBuiltins "isinstance" = some (.builtin "isinstance") := by decide +kernel)
    (hs1 : starEach [e, .Name x p2] X.env = (false, eval e X.env) :: starEach [.Name x p2] X.env := by rfl) (hs2 : starEach [.Name x p2] X.env = (false, eval (.Name x p2) X.env) :: starEach [] X.env := by rfl)
    (hpl : (backTo pos (starEach [.Name x p2] X.env)).any (·.1) = false := by rfl) : GE X W (.Call (.Name "isinstance" p) [e, .Name x p2] [] pos) (eIsi T f) := by
  obtain ⟨t, pe, qe⟩ := h.run
  refine ⟨⟨_, pe_callB call_isi hg hm hv (pa_cons pe (pa_cons (pe_bltn (v := .ty T) hg2 hm2 hv2 rfl hn hd) pa_nil hs2) hs1) (by decide) (by decide) hs1 hpl, fun c σ ρ s d s' Q st hf q => ?_⟩⟩
  simp only [eIsi, isiD, Option.bind_eq_some_iff, Option.map_eq_some_iff] at hf
  obtain ⟨⟨d1, s1⟩, h1, d2, ⟨t1, h2, b, h3, rfl⟩, e3⟩ := hf
  cases e3
  refine qe c σ ρ s d1 s1 _ st h1 fun v c1 e1 o1 r1 => ?_
  exact ⟨v, .ty T, .type t1, .type T, b, rfl, .ty T, tyx_of o1.sub h2 r1, kit_ty h3, q _ c1 e1 o1 (Rep.bl_iff.mpr rfl)⟩
end
end MP
/-! MpD: subscripts, slices, in; statements; loops; comprehensions; a def's body. -/
namespace MP
open PySem PySem.Spec PyProof.Rows L2
theorem atI_map {α β : Type} {xs : List α} {ys : List β} (h : xs.length = ys.length) (i : Int) : (ixN xs.length i) = ixN ys.length i := by rw [h]
theorem reps_at {K : PySem.W.Frag} {F : Hp} {ds : List D} {xs : List V} {i : Int} {d : D} (r : Reps K F ds xs) (h : atI ds i = some d) : ∃ v, atI xs i = some v ∧ Rep K F d v := by
  unfold atI at h ⊢
  rw [r.length]
  simp only [Option.bind_eq_some_iff] at h
  obtain ⟨j, h1, h2⟩ := h
  obtain ⟨v, h3, h4⟩ := r.get h2
  exact ⟨v, by rw [h1]; exact h3, h4⟩
/-- the value at a key -/
def dGet (ks : List Key) (ds : List D) (k : Key) : Option D := ((ks.zip ds).find? fun p => decide (p.1 = k)).map (·.2)
def keyOf : D → Option Key
  | .int i => some (.inl i)
  | .str x => some (.inr x)
  | _ => none
theorem rep_key {K : PySem.W.Frag} {F : Hp} {d : D} {k : Key} {v : V} (h : keyOf d = some k) (r : Rep K F d v) : v = kV k := by
  cases d <;> simp [keyOf] at h <;> subst h
  · exact Rep.int_iff.mp r
  · exact Rep.str_iff.mp r
theorem rep_dget {K : PySem.W.Frag} {F : Hp} (k : Key) : ∀ {ks : List Key} {ds : List D} {kvs : List (Key × V)}, kvs.map (·.1) = ks → Reps K F ds (kvs.map (·.2)) →
    (∀ d, dGet ks ds k = some d → ∃ v, valV kvs k = some v ∧ Rep K F d v) ∧ (dGet ks ds k = none → valV kvs k = none)
  | _, ds, [], h, r => by
    subst h
    exact ⟨fun d h => by simp [dGet] at h, fun _ => rfl⟩
  | _, ds, (k1, v1) :: kvs, h, r => by
    subst h
    cases ds with
    | nil => rw [List.map_cons] at r; exact nomatch Reps.nil_iff.mp r
    | cons d1 ds =>
      rw [List.map_cons] at r
      obtain ⟨x, rr, e, r1, r2⟩ := Reps.cons_iff.mp r
      obtain ⟨rfl, rfl⟩ := List.cons.inj e
      have ih := rep_dget k (kvs := kvs) rfl r2
      by_cases hk : k1 = k
      · have e1 : dGet (((k1, v1) :: kvs).map (·.1)) (d1 :: ds) k = some d1 := by simp [dGet, hk]
        rw [e1, valV_pos hk]
        exact ⟨fun d h => by cases h; exact ⟨v1, rfl, r1⟩, fun h => nomatch h⟩
      · have e1 : dGet (((k1, v1) :: kvs).map (·.1)) (d1 :: ds) k = dGet (kvs.map (·.1)) ds k := by simp [dGet, hk]
        rw [e1, valV_neg hk]
        exact ih
/-- xs[i], d[k] -/
def idxD : D → D → Option D
  | .dct ks ds, k => (keyOf k).bind fun k => dGet ks ds k
  | a, .int i => (seqOf a).bind fun ds => atI ds i
  | _, _ => none
section
variable {X : Cx} {W : Wd}
theorem tailD {prog : Program} {w : World} {A : Around} {E : Value → Shared → Prop} {s : Shared} {value slice : Expr} {T id : String} {o i : Value} {Q : Value → Shared → Prop}
    (hl : typeLookup (.type T) "__getitem__" = pure (some (.builtin id))) (hs : subscripted slice false o i = operate [o, i] (getItem o i)) (hT : s.TypeIs o T) (h : wpAny (model prog w) A (getItem o i) Q E s) :
    wpAny (model prog w) A (subscriptTail value slice o i) Q E s := by
  unfold subscriptTail
  refine wpAny_bind ?_
  rw [getitemInPython_of_ne hT.not_modules]
  refine wpAny_bind (wpAny_specialOf hT hl ?_)
  have fin : wpAny (model prog w) A (subscripted slice false o i) (fun r s₃ => wpAny (model prog w) A (letTemporaryGo value o r >>= fun _ => pure r) Q E s₃) E s := by
    rw [hs]
    exact wpAny_operating (wpAny_mono h (fun r s₃ h₃ => wpAny_bind (wpAny_letTemporaryGo (wpAny_pure h₃))) fun _ _ x => x)
  first
    | exact wpAny_pure (wpAny_bind fin)
    | exact wpAny_bind (wpAny_pure (wpAny_bind fin))
    | exact wpAny_bind fin
theorem ix_dict (hu : X.A.units + 1 < cLine) : IxR X (fun x y H Q => ∃ a v, x = .ref a ∧ DGet H a y (some v) ∧ Q v H) := by
  intro value slice pins s σ H x y v u Q I rx ry h hs
  obtain ⟨a, v', rfl, g, q⟩ := h
  cases (show v = Value.ref a from rx)
  exact tailD PySem.F.slot_dict_getitem.lookup hs (dict_typeIs I g) (d_getItem hu I g ry fun w' s' I' r => ⟨v', H, I', r, q⟩)
theorem dget_of {H : Hp} {a : Addr} {kvs : List (Key × V)} {k : Key} (h : Rd H a (.dK kvs)) : DGet H a (kV k) (valV kvs k) := .inl ⟨kvs, k, h, rfl, rfl⟩
theorem ge_idx {a b : Expr} {pos : Pos} {fa fb : EF W D} (hu : X.A.units + 1 < cLine) (ha : GE X W a fa) (hb : GE X W b fb) (hs : PlainIx b := by intro _ _; rfl) : GE X W (.Subscript a b pos) (eBin idxD fa fb) := by
  obtain ⟨ta, pa, qa⟩ := ha.run
  obtain ⟨tb, pb, qb⟩ := hb.run
  refine ⟨⟨_, pe_ix (IxR.or (ix_list.or ix_tup) (ix_dict hu)) pa pb hs, two_run qa qb fun c x y a b d Q S ra rb h q => ?_⟩⟩
  unfold idxD at h
  split at h
  · rename_i ks ds
    simp only [Option.bind_eq_some_iff] at h
    obtain ⟨k, h1, h2⟩ := h
    obtain ⟨p, kvs, rfl, hp, hk, rs⟩ := Rep.dct_iff.mp ra
    obtain ⟨v, h3, h4⟩ := (rep_dget k hk rs).1 d h2
    rw [rep_key h1 rb]
    exact .inr ⟨p, v, rfl, by rw [← h3]; exact dget_of (S.rd hp), q v c (PExt.refl c) h4⟩
  · simp only [Option.bind_eq_some_iff] at h
    obtain ⟨ds, h1, h2⟩ := h
    obtain ⟨p, xs, rfl, hp, rs⟩ := rep_seq h1 ra
    obtain ⟨v, h3, h4⟩ := reps_at rs h2
    rcases hp with hp | hp
    · exact .inl (.inl ⟨p, xs, _, v, rfl, Rep.int_iff.mp rb, S.sqL hp, h3, q v c (PExt.refl c) h4⟩)
    · exact .inl (.inr ⟨p, xs, _, v, rfl, Rep.int_iff.mp rb, S.sqT hp, h3, q v c (PExt.refl c) h4⟩)
  · cases h
/-- own list at an index -/
def eIdxL {W : Wd} (fa : EF W (List D)) (fb : EF W D) : EF W D := fun ρ s => (fa ρ s).bind fun r => (fb ρ r.2).bind fun q => match q.1 with
  | .int i => (atI r.1 i).map fun d => (d, q.2)
  | _ => none
theorem ge_idxL {a b : Expr} {pos : Pos} {fa : EF W (List D)} {fb : EF W D} (ha : GL X W a fa) (hb : GE X W b fb) (hs : PlainIx b := by intro _ _; rfl) : GE X W (.Subscript a b pos) (eIdxL fa fb) := by
  obtain ⟨ta, pa, qa⟩ := ha.run
  obtain ⟨tb, pb, qb⟩ := hb.run
  refine ⟨⟨_, pe_ix ix_list pa pb hs, fun c σ ρ s d s' Q st hf q => ?_⟩⟩
  simp only [eIdxL, Option.bind_eq_some_iff] at hf
  obtain ⟨⟨ds, s1⟩, h1, ⟨i, s2⟩, h2, h3⟩ := hf
  cases i <;> simp at h3
  obtain ⟨_, h4, rfl, rfl⟩ := h3
  refine qa c σ ρ s ds s1 _ st h1 fun a xs c1 e1 o1 l1 r1 => ?_
  refine qb c1 σ ρ s1 _ _ _ (st.step e1 o1) h2 fun y c2 e2 o2 r2 => ?_
  obtain ⟨v, h5, h6⟩ := reps_at (r1.mono e2.fle) h4
  exact ⟨a, xs, _, v, rfl, Rep.int_iff.mp r2, (l1.ext e2).sq o2.sub, h5, q v c2 (e1.trans e2) o2 h6⟩
/-- own dict at a key -/
def eIdxO {W : Wd} (fa : EF W (List Key × List D)) (fb : EF W D) : EF W D := fun ρ s => (fa ρ s).bind fun r => (fb ρ r.2).bind fun q => (keyOf q.1).bind fun k => (dGet r.1.1 r.1.2 k).map fun d => (d, q.2)
theorem ge_idxO {a b : Expr} {pos : Pos} {fa : EF W (List Key × List D)} {fb : EF W D} (hu : X.A.units + 1 < cLine) (ha : GD X W a fa) (hb : GE X W b fb) (hs : PlainIx b := by intro _ _; rfl) : GE X W (.Subscript a b pos) (eIdxO fa fb) := by
  obtain ⟨ta, pa, qa⟩ := ha.run
  obtain ⟨tb, pb, qb⟩ := hb.run
  refine ⟨⟨_, pe_ix (ix_dict hu) pa pb hs, fun c σ ρ s d s' Q st hf q => ?_⟩⟩
  simp only [eIdxO, Option.bind_eq_some_iff, Option.map_eq_some_iff] at hf
  obtain ⟨⟨⟨ks, ds⟩, s1⟩, h1, ⟨dk, s2⟩, h2, k, h3, d', h4, e⟩ := hf
  cases e
  refine qa c σ ρ s ks ds s1 _ st h1 fun a kvs c1 e1 o1 l1 hk r1 => ?_
  refine qb c1 σ ρ s1 _ _ _ (st.step e1 o1) h2 fun y c2 e2 o2 r2 => ?_
  obtain ⟨v, h5, h6⟩ := (rep_dget k hk (r1.mono e2.fle)).1 d h4
  rw [rep_key h3 r2]
  exact ⟨a, v, rfl, by rw [← h5]; exact dget_of ((l1.ext e2).rd o2.sub), q v c2 (e1.trans e2) o2 h6⟩
/-- len of an own list, an own dict -/
def eLenL {W : Wd} (fa : EF W (List D)) : EF W D := fun ρ s => (fa ρ s).map fun r => (.int r.1.length, r.2)
theorem ge_lenL {e : Expr} {p pos : Pos} {fa : EF W (List D)} (ha : GL X W e fa) (hg : Gl X "len") (hm : X.mg "len" = none) (he : starEach [e] X.env = (false, eval e X.env) :: starEach [] X.env := by rfl)
    (hpl : (backTo pos (starEach ([] : List Expr) X.env)).any (·.1) = false := by rfl) : GE X W (.Call (.Name "len" p) [e] [] pos) (eLenL fa) := by
  obtain ⟨ta, pa, qa⟩ := ha.run
  refine ⟨⟨_, pe_callB call_len_seq hg hm PySem.boot_len (pa_cons pa pa_nil he) (by decide) (by decide) he hpl, fun c σ ρ s d s' Q st hf q => ?_⟩⟩
  simp only [eLenL, Option.map_eq_some_iff] at hf
  obtain ⟨⟨ds, s1⟩, h1, e⟩ := hf
  cases e
  refine qa c σ ρ s ds _ _ st h1 fun a xs c1 e1 o1 l1 r1 => ?_
  refine ⟨a, xs, rfl, .inl (l1.sq o1.sub), ?_⟩
  rw [r1.length]
  exact q _ c1 e1 o1 (Rep.int_iff.mpr rfl)
def eLenO {W : Wd} (fa : EF W (List Key × List D)) : EF W D := fun ρ s => (fa ρ s).map fun r => (.int r.1.1.length, r.2)
/-! ### slices -/
/-- a part of a slice -/
structure GP (X : Cx) (W : Wd) (e : Option Expr) (f : EF W (Option Int)) : Prop where
  run : ∃ t : TO, PO X e t ∧ ∀ (c : C3) (σ : SS) (ρ : Env) (s : W.S) (o : Option Int) (s' : W.S) (Q : Option Int → Hp → Prop), Sta X.K W c σ ρ s → f ρ s = some (o, s') →
    (∀ c', Ext c c' → Okh W c' s' → Q o c'.H) → t σ c.H Q
def pNo {W : Wd} : EF W (Option Int) := fun _ s => some (none, s)
def pSo {W : Wd} (f : EF W D) : EF W (Option Int) := fun ρ s => (f ρ s).bind fun r => match r.1 with
  | .int i => some (some i, r.2)
  | _ => none
theorem gp_no : GP X W none pNo := ⟨⟨_, po_none, fun c σ ρ s o s' Q st hf q => by cases hf; exact q c (Ext.refl c) st.ok⟩⟩
theorem gp_so {e : Expr} {f : EF W D} (h : GE X W e f) : GP X W (some e) (pSo f) := by
  obtain ⟨t, p, q⟩ := h.run
  refine ⟨⟨_, po_some p, fun c σ ρ s o s' Q st hf k => ?_⟩⟩
  simp only [pSo, Option.bind_eq_some_iff] at hf
  obtain ⟨⟨d, s1⟩, h1, h2⟩ := hf
  cases d <;> simp at h2
  obtain ⟨rfl, rfl⟩ := h2
  refine q c σ ρ s _ _ _ st h1 fun v c1 e1 o1 r1 => ?_
  exact ⟨_, Rep.int_iff.mp r1, k c1 e1 o1⟩
def cutD (xs : List D) (lo hi : Option Int) : List D := (xs.drop (HT.sIx xs.length 0 lo)).take (HT.sIx xs.length xs.length hi - HT.sIx xs.length 0 lo)
theorem reps_cut {K : PySem.W.Frag} {F : Hp} {ds : List D} {xs : List V} (r : Reps K F ds xs) (lo hi : Option Int) : Reps K F (cutD ds lo hi) (cutV xs lo hi) := by
  unfold cutD cutV
  rw [r.length]
  exact (r.drop _).take _
def eSlL {W : Wd} (fa : EF W (List D)) (fl fh : EF W (Option Int)) : EF W D := fun ρ s => (fa ρ s).bind fun r => (fl ρ r.2).bind fun l => (fh ρ l.2).map fun h => (.lst (cutD r.1 l.1 h.1), h.2)
theorem ge_slL {e : Expr} {lo hi : Option Expr} {p2 pos : Pos} {fa : EF W (List D)} {fl fh : EF W (Option Int)} (ha : GL X W e fa) (hl : GP X W lo fl) (hh : GP X W hi fh) : GE X W (.Subscript e (.Slice lo hi none p2) pos) (eSlL fa fl fh) := by
  obtain ⟨ta, pa, qa⟩ := ha.run
  obtain ⟨tl, pl, ql⟩ := hl.run
  obtain ⟨th, ph, qh⟩ := hh.run
  refine ⟨⟨_, pe_slice sl_list pa pl ph, fun c σ ρ s d s' Q st hf q => ?_⟩⟩
  simp only [eSlL, Option.bind_eq_some_iff, Option.map_eq_some_iff] at hf
  obtain ⟨⟨ds, s1⟩, h1, ⟨l, s2⟩, h2, ⟨h, s3⟩, h3, e⟩ := hf
  cases e
  refine qa c σ ρ s ds s1 _ st h1 fun a xs c1 e1 o1 l1 r1 => ?_
  refine ql c1 σ ρ s1 l s2 _ (st.step e1 o1) h2 fun c2 e2 o2 => ?_
  refine qh c2 σ ρ s2 h _ _ (st.step (e1.trans e2) o2) h3 fun c3 e3 o3 => ?_
  refine ⟨a, xs, rfl, ((l1.ext e2).ext e3).sq o3.sub, fun p hp => ?_⟩
  have pe := o3.alloc (HO.lst (cutV xs l h)) hp
  exact q _ _ (e1.trans (e2.trans (e3.trans pe.ext))) (o3.pext pe) (Rep.lst_iff.mpr ⟨p, _, rfl, upd_same, reps_cut (((r1.mono e2.fle).mono e3.fle).mono pe.fle) l h⟩)
def tOf {W : Wd} (f : EF W D) : EF W (List D) := fun ρ s => (f ρ s).bind fun r => match r.1 with
  | .tup ds => some (ds, r.2)
  | _ => none
/-- t[a:b] of a tuple: not the whole -/
def eSlT {W : Wd} (fa : EF W D) (fl fh : EF W (Option Int)) : EF W D := fun ρ s => (tOf fa ρ s).bind fun r => (fl ρ r.2).bind fun l => (fh ρ l.2).map fun h => (.tup (cutD r.1 l.1 h.1), h.2)
/-- xs[::-1] -/
def eRevL {W : Wd} (fa : EF W (List D)) : EF W D := fun ρ s => (fa ρ s).map fun r => (.lst r.1.reverse, r.2)
theorem ge_revL {e : Expr} {k : Nat} {p1 p2 p3 pos : Pos} {fa : EF W (List D)} (ha : GL X W e fa) : GE X W (.Subscript e (.Slice none none (some (.UnaryOp .USub (.Constant (.int 1) k p1) p2)) p3) pos) (eRevL fa) := by
  obtain ⟨ta, pa, qa⟩ := ha.run
  refine ⟨⟨_, pe_revL pa, fun c σ ρ s d s' Q st hf q => ?_⟩⟩
  simp only [eRevL, Option.map_eq_some_iff] at hf
  obtain ⟨⟨ds, s1⟩, h1, e⟩ := hf
  cases e
  refine qa c σ ρ s ds _ _ st h1 fun a xs c1 e1 o1 l1 r1 => ?_
  refine ⟨a, xs, rfl, l1.sq o1.sub, fun p hp => ?_⟩
  have pe := o1.alloc (HO.lst xs.reverse) hp
  exact q _ _ (e1.trans pe.ext) (o1.pext pe) (Rep.lst_iff.mpr ⟨p, _, rfl, upd_same, (r1.mono pe.fle).reverse⟩)
/-! ### in -/
def flatD : D → Option V
  | .non => some .non
  | .bl b => some (.bl b)
  | .int i => some (.int i)
  | .str x => some (.str x)
  | _ => none
theorem rep_flat {K : PySem.W.Frag} {F : Hp} {d : D} {x v : V} (h : flatD d = some x) (r : Rep K F d v) : v = x ∧ flatV x = true := by
  cases d <;> simp [flatD] at h <;> subst h
  · exact ⟨Rep.non_iff.mp r, rfl⟩
  · exact ⟨Rep.bl_iff.mp r, rfl⟩
  · exact ⟨Rep.int_iff.mp r, rfl⟩
  · exact ⟨Rep.str_iff.mp r, rfl⟩
def flatDs : List D → Option (List V)
  | [] => some []
  | d :: ds => (flatD d).bind fun x => (flatDs ds).map fun r => x :: r
theorem reps_flat {K : PySem.W.Frag} {F : Hp} : ∀ {ds : List D} {xs vs : List V}, flatDs ds = some xs → Reps K F ds vs → vs = xs ∧ xs.all flatV = true
  | [], _, _, h, r => by cases h; exact ⟨Reps.nil_iff.mp r, rfl⟩
  | d :: ds, _, _, h, r => by
    simp only [flatDs, Option.bind_eq_some_iff, Option.map_eq_some_iff] at h
    obtain ⟨x, h1, r1, h2, rfl⟩ := h
    obtain ⟨y, rr, rfl, h3, h4⟩ := Reps.cons_iff.mp r
    obtain ⟨rfl, f1⟩ := rep_flat h1 h3
    obtain ⟨rfl, f2⟩ := reps_flat h2 h4
    exact ⟨rfl, by rw [List.all_cons, f1, f2]; rfl⟩
def inD (a b : D) : Option Bool := (flatD a).bind fun x => (seqOf b).bind fun ds => (flatDs ds).map fun xs => inV x xs
def inDD (a b : D) : Option D := (inD a b).map .bl
def ninDD (a b : D) : Option D := (inD a b).map fun e => .bl (!e)
theorem op_inI : GO X (compareOp .In) inDD := ⟨⟨_, op_in_seq, fun c x y a b d Q S ra rb h q => by
  simp only [inDD, inD, Option.bind_eq_some_iff, Option.map_eq_some_iff] at h
  obtain ⟨e, ⟨x', h1, ds, h2, xs, h3, rfl⟩, rfl⟩ := h
  obtain ⟨rfl, f1⟩ := rep_flat h1 ra
  obtain ⟨p, ys, rfl, hp, rs⟩ := rep_seq h2 rb
  obtain ⟨rfl, f2⟩ := reps_flat h3 rs
  exact ⟨p, _, rfl, hp.elim (fun z => .inl (S.sqL z)) (fun z => .inr (S.sqT z)), f1, f2, by rw [if_neg Bool.false_ne_true]; exact q _ c (PExt.refl c) (Rep.bl_iff.mpr rfl)⟩⟩⟩
theorem op_ninI : GO X (compareOp .NotIn) ninDD := ⟨⟨_, op_notIn_seq, fun c x y a b d Q S ra rb h q => by
  simp only [ninDD, inD, Option.bind_eq_some_iff, Option.map_eq_some_iff] at h
  obtain ⟨e, ⟨x', h1, ds, h2, xs, h3, rfl⟩, rfl⟩ := h
  obtain ⟨rfl, f1⟩ := rep_flat h1 ra
  obtain ⟨p, ys, rfl, hp, rs⟩ := rep_seq h2 rb
  obtain ⟨rfl, f2⟩ := reps_flat h3 rs
  exact ⟨p, _, rfl, hp.elim (fun z => .inl (S.sqL z)) (fun z => .inr (S.sqT z)), f1, f2, by rw [if_pos rfl]; exact q _ c (PExt.refl c) (Rep.bl_iff.mpr rfl)⟩⟩⟩
end
/-! ### statements -/
inductive Fl where
  | nx | rt (d : D) | bk | ct
/-- what a statement does -/
abbrev MF (W : Wd) := Env → W.S → Option (Fl × Env × W.S)
structure StaS (K : PySem.W.Frag) (W : Wd) (c0 c : C3) (σ : SS) (ρ : Env) (s : W.S) : Prop where
  ext : Ext c0 c
  st : Sta K W c σ ρ s
  own : ∀ (i : Nat) (sl : Sl) (p : Addr), ρ[i]? = some sl → sl.own = true → σ[i]? = some (some (.ref p)) → c0.H p = none
theorem StaS.step {K : PySem.W.Frag} {W : Wd} {c0 c c' : C3} {σ : SS} {ρ : Env} {s s' : W.S} (a : StaS K W c0 c σ ρ s) (e : Ext c c') (o : Okh W c' s') : StaS K W c0 c' σ ρ s' := ⟨a.ext.trans e, a.st.step e o, a.own⟩
/-- what is wanted behind: by the flow -/
def EndOk (K : PySem.W.Frag) (W : Wd) (D0 : Ends) (c0 : C3) (f : Fl) (ρ' : Env) (s' : W.S) : Prop :=
  match f with
  | .nx => ∀ (c' : C3) (σ' : SS), StaS K W c0 c' σ' ρ' s' → D0.nx σ' c'.H
  | .rt d => ∀ (c' : C3) (v : V), Ext c0 c' → Okh W c' s' → Rep K c'.F d v → D0.rt v c'.H
  | .bk => ∀ (c' : C3) (σ' : SS), StaS K W c0 c' σ' ρ' s' → D0.bk σ' c'.H
  | .ct => ∀ (c' : C3) (σ' : SS), StaS K W c0 c' σ' ρ' s' → D0.ct σ' c'.H
structure GS (X : Cx) (W : Wd) (st : Stmt) (m : MF W) : Prop where
  run : ∃ t : TS, PS X st t ∧ ∀ (c0 c : C3) (σ : SS) (ρ : Env) (s : W.S) (f : Fl) (ρ' : Env) (s' : W.S) (E : Ends), StaS X.K W c0 c σ ρ s → m ρ s = some (f, ρ', s') → EndOk X.K W E c0 f ρ' s' → t E σ c.H
structure GSs (X : Cx) (W : Wd) (st : List Stmt) (m : MF W) : Prop where
  run : ∃ t : TS, PSs X st t ∧ ∀ (c0 c : C3) (σ : SS) (ρ : Env) (s : W.S) (f : Fl) (ρ' : Env) (s' : W.S) (E : Ends), StaS X.K W c0 c σ ρ s → m ρ s = some (f, ρ', s') → EndOk X.K W E c0 f ρ' s' → t E σ c.H
section
variable {X : Cx} {W : Wd}
def mNext {W : Wd} : MF W := fun ρ s => some (.nx, ρ, s)
def mSeq {W : Wd} (m n : MF W) : MF W := fun ρ s => (m ρ s).bind fun r => match r with
  | (.nx, ρ', s') => n ρ' s'
  | r => some r
theorem gss_nil : GSs X W [] mNext := ⟨⟨_, pss_nil, fun c0 c σ ρ s f ρ' s' E st hm q => by cases hm; exact q c σ st⟩⟩
theorem gss_cons {a : Stmt} {r : List Stmt} {m n : MF W} (h : GS X W a m) (h2 : GSs X W r n) : GSs X W (a :: r) (mSeq m n) := by
  obtain ⟨t, p, q⟩ := h.run
  obtain ⟨t2, p2, q2⟩ := h2.run
  refine ⟨⟨_, pss_cons p p2, fun c0 c σ ρ s f ρ' s' E st hm k => ?_⟩⟩
  simp only [mSeq, Option.bind_eq_some_iff] at hm
  obtain ⟨⟨f1, ρ1, s1⟩, h1, h2⟩ := hm
  refine q c0 c σ ρ s f1 ρ1 s1 _ st h1 ?_
  cases f1 with
  | nx => exact fun c' σ' st' => q2 c0 c' σ' ρ1 s1 f ρ' s' E st' h2 k
  | rt d => cases h2; exact k
  | bk => cases h2; exact k
  | ct => cases h2; exact k
theorem gss_one {a : Stmt} {m : MF W} (h : GS X W a m) : GSs X W [a] m := by
  obtain ⟨t, p, q⟩ := h.run
  exact ⟨⟨t, pss_one p, q⟩⟩
/-- never reached -/
def mNever {W : Wd} : MF W := fun _ _ => none
theorem gs_never {a : Stmt} : GS X W a mNever := ⟨⟨_, ps_never, fun c0 c σ ρ s f ρ' s' E st hm q => nomatch hm⟩⟩
theorem gs_pass {pos : Pos} : GS X W (.Pass pos) mNext := ⟨⟨_, ps_pass, fun c0 c σ ρ s f ρ' s' E st hm q => by cases hm; exact q c σ st⟩⟩
def mBk {W : Wd} : MF W := fun ρ s => some (.bk, ρ, s)
def mCt {W : Wd} : MF W := fun ρ s => some (.ct, ρ, s)
theorem gs_bk {pos : Pos} : GS X W (.Break pos) mBk := ⟨⟨_, ps_break, fun c0 c σ ρ s f ρ' s' E st hm q => by cases hm; exact q c σ st⟩⟩
theorem gs_ct {pos : Pos} : GS X W (.Continue pos) mCt := ⟨⟨_, ps_continue, fun c0 c σ ρ s f ρ' s' E st hm q => by cases hm; exact q c σ st⟩⟩
def mRet {W : Wd} (f : EF W D) : MF W := fun ρ s => (f ρ s).map fun r => (.rt r.1, ρ, r.2)
theorem gs_ret {e : Expr} {pos : Pos} {f : EF W D} (h : GE X W e f) : GS X W (.Return (some e) pos) (mRet f) := by
  obtain ⟨t, p, q⟩ := h.run
  refine ⟨⟨_, ps_ret p, fun c0 c σ ρ s fl ρ' s' E st hm k => ?_⟩⟩
  simp only [mRet, Option.map_eq_some_iff] at hm
  obtain ⟨⟨d, s1⟩, h1, e⟩ := hm
  cases e
  exact q c σ ρ s d _ _ st.st h1 fun v c1 e1 o1 r1 => k c1 v (st.ext.trans e1) o1 r1
def mRetN {W : Wd} : MF W := fun ρ s => some (.rt .non, ρ, s)
theorem gs_retN {pos : Pos} : GS X W (.Return none pos) mRetN := ⟨⟨_, ps_retN, fun c0 c σ ρ s f ρ' s' E st hm q => by cases hm; exact q c .non st.ext st.st.ok (Rep.non_iff.mpr rfl)⟩⟩
def mExpr {W : Wd} (f : EF W D) : MF W := fun ρ s => (f ρ s).map fun r => (.nx, ρ, r.2)
theorem gs_expr {e : Expr} {pos : Pos} {f : EF W D} (h : GE X W e f) (hs : swapsWith e none pos.line X.env = pure false := by rfl) : GS X W (.Expr e pos) (mExpr f) := by
  obtain ⟨t, p, q⟩ := h.run
  refine ⟨⟨_, ps_expr p hs, fun c0 c σ ρ s fl ρ' s' E st hm k => ?_⟩⟩
  simp only [mExpr, Option.map_eq_some_iff] at hm
  obtain ⟨⟨d, s1⟩, h1, e⟩ := hm
  cases e
  exact q c σ ρ s d _ _ st.st h1 fun v c1 e1 o1 r1 => k c1 σ (st.step e1 o1)
def mIf {W : Wd} (t : EF W Bool) (m n : MF W) : MF W := fun ρ s => (t ρ s).bind fun r => if r.1 = true then m ρ r.2 else n ρ r.2
theorem gs_if {c : Expr} {a b : List Stmt} {pos : Pos} {t : EF W Bool} {m n : MF W} (hc : GT X W c t) (ha : GSs X W a m) (hb : GSs X W b n) : GS X W (.If c a b pos) (mIf t m n) := by
  obtain ⟨tc, pc, qc⟩ := hc.run
  obtain ⟨ta, pa, qa⟩ := ha.run
  obtain ⟨tb, pb, qb⟩ := hb.run
  refine ⟨⟨_, ps_if pc pa pb, fun c0 c σ ρ s fl ρ' s' E st hm k => ?_⟩⟩
  simp only [mIf, Option.bind_eq_some_iff] at hm
  obtain ⟨⟨b1, s1⟩, h1, h2⟩ := hm
  refine qc c σ ρ s b1 s1 _ st.st h1 fun c1 e1 o1 => ?_
  cases b1 with
  | true => rw [if_pos rfl]; exact qa c0 c1 σ ρ s1 fl ρ' s' E (st.step e1 o1) (by simpa using h2) k
  | false => rw [if_neg Bool.false_ne_true]; exact qb c0 c1 σ ρ s1 fl ρ' s' E (st.step e1 o1) (by simpa using h2) k
/-! ### stores -/
theorem Slots.put {K : PySem.W.Frag} {c : C3} {σ : SS} {ρ : Env} (s : Slots K c σ ρ) (i : Nat) {d : D} {x : V} (r : Rep K c.F d x) : Slots K c (σ.set i (some x)) (ρ.set i (.v d)) where
  len := by rw [List.length_set, List.length_set]; exact s.len
  ok := fun j sl h => by
    by_cases e : i = j
    · subst e
      have hj : i < ρ.length := by
        have := (List.getElem?_eq_some_iff.mp h).1
        rwa [List.length_set] at this
      rw [List.getElem?_set_self hj] at h
      cases h
      rw [List.getElem?_set_self (by rw [s.len]; exact hj)]
      exact ⟨x, rfl, r⟩
    · rw [List.getElem?_set_ne e] at h ⊢
      exact s.ok j sl h
  dist := fun j k sj sk p hj hk ne oj ok h1 h2 => by
    have g : ∀ (j : Nat) (sj : Sl), (ρ.set i (.v d))[j]? = some sj → sj.own = true → i ≠ j := fun j sj h o e => by
      subst e
      have hj : i < ρ.length := by
        have := (List.getElem?_eq_some_iff.mp h).1
        rwa [List.length_set] at this
      rw [List.getElem?_set_self hj] at h
      cases h
      cases o
    have n1 := g j sj hj oj
    have n2 := g k sk hk ok
    rw [List.getElem?_set_ne n1] at hj h1
    rw [List.getElem?_set_ne n2] at hk h2
    exact s.dist j k sj sk p hj hk ne oj ok h1 h2
theorem StaS.put {K : PySem.W.Frag} {c0 c : C3} {σ : SS} {ρ : Env} {s : W.S} (a : StaS K W c0 c σ ρ s) (i : Nat) {d : D} {x : V} (r : Rep K c.F d x) : StaS K W c0 c (σ.set i (some x)) (ρ.set i (.v d)) s :=
  ⟨a.ext, ⟨a.st.ok, a.st.sl.put i r⟩, fun j sl p h o h2 => by
    have n1 : i ≠ j := fun e => by
      subst e
      have hj : i < ρ.length := by
        have := (List.getElem?_eq_some_iff.mp h).1
        rwa [List.length_set] at this
      rw [List.getElem?_set_self hj] at h
      cases h
      cases o
    rw [List.getElem?_set_ne n1] at h h2
    exact a.own j sl p h o h2⟩
def mSet {W : Wd} (i : Nat) (f : EF W D) : MF W := fun ρ s => (f ρ s).map fun r => (.nx, ρ.set i (.v r.1), r.2)
theorem gs_set {i : Nat} {x : Str} {e : Expr} {pos pos' : Pos} {f : EF W D} (hN : X.N.Nodup) (hi : X.N[i]? = some x) (hx : Loc X.env.scope x) (he : GE X W e f) (hs : swapsWith e (some (.Name x pos')) pos.line X.env = pure false := by rfl) (hf : X.fn x = true ∨ X.env.scope.names.lookup x = some .local := by first | exact .inl rfl | exact .inr rfl | assumption) :
    GS X W (.Assign [.Name x pos'] e pos) (mSet i f) := by
  obtain ⟨t, p, q⟩ := he.run
  refine ⟨⟨_, ps_set hN hi hx p hs hf, fun c0 c σ ρ s fl ρ' s' E st hm k => ?_⟩⟩
  simp only [mSet, Option.map_eq_some_iff] at hm
  obtain ⟨⟨d, s1⟩, h1, e⟩ := hm
  cases e
  exact q c σ ρ s d _ _ st.st h1 fun v c1 e1 o1 r1 => k c1 _ ((st.step e1 o1).put i r1)
/-! ### targets -/
/-- a target of names -/
structure GG (X : Cx) (tg : Expr) (g : D → Env → Option Env) (ws : List Nat) : Prop where
  run : ∃ t : TG, PG X tg t ∧ (∀ (d : D) (ρ ρ' : Env) (W : Wd) (c0 c : C3) (σ : SS) (s : W.S) (v : V) (Q : SS → Hp → Prop), StaS X.K W c0 c σ ρ s → Rep X.K c.F d v → g d ρ = some ρ' →
    (∀ σ', StaS X.K W c0 c σ' ρ' s → σ'.length = σ.length → (∀ j, j ∉ ws → σ'[j]? = σ[j]?) → Q σ' c.H) → t v σ c.H Q)
structure GGs (X : Cx) (tgs : List Expr) (g : List D → Env → Option Env) (ws : List Nat) : Prop where
  run : ∃ t : TGs, PGs X tgs t ∧ (∀ (ds : List D) (ρ ρ' : Env) (W : Wd) (c0 c : C3) (σ : SS) (s : W.S) (vs : List V) (Q : SS → Hp → Prop), StaS X.K W c0 c σ ρ s → Reps X.K c.F ds vs → g ds ρ = some ρ' →
    (∀ σ', StaS X.K W c0 c σ' ρ' s → σ'.length = σ.length → (∀ j, j ∉ ws → σ'[j]? = σ[j]?) → Q σ' c.H) → t vs σ c.H Q)
def tgN (i : Nat) : D → Env → Option Env := fun d ρ => some (ρ.set i (.v d))
theorem gg_name {i : Nat} {x : Str} {pos : Pos} (hN : X.N.Nodup) (hi : X.N[i]? = some x) (hx : Loc X.env.scope x) (hf : X.fn x = true ∨ X.env.scope.names.lookup x = some .local := by first | exact .inl rfl | exact .inr rfl | assumption) : GG X (.Name x pos) (tgN i) [i] := by
  refine ⟨⟨_, pg_name hN hi hx hf, fun d ρ ρ' W c0 c σ s v Q st r h q => ?_⟩⟩
  cases h
  exact q _ (st.put i r) (by simp) fun j hj => List.getElem?_set_ne (fun e => hj (by simp [e]))
def tgNil : List D → Env → Option Env := fun ds ρ => if ds.length = 0 then some ρ else none
def tgCons (g : D → Env → Option Env) (h : List D → Env → Option Env) : List D → Env → Option Env := fun ds ρ => match ds with
  | d :: r => (g d ρ).bind fun ρ' => h r ρ'
  | [] => none
theorem ggs_nil : GGs X [] tgNil [] := ⟨⟨_, pgs_nil, fun ds ρ ρ' W c0 c σ s vs Q st r h q => by
  unfold tgNil at h
  split at h
  · rename_i hl
    cases h
    cases ds with
    | nil => exact ⟨Reps.nil_iff.mp r, q σ st rfl fun _ _ => rfl⟩
    | cons _ _ => exact absurd hl (by simp)
  · cases h⟩⟩
theorem ggs_cons {e : Expr} {es : List Expr} {g : D → Env → Option Env} {gs : List D → Env → Option Env} {w1 w2 : List Nat} (h1 : GG X e g w1) (h2 : GGs X es gs w2)
    (hs : (assignEach (e :: es) X.env).map (·.2) = assign e X.env :: (assignEach es X.env).map (·.2) := by rfl) : GGs X (e :: es) (tgCons g gs) (w1 ++ w2) := by
  obtain ⟨t, p, q⟩ := h1.run
  obtain ⟨t2, p2, q2⟩ := h2.run
  refine ⟨⟨_, pgs_cons p p2 hs, fun ds ρ ρ' W c0 c σ s vs Q st r h k => ?_⟩⟩
  cases ds with
  | nil => cases h
  | cons d ds =>
    simp only [tgCons, Option.bind_eq_some_iff] at h
    obtain ⟨ρ1, h3, h4⟩ := h
    obtain ⟨x, rr, rfl, ra, rb⟩ := Reps.cons_iff.mp r
    refine ⟨x, rr, rfl, q d ρ ρ1 W c0 c σ s x _ st ra h3 fun σ1 st1 hl1 hj1 => ?_⟩
    refine q2 ds ρ1 ρ' W c0 c σ1 s rr _ st1 rb h4 fun σ2 st2 hl2 hj2 => k σ2 st2 (hl2.trans hl1) fun j hj => ?_
    rw [hj2 j fun z => hj (List.mem_append_right _ z), hj1 j fun z => hj (List.mem_append_left _ z)]
def tgTup (n : Nat) (g : List D → Env → Option Env) : D → Env → Option Env := fun d ρ => match d with
  | .tup ds => if ds.length = n then g ds ρ else none
  | _ => none
theorem gg_tup {es : List Expr} {k n : Nat} {pos : Pos} {g : List D → Env → Option Env} {ws : List Nat} (hc : X.calm = true) (h : GGs X es g ws) (hn : (assignEach es X.env).length = n := by rfl) (hst : (assignEach es X.env).findIdx? (·.1) = none := by rfl) : GG X (.Tuple es k pos) (tgTup n g) ws := by
  obtain ⟨t, p, q⟩ := h.run
  refine ⟨⟨_, pg_tup hc p hn hst, fun d ρ ρ' W c0 c σ s v Q st r h k => ?_⟩⟩
  cases d <;> simp [tgTup] at h
  obtain ⟨hl, h⟩ := h
  obtain ⟨a, xs, rfl, ha, rs⟩ := Rep.tup_iff.mp r
  exact ⟨a, xs, rfl, st.st.ok.sub.sqT ha, by rw [rs.length]; exact hl, q _ ρ ρ' W c0 c σ s xs Q st rs h k⟩
def mAsg {W : Wd} (g : D → Env → Option Env) (f : EF W D) : MF W := fun ρ s => (f ρ s).bind fun r => (g r.1 ρ).map fun ρ' => (.nx, ρ', r.2)
theorem gs_asg {tg e : Expr} {pos : Pos} {g : D → Env → Option Env} {ws : List Nat} {f : EF W D} (he : GE X W e f) (hg : GG X tg g ws) (hs : swapsWithSole [tg] e pos.line X.env = pure false := by rfl) (hw : swappedStores [tg] e X.env = pure none := by rfl)
    (h1 : (assignEach [tg] X.env).map (·.2) = [assign tg X.env] := by rfl) : GS X W (.Assign [tg] e pos) (mAsg g f) := by
  obtain ⟨t, p, q⟩ := he.run
  obtain ⟨t2, p2, q2⟩ := hg.run
  refine ⟨⟨_, ps_asg p p2 hs hw h1, fun c0 c σ ρ s fl ρ' s' E st hm k => ?_⟩⟩
  simp only [mAsg, Option.bind_eq_some_iff, Option.map_eq_some_iff] at hm
  obtain ⟨⟨d, s1⟩, h2, ρ1, h3, e⟩ := hm
  cases e
  refine q c σ ρ s d _ _ st.st h2 fun v c1 e1 o1 r1 => ?_
  exact q2 d ρ _ W c0 c1 σ _ v _ (st.step e1 o1) r1 h3 fun σ' st' _ _ => k c1 σ' st'
/-- a, b = x, y with plain local names -/
def mPar {W : Wd} (i j : Nat) (f : EF W (List D)) : MF W := fun ρ s => (f ρ s).bind fun r => match r.1 with
  | [a, b] => some (.nx, (ρ.set i (.v a)).set j (.v b), r.2)
  | _ => none
theorem gs_par {i j : Nat} {x y : Str} {a b : Expr} {f : EF W (List D)} {px py pt pos : Pos} {kt k2 pt2} (hc : X.calm = true) (hN : X.N.Nodup) (hi : X.N[i]? = some x) (hj : X.N[j]? = some y) (hij : i ≠ j)
    (hx : X.env.scope.names.lookup x = some .local) (hy : X.env.scope.names.lookup y = some .local) (ha : GA X W [a, b] f)
    (hw : swappedStores [.Tuple [.Name x px, .Name y py] kt pt] (.Tuple [a, b] k2 pt2) X.env = pure (some [x, y]))
    (hs : swapsWithSole [.Tuple [.Name x px, .Name y py] kt pt] (.Tuple [a, b] k2 pt2) pos.line X.env = pure false := by rfl) :
    GS X W (.Assign [.Tuple [.Name x px, .Name y py] kt pt] (.Tuple [a, b] k2 pt2) pos) (mPar i j f) := by
  obtain ⟨t, p, q⟩ := ha.run
  refine ⟨⟨_, ps_par hc hN hi hj hij hx hy p hw hs, fun c0 c σ ρ s fl ρ' s' E st hm k => ?_⟩⟩
  simp only [mPar, Option.bind_eq_some_iff] at hm
  obtain ⟨⟨ds, s1⟩, h1, h2⟩ := hm
  match ds, h1, h2 with
  | [da, db], h1, h2 =>
    refine q c σ ρ s _ s1 _ st.st h1 fun vs c1 e1 o1 r1 => ?_
    cases h2
    obtain ⟨v1, rr, rfl, ra, r2⟩ := Reps.cons_iff.mp r1
    obtain ⟨v2, rr, rfl, rb, r3⟩ := Reps.cons_iff.mp r2
    rw [Reps.nil_iff.mp r3]
    exact ⟨v1, v2, rfl, k c1 _ (((st.step e1 o1).put i ra).put j rb)⟩
  | [], _, h2 => cases h2
  | [_], _, h2 => cases h2
  | _ :: _ :: _ :: _, _, h2 => cases h2
def mPar3 {W : Wd} (i j l : Nat) (f : EF W (List D)) : MF W := fun ρ s => (f ρ s).bind fun r => match r.1 with
  | [a, b, c] => some (.nx, ((ρ.set i (.v a)).set j (.v b)).set l (.v c), r.2)
  | _ => none
end
end MP
/-! MpE: a def's own lists and dicts; loops; comprehensions; a def's body. -/
namespace MP
open PySem PySem.Spec PyProof.Rows L2
section
variable {K : PySem.W.Frag} {W : Wd}
/-! ### own data in the slots -/
theorem Slots.putO {c : C3} {σ : SS} {ρ : Env} (s : Slots K c σ ρ) (i : Nat) {sl : Sl} {x : V} (r : SlOk K c sl (some (some x)))
    (hn : ∀ (j : Nat) (sj : Sl) (p : Addr), j ≠ i → ρ[j]? = some sj → sj.own = true → σ[j]? = some (some (.ref p)) → sl.own = true → x = .ref p → False) : Slots K c (σ.set i (some x)) (ρ.set i sl) where
  len := by rw [List.length_set, List.length_set]; exact s.len
  ok := fun j sj h => by
    by_cases e : i = j
    · subst e
      have hj : i < ρ.length := by
        have := (List.getElem?_eq_some_iff.mp h).1
        rwa [List.length_set] at this
      rw [List.getElem?_set_self hj] at h
      cases h
      rw [List.getElem?_set_self (by rw [s.len]; exact hj)]
      exact r
    · rw [List.getElem?_set_ne e] at h ⊢
      exact s.ok j sj h
  dist := fun j k sj sk p hj hk ne oj ok h1 h2 => by
    have at_i : ∀ (sj : Sl), (ρ.set i sl)[i]? = some sj → sj = sl := fun sj h => by
      have hj : i < ρ.length := by
        have := (List.getElem?_eq_some_iff.mp h).1
        rwa [List.length_set] at this
      rw [List.getElem?_set_self hj] at h
      cases h; rfl
    have at_x : ∀ (p : Addr), (σ.set i (some x))[i]? = some (some (.ref p)) → x = .ref p := fun p h => by
      have hj : i < σ.length := by
        have := (List.getElem?_eq_some_iff.mp h).1
        rwa [List.length_set] at this
      rw [List.getElem?_set_self hj] at h
      cases h; rfl
    by_cases e1 : i = j
    · subst e1
      have := at_i sj hj; subst this
      have ne2 : i ≠ k := ne
      rw [List.getElem?_set_ne ne2] at hk h2
      exact hn k sk p (Ne.symm ne2) hk ok h2 oj (at_x p h1)
    · by_cases e2 : i = k
      · subst e2
        have := at_i sk hk; subst this
        rw [List.getElem?_set_ne e1] at hj h1
        exact hn j sj p (Ne.symm e1) hj oj h1 ok (at_x p h2)
      · rw [List.getElem?_set_ne e1] at hj h1
        rw [List.getElem?_set_ne e2] at hk h2
        exact s.dist j k sj sk p hj hk ne oj ok h1 h2
theorem StaS.putO {c0 c : C3} {σ : SS} {ρ : Env} {s : W.S} (a : StaS K W c0 c σ ρ s) (i : Nat) {sl : Sl} {x : V} (r : SlOk K c sl (some (some x))) (h0 : ∀ p, sl.own = true → x = .ref p → c0.H p = none)
    (hn : ∀ (j : Nat) (sj : Sl) (p : Addr), j ≠ i → ρ[j]? = some sj → sj.own = true → σ[j]? = some (some (.ref p)) → sl.own = true → x = .ref p → False) : StaS K W c0 c (σ.set i (some x)) (ρ.set i sl) s :=
  ⟨a.ext, ⟨a.st.ok, a.st.sl.putO i r hn⟩, fun j sj p h o h2 => by
    by_cases e : i = j
    · subst e
      have hj : i < ρ.length := by
        have := (List.getElem?_eq_some_iff.mp h).1
        rwa [List.length_set] at this
      rw [List.getElem?_set_self hj] at h
      rw [List.getElem?_set_self (by rw [a.st.sl.len]; exact hj)] at h2
      cases h; cases h2
      exact h0 p o rfl
    · rw [List.getElem?_set_ne e] at h h2
      exact a.own j sj p h o h2⟩
/-- own slots hold things that stand -/
theorem Slots.there {c : C3} {σ : SS} {ρ : Env} (s : Slots K c σ ρ) {j : Nat} {sj : Sl} {p : Addr} (h : ρ[j]? = some sj) (o : sj.own = true) (h2 : σ[j]? = some (some (.ref p))) : c.H p ≠ none := by
  have q := s.ok j sj h
  rw [h2] at q
  cases sj <;> simp [Sl.own] at o
  · obtain ⟨p', xs, e, h3, _⟩ := q; cases e; rw [h3]; exact Option.some_ne_none _
  · obtain ⟨p', xs, e, h3, _⟩ := q; cases e; rw [h3]; exact Option.some_ne_none _
  · obtain ⟨p', xs, ob, e, h3, _⟩ := q; cases e; rw [h3]; exact Option.some_ne_none _
theorem set_same {α : Type} {l : List α} {i : Nat} {a : α} (h : l[i]? = some a) : l.set i a = l := by
  apply List.ext_getElem?
  intro j
  by_cases e : i = j
  · subst e
    rw [List.getElem?_set_self (List.getElem?_eq_some_iff.mp h).1, h]
  · rw [List.getElem?_set_ne e]
/-- what a slot becomes when it is handed on -/
def Sl.frz : Sl → Sl
  | .ol ds => .v (.lst ds)
  | .od ks ds => .v (.dct ks ds)
  | s => s
/-- hand on: own data become frozen -/
def frzE (i : Nat) (ρ : Env) : Env := match ρ[i]? with
  | some sl => ρ.set i sl.frz
  | none => ρ
theorem frz_step {c : C3} {s : W.S} {p : Addr} {o : HO} (ok : Okh W c s) (h : c.H p = some o) (hf : c.F p = none) (hg : c.G p = none) : Okh W ⟨upd c.F p o, c.G, c.H⟩ s ∧ Le c.F (upd c.F p o) :=
  have hle : Le c.F (upd c.F p o) := fun a u h => by rw [upd_ne (ne_of_none h hf)]; exact h
  ⟨⟨fun a u q => by
      have q2 : upd c.F p o a = some u := q
      by_cases e : a = p
      · subst e; rw [upd_same] at q2; cases q2; exact .inl h
      · rw [upd_ne e] at q2; exact ok.sub a u q2, ok.subG, fun a q => by
      have q2 : c.G a ≠ none := q
      show upd c.F p o a = none
      have e : a ≠ p := fun e => by subst e; exact q2 hg
      rw [upd_ne e]; exact ok.dis a q2, W.mono _ _ _ _ hle ok.inv⟩, hle⟩
theorem frz_slots {c : C3} {σ : SS} {ρ : Env} {p : Addr} {o : HO} {i : Nat} {d : D} {si : Sl} (s : Slots K c σ ρ) (hi : ρ[i]? = some si) (ho : si.own = true) (hσ : σ[i]? = some (some (.ref p))) (hf : c.F p = none) (r : Rep K (upd c.F p o) d (.ref p)) :
    Slots K ⟨upd c.F p o, c.G, c.H⟩ σ (ρ.set i (.v d)) := by
  have hle : Le c.F (upd c.F p o) := fun a u h => by rw [upd_ne (ne_of_none h hf)]; exact h
  have ip : i < ρ.length := (List.getElem?_eq_some_iff.mp hi).1
  refine ⟨by rw [List.length_set]; exact s.len, fun j sj h => ?_, fun j k sj sk q hj hk ne oj ok h1 h2 => ?_⟩
  · by_cases e : i = j
    · subst e
      rw [List.getElem?_set_self ip] at h
      cases h
      exact ⟨.ref p, hσ, r⟩
    · rw [List.getElem?_set_ne e] at h
      have q := s.ok j sj h
      have np : ∀ (p' : Addr), σ[j]? = some (some (.ref p')) → sj.own = true → upd c.F p o p' = c.F p' := fun p' h1 h2 => by
        refine upd_ne fun e2 => ?_
        subst e2
        exact s.dist i j si sj p' hi h e ho h2 hσ h1
      cases sj with
      | u => trivial
      | v d' => obtain ⟨x, h1, h2⟩ := q; exact ⟨x, h1, h2.mono hle⟩
      | ol ds => obtain ⟨p', xs, h1, h2, h3, h4, h5⟩ := q; exact ⟨p', xs, h1, h2, h3.mono hle, (np p' h1 rfl).trans h4, h5⟩
      | od ks ds => obtain ⟨p', xs, h1, h2, hk, h3, h4, h5⟩ := q; exact ⟨p', xs, h1, h2, hk, h3.mono hle, (np p' h1 rfl).trans h4, h5⟩
      | lk ks ds => obtain ⟨p', xs, ob, h1, h2, hk, h3, h4, h5⟩ := q; exact ⟨p', xs, ob, h1, h2, hk, h3.mono hle, (np p' h1 rfl).trans h4, h5⟩
  · have g : ∀ (j : Nat) (sj : Sl), (ρ.set i (.v d))[j]? = some sj → sj.own = true → i ≠ j := fun j sj h o e => by
      subst e
      rw [List.getElem?_set_self ip] at h
      cases h
      cases o
    have n1 := g j sj hj oj
    have n2 := g k sk hk ok
    rw [List.getElem?_set_ne n1] at hj
    rw [List.getElem?_set_ne n2] at hk
    exact s.dist j k sj sk q hj hk ne oj ok h1 h2
theorem StaS.frz1 {c0 c : C3} {σ : SS} {ρ : Env} {s : W.S} {p : Addr} {o : HO} {i : Nat} {d : D} {si : Sl} (a : StaS K W c0 c σ ρ s) (hi : ρ[i]? = some si) (ho : si.own = true) (hσ : σ[i]? = some (some (.ref p))) (hH : c.H p = some o) (hf : c.F p = none) (hg : c.G p = none) (r : Rep K (upd c.F p o) d (.ref p)) :
    StaS K W c0 ⟨upd c.F p o, c.G, c.H⟩ σ (ρ.set i (.v d)) s := by
  have h0 : c0.H p = none := a.own i si p hi ho hσ
  obtain ⟨ok, hle⟩ := frz_step a.st.ok hH hf hg
  refine ⟨⟨a.ext.fle.trans hle, fun x h h' => ?_, a.ext.keep, a.ext.gnew, a.ext.there⟩, ⟨ok, frz_slots a.st.sl hi ho hσ hf r⟩, fun j sj q h o' h2 => ?_⟩
  · by_cases e : x = p
    · subst e; exact h0
    · have h2 : upd c.F p o x ≠ none := h
      rw [upd_ne e] at h2
      exact a.ext.fnew x h2 h'
  · have ip : i < ρ.length := (List.getElem?_eq_some_iff.mp hi).1
    have e : i ≠ j := fun e => by
      subst e
      rw [List.getElem?_set_self ip] at h
      cases h
      cases o'
    rw [List.getElem?_set_ne e] at h
    exact a.own j sj q h o' h2
theorem StaS.frz {c0 c : C3} {σ : SS} {ρ : Env} {s : W.S} (i : Nat) (a : StaS K W c0 c σ ρ s) : ∃ c', c'.H = c.H ∧ StaS K W c0 c' σ (frzE i ρ) s := by
  unfold frzE
  split
  · rename_i sl hi
    have q := a.st.sl.ok i sl hi
    cases sl with
    | u => exact ⟨c, rfl, by rw [show ρ.set i (Sl.frz .u) = ρ from set_same hi]; exact a⟩
    | v d => exact ⟨c, rfl, by rw [show ρ.set i (Sl.frz (.v d)) = ρ from set_same hi]; exact a⟩
    | lk ks ds => exact ⟨c, rfl, by rw [show ρ.set i (Sl.frz (.lk ks ds)) = ρ from set_same hi]; exact a⟩
    | ol ds =>
      obtain ⟨p, xs, h1, h2, r, hf, hg⟩ := q
      have hle : Le c.F (upd c.F p (.lst xs)) := fun a u h => by rw [upd_ne (ne_of_none h hf)]; exact h
      exact ⟨⟨upd c.F p (.lst xs), c.G, c.H⟩, rfl, a.frz1 hi rfl h1 h2 hf hg (Rep.lst_iff.mpr ⟨p, xs, rfl, upd_same, r.mono hle⟩)⟩
    | od ks ds =>
      obtain ⟨p, xs, h1, h2, hk, r, hf, hg⟩ := q
      have hle : Le c.F (upd c.F p (.dK xs)) := fun a u h => by rw [upd_ne (ne_of_none h hf)]; exact h
      exact ⟨⟨upd c.F p (.dK xs), c.G, c.H⟩, rfl, a.frz1 hi rfl h1 h2 hf hg (Rep.dct_iff.mpr ⟨p, xs, rfl, upd_same, hk, r.mono hle⟩)⟩
  · exact ⟨c, rfl, a⟩
end
section
variable {X : Cx} {W : Wd}
/-- ahead of these statements the i-th slot's own data are handed on -/
def mFrz {W : Wd} (i : Nat) (m : MF W) : MF W := fun ρ s => m (frzE i ρ) s
theorem gss_frz {st : List Stmt} {m : MF W} (i : Nat) (h : GSs X W st m) : GSs X W st (mFrz i m) := by
  obtain ⟨t, p, q⟩ := h.run
  refine ⟨⟨t, p, fun c0 c σ ρ s f ρ' s' E st hm k => ?_⟩⟩
  obtain ⟨c', e, st'⟩ := st.frz i
  rw [← e]
  exact q c0 c' σ _ s f ρ' s' E st' hm k
theorem gs_frz {st : Stmt} {m : MF W} (i : Nat) (h : GS X W st m) : GS X W st (mFrz i m) := by
  obtain ⟨t, p, q⟩ := h.run
  refine ⟨⟨t, p, fun c0 c σ ρ s f ρ' s' E st hm k => ?_⟩⟩
  obtain ⟨c', e, st'⟩ := st.frz i
  rw [← e]
  exact q c0 c' σ _ s f ρ' s' E st' hm k
/-! ### values of which some are own -/
def ownsOf : List Sl → List V → List Addr
  | sl :: sls, .ref p :: vs => if sl.own = true then p :: ownsOf sls vs else ownsOf sls vs
  | _ :: sls, _ :: vs => ownsOf sls vs
  | _, _ => []
def SlsOk (K : PySem.W.Frag) (c : C3) : List Sl → List V → Prop
  | [], vs => vs = []
  | sl :: sls, vs => ∃ v r, vs = v :: r ∧ SlOk K c sl (some (some v)) ∧ SlsOk K c sls r
theorem SlsOk.ext {K : PySem.W.Frag} {c c' : C3} (e : Ext c c') : ∀ {sls : List Sl} {vs : List V}, SlsOk K c sls vs → SlsOk K c' sls vs
  | [], _, h => h
  | _ :: _, _, ⟨v, r, h, h1, h2⟩ => ⟨v, r, h, h1.ext e, SlsOk.ext e h2⟩
structure GO2 (X : Cx) (W : Wd) (es : List Expr) (f : EF W (List Sl)) : Prop where
  run : ∃ t : TA, PA X es t ∧ ∀ (c : C3) (σ : SS) (ρ : Env) (s : W.S) (sls : List Sl) (s' : W.S) (Q : List V → Hp → Prop), Sta X.K W c σ ρ s → f ρ s = some (sls, s') →
    (∀ vs c', Ext c c' → Okh W c' s' → SlsOk X.K c' sls vs → (ownsOf sls vs).Nodup → (∀ p ∈ ownsOf sls vs, c.H p = none) → Q vs c'.H) → t σ c.H Q
/-- a value that may be own -/
structure GE2 (X : Cx) (W : Wd) (e : Expr) (f : EF W Sl) : Prop where
  run : ∃ t : TE, PE X e t ∧ ∀ (c : C3) (σ : SS) (ρ : Env) (s : W.S) (sl : Sl) (s' : W.S) (Q : VK), Sta X.K W c σ ρ s → f ρ s = some (sl, s') →
    (∀ v c', Ext c c' → Okh W c' s' → SlOk X.K c' sl (some (some v)) → (∀ p, sl.own = true → v = .ref p → c.H p = none) → Q v c'.H) → t σ c.H Q
def oV {W : Wd} (f : EF W D) : EF W Sl := fun ρ s => (f ρ s).map fun r => (.v r.1, r.2)
theorem ge2_of {e : Expr} {f : EF W D} (h : GE X W e f) : GE2 X W e (oV f) := by
  obtain ⟨t, p, q⟩ := h.run
  refine ⟨⟨t, p, fun c σ ρ s sl s' Q st hf k => ?_⟩⟩
  simp only [oV, Option.map_eq_some_iff] at hf
  obtain ⟨⟨d, s1⟩, h1, e⟩ := hf
  cases e
  exact q c σ ρ s d _ _ st h1 fun v c1 e1 o1 r1 => k v c1 e1 o1 ⟨v, rfl, r1⟩ fun p h _ => nomatch h
def oL {W : Wd} (f : EF W (List D)) : EF W Sl := fun ρ s => (f ρ s).bind fun r => if r.1.length ≤ sizeLine then some (.ol r.1, r.2) else none
theorem Okh.allocO {c : C3} {s : W.S} (o : Okh W c s) {p : Addr} (ob : HO) (hp : c.H p = none) : Okh W ⟨c.F, c.G, upd c.H p ob⟩ s ∧ Ext c ⟨c.F, c.G, upd c.H p ob⟩ := by
  have hf := o.sub.free hp
  have hg : c.G p = none := by
    cases q : c.G p with
    | none => rfl
    | some u => rw [o.subG p u q] at hp; cases hp
  refine ⟨⟨fun a u h => ?_, fun a u h => ?_, o.dis, o.inv⟩, ⟨Le.refl _, fun a h h' => absurd h' h, fun a u h _ => ?_, fun a h h' => absurd h' h, fun a h => ?_⟩⟩
  · have ne : a ≠ p := ne_of_none h hf
    rcases o.sub a u h with z | ⟨kvs, ob', z1, z⟩
    · exact .inl (by show upd c.H p ob a = _; rw [upd_ne ne]; exact z)
    · exact .inr ⟨kvs, ob', z1, by show upd c.H p ob a = _; rw [upd_ne ne]; exact z⟩
  · show upd c.H p ob a = _
    rw [upd_ne (ne_of_none h hg)]; exact o.subG a u h
  · show upd c.H p ob a = _
    rw [upd_ne (ne_of_none h hp)]; exact h
  · show upd c.H p ob a ≠ none
    by_cases e : a = p
    · subst e; rw [upd_same]; exact Option.some_ne_none _
    · rw [upd_ne e]; exact h
theorem ge2_lst {es : List Expr} {pos : Pos} {f : EF W (List D)} (h : GA X W es f) : GE2 X W (.List es pos) (oL f) := by
  obtain ⟨t, p, q⟩ := h.run
  refine ⟨⟨_, pe_lst p, fun c σ ρ s sl s' Q st hf k => ?_⟩⟩
  simp only [oL, Option.bind_eq_some_iff] at hf
  obtain ⟨⟨ds, s1⟩, h1, h2⟩ := hf
  split at h2
  · rename_i hl
    cases h2
    refine q c σ ρ s ds s1 _ st h1 fun xs c1 e1 o1 r1 => ⟨by rw [r1.length]; exact hl, fun a ha => ?_⟩
    obtain ⟨o2, e2⟩ := o1.allocO (HO.lst xs) ha
    refine k _ ⟨c1.F, c1.G, upd c1.H a (.lst xs)⟩ (e1.trans e2) o2 ⟨a, xs, rfl, upd_same, r1, o1.sub.free ha, ?_⟩ fun p' _ e => ?_
    · cases q : c1.G a with
      | none => rfl
      | some u => rw [o1.subG a u q] at ha; cases ha
    · cases e
      cases q : c.H a with
      | none => rfl
      | some u => exact absurd ha (e1.there a (by rw [q]; exact Option.some_ne_none _))
  · cases h2
def oD {W : Wd} : EF W Sl := fun _ s => some (.od [] [], s)
theorem ge2_dict {pos : Pos} : GE2 X W (.Dict [] [] pos) oD := by
  refine ⟨⟨_, pe_dnewK, fun c σ ρ s sl s' Q st hf k => ?_⟩⟩
  cases hf
  intro a ha
  obtain ⟨o2, e2⟩ := st.ok.allocO (HO.dK []) ha
  refine k _ ⟨c.F, c.G, upd c.H a (.dK [])⟩ e2 o2 ⟨a, [], rfl, upd_same, rfl, Reps.nil, st.ok.sub.free ha, ?_⟩ fun p' _ e => ?_
  · cases q : c.G a with
    | none => rfl
    | some u => rw [st.ok.subG a u q] at ha; cases ha
  · cases e; exact ha
def o2Nil {W : Wd} : EF W (List Sl) := fun _ s => some ([], s)
def o2Cons {W : Wd} (f : EF W Sl) (g : EF W (List Sl)) : EF W (List Sl) := fun ρ s => (f ρ s).bind fun r => (g ρ r.2).map fun q => (r.1 :: q.1, q.2)
theorem go2_nil : GO2 X W [] o2Nil := ⟨⟨_, pa_nil, fun c σ ρ s ds s' Q st hf q => by cases hf; exact q [] c (Ext.refl c) st.ok rfl .nil fun p h => nomatch h⟩⟩
theorem go2_cons {e : Expr} {es : List Expr} {f : EF W Sl} {g : EF W (List Sl)} (h : GE2 X W e f) (h2 : GO2 X W es g) (hs : starEach (e :: es) X.env = (false, eval e X.env) :: starEach es X.env := by rfl) : GO2 X W (e :: es) (o2Cons f g) := by
  obtain ⟨t, p, q⟩ := h.run
  obtain ⟨t2, p2, q2⟩ := h2.run
  refine ⟨⟨_, pa_cons p p2 hs, fun c σ ρ s ds s' Q st hf k => ?_⟩⟩
  simp only [o2Cons, Option.bind_eq_some_iff, Option.map_eq_some_iff] at hf
  obtain ⟨⟨sl, s1⟩, h1, ⟨sls, s2⟩, h2, e⟩ := hf
  cases e
  refine q c σ ρ s sl s1 _ st h1 fun x c1 e1 o1 r1 f1 => ?_
  refine q2 c1 σ ρ s1 sls _ _ (st.step e1 o1) h2 fun xs c2 e2 o2 r2 nd f2 => ?_
  have fr : ∀ p ∈ ownsOf sls xs, c.H p = none := fun p hp => by
    have := f2 p hp
    cases q : c.H p with
    | none => rfl
    | some u => exact absurd this (e1.there p (by rw [q]; exact Option.some_ne_none _))
  refine k _ c2 (e1.trans e2) o2 ⟨x, xs, rfl, r1.ext e2, r2⟩ ?_ ?_
  · cases x <;> simp only [ownsOf] <;> try exact nd
    split
    · rename_i a ho
      refine List.nodup_cons.mpr ⟨fun hm => ?_, nd⟩
      have hc1 := f2 a hm
      cases sl <;> simp [Sl.own] at ho
      · obtain ⟨p', xs, e, h3, _⟩ := r1; cases e; rw [h3] at hc1; cases hc1
      · obtain ⟨p', xs, e, h3, _⟩ := r1; cases e; rw [h3] at hc1; cases hc1
      · obtain ⟨p', xs, ob, e, h3, _⟩ := r1; cases e; rw [h3] at hc1; cases hc1
    · exact nd
  · cases x <;> simp only [ownsOf] <;> try exact fr
    split
    · rename_i a ho
      intro p hp
      rcases List.mem_cons.mp hp with rfl | hp
      · exact f1 _ ho rfl
      · exact fr p hp
    · exact fr
/-- one value stored -/
def mSetO {W : Wd} (i : Nat) (f : EF W Sl) : MF W := fun ρ s => (f ρ s).map fun r => (.nx, ρ.set i r.1, r.2)
theorem StaS.putNew {c0 c c1 : C3} {σ : SS} {ρ : Env} {s s1 : W.S} (a : StaS X.K W c0 c σ ρ s) (e1 : Ext c c1) (o1 : Okh W c1 s1) (i : Nat) {sl : Sl} {x : V} (r : SlOk X.K c1 sl (some (some x))) (h0 : ∀ p, sl.own = true → x = .ref p → c.H p = none) : StaS X.K W c0 c1 (σ.set i (some x)) (ρ.set i sl) s1 :=
  (a.step e1 o1).putO i r (fun p o e => by
    have := h0 p o e
    cases q : c0.H p with
    | none => rfl
    | some u => exact absurd this (a.ext.there p (by rw [q]; exact Option.some_ne_none _))) fun j sj p _ h o h2 o' e => a.st.sl.there h o h2 (h0 p o' e)
theorem gs_setO {i : Nat} {x : Str} {e : Expr} {pos pos' : Pos} {f : EF W Sl} (hN : X.N.Nodup) (hi : X.N[i]? = some x) (hx : Loc X.env.scope x) (he : GE2 X W e f) (hs : swapsWith e (some (.Name x pos')) pos.line X.env = pure false := by rfl) (hf : X.fn x = true ∨ X.env.scope.names.lookup x = some .local := by first | exact .inl rfl | exact .inr rfl | assumption) :
    GS X W (.Assign [.Name x pos'] e pos) (mSetO i f) := by
  obtain ⟨t, p, q⟩ := he.run
  refine ⟨⟨_, ps_set hN hi hx p hs hf, fun c0 c σ ρ s fl ρ' s' E st hm k => ?_⟩⟩
  simp only [mSetO, Option.map_eq_some_iff] at hm
  obtain ⟨⟨d, s1⟩, h1, e⟩ := hm
  cases e
  exact q c σ ρ s d _ _ st.st h1 fun v c1 e1 o1 r1 f1 => k c1 _ (st.putNew e1 o1 i r1 f1)
/-- several values stored, one behind another -/
def setsE : List Nat → List Sl → Env → Option Env
  | [], [], ρ => some ρ
  | i :: is, sl :: sls, ρ => setsE is sls (ρ.set i sl)
  | _, _, _ => none
def setsV : List Nat → List V → SS → SS
  | i :: is, v :: vs, σ => setsV is vs (σ.set i (some v))
  | _, _, σ => σ
theorem StaS.puts {c0 c1 : C3} {s : W.S} (is : List Nat) : ∀ (sls : List Sl) (vs : List V) (σ : SS) (ρ ρ' : Env), StaS X.K W c0 c1 σ ρ s → SlsOk X.K c1 sls vs → (ownsOf sls vs).Nodup → (∀ p ∈ ownsOf sls vs, c0.H p = none) →
    (∀ (j : Nat) (sj : Sl) (p : Addr), ρ[j]? = some sj → sj.own = true → σ[j]? = some (some (.ref p)) → p ∉ ownsOf sls vs) → setsE is sls ρ = some ρ' → StaS X.K W c0 c1 (setsV is vs σ) ρ' s := by
  induction is with
  | nil =>
    intro sls vs σ ρ ρ' st r nd h0 hn h
    cases sls with
    | nil => cases h; exact st
    | cons _ _ => cases h
  | cons i is ih =>
    intro sls vs σ ρ ρ' st r nd h0 hn h
    cases sls with
    | nil => cases h
    | cons sl sls =>
      obtain ⟨v, rr, rfl, r1, r2⟩ := r
      have own_v : ∀ p, sl.own = true → v = .ref p → ownsOf (sl :: sls) (v :: rr) = p :: ownsOf sls rr := fun p o e => by
        subst e; simp only [ownsOf, o, if_true]
      have sub : ∀ p, p ∈ ownsOf sls rr → p ∈ ownsOf (sl :: sls) (v :: rr) := fun p hp => by
        cases v <;> simp only [ownsOf] <;> try exact hp
        split
        · exact List.mem_cons_of_mem _ hp
        · exact hp
      have nd2 : (ownsOf sls rr).Nodup := by
        cases v <;> simp only [ownsOf] at nd <;> try exact nd
        split at nd
        · exact (List.nodup_cons.mp nd).2
        · exact nd
      refine ih sls rr (σ.set i (some v)) (ρ.set i sl) ρ' (st.putO i r1 (fun p o e => h0 p (by rw [own_v p o e]; exact List.mem_cons_self)) fun j sj p _ hj o h2 o' e => hn j sj p hj o h2 (by rw [own_v p o' e]; exact List.mem_cons_self)) r2 nd2 (fun p hp => h0 p (sub p hp)) (fun j sj p hj o h2 hp => ?_) h
      by_cases e : i = j
      · subst e
        have ip : i < ρ.length := by
          have := (List.getElem?_eq_some_iff.mp hj).1
          rwa [List.length_set] at this
        rw [List.getElem?_set_self ip] at hj
        rw [List.getElem?_set_self (by rw [st.st.sl.len]; exact ip)] at h2
        cases hj; cases h2
        rw [own_v p o rfl] at nd
        exact (List.nodup_cons.mp nd).1 hp
      · rw [List.getElem?_set_ne e] at hj h2
        exact hn j sj p hj o h2 (sub p hp)
theorem StaS.putsNew {c0 c c1 : C3} {σ : SS} {ρ ρ' : Env} {s s1 : W.S} {is : List Nat} {sls : List Sl} {vs : List V} (a : StaS X.K W c0 c σ ρ s) (e1 : Ext c c1) (o1 : Okh W c1 s1) (r : SlsOk X.K c1 sls vs) (nd : (ownsOf sls vs).Nodup) (h0 : ∀ p ∈ ownsOf sls vs, c.H p = none) (h : setsE is sls ρ = some ρ') :
    StaS X.K W c0 c1 (setsV is vs σ) ρ' s1 :=
  StaS.puts is sls vs σ ρ ρ' (a.step e1 o1) r nd (fun p hp => by
    have := h0 p hp
    cases q : c0.H p with
    | none => rfl
    | some u => exact absurd this (a.ext.there p (by rw [q]; exact Option.some_ne_none _))) (fun j sj p hj o h2 hp => a.st.sl.there hj o h2 (h0 p hp)) h
def mParO {W : Wd} (is : List Nat) (f : EF W (List Sl)) : MF W := fun ρ s => (f ρ s).bind fun r => (setsE is r.1 ρ).map fun ρ' => (.nx, ρ', r.2)
theorem SlsOk.length {K : PySem.W.Frag} {c : C3} : ∀ {sls : List Sl} {vs : List V}, SlsOk K c sls vs → vs.length = sls.length
  | [], _, h => by have : _ = [] := h; subst this; rfl
  | _ :: _, _, ⟨v, r, h, h1, h2⟩ => by rw [h, List.length_cons, List.length_cons, SlsOk.length h2]
theorem setsE_length : ∀ {is : List Nat} {sls : List Sl} {ρ ρ' : Env}, setsE is sls ρ = some ρ' → sls.length = is.length
  | [], [], _, _, _ => rfl
  | _ :: is, _ :: sls, _, _, h => by rw [List.length_cons, List.length_cons, setsE_length (is := is) (sls := sls) h]
  | [], _ :: _, _, _, h => by cases h
  | _ :: _, [], _, _, h => by cases h
theorem gs_parO {i j : Nat} {x y : Str} {a b : Expr} {f : EF W (List Sl)} {px py pt pos : Pos} {kt k2 pt2} (hc : X.calm = true) (hN : X.N.Nodup) (hi : X.N[i]? = some x) (hj : X.N[j]? = some y) (hij : i ≠ j)
    (hx : X.env.scope.names.lookup x = some .local) (hy : X.env.scope.names.lookup y = some .local) (ha : GO2 X W [a, b] f)
    (hw : swappedStores [.Tuple [.Name x px, .Name y py] kt pt] (.Tuple [a, b] k2 pt2) X.env = pure (some [x, y]))
    (hs : swapsWithSole [.Tuple [.Name x px, .Name y py] kt pt] (.Tuple [a, b] k2 pt2) pos.line X.env = pure false := by rfl) :
    GS X W (.Assign [.Tuple [.Name x px, .Name y py] kt pt] (.Tuple [a, b] k2 pt2) pos) (mParO [i, j] f) := by
  obtain ⟨t, p, q⟩ := ha.run
  refine ⟨⟨_, ps_par hc hN hi hj hij hx hy p hw hs, fun c0 c σ ρ s fl ρ' s' E st hm k => ?_⟩⟩
  simp only [mParO, Option.bind_eq_some_iff, Option.map_eq_some_iff] at hm
  obtain ⟨⟨sls, s1⟩, h1, ρ1, h2, e⟩ := hm
  cases e
  refine q c σ ρ s sls _ _ st.st h1 fun vs c1 e1 o1 r1 nd f1 => ?_
  have hl : vs.length = 2 := by rw [r1.length, setsE_length h2]; rfl
  match vs, hl with
  | [v1, v2], _ => exact ⟨v1, v2, rfl, k c1 _ (st.putsNew (is := [i, j]) e1 o1 r1 nd f1 h2)⟩
theorem gs_par3O {i j l : Nat} {x y z : Str} {a b c : Expr} {f : EF W (List Sl)} {px py pz pt pos : Pos} {kt k2 pt2} (hc : X.calm = true) (hN : X.N.Nodup) (hi : X.N[i]? = some x) (hj : X.N[j]? = some y) (hl : X.N[l]? = some z) (hij : i ≠ j) (hil : i ≠ l) (hjl : j ≠ l)
    (hx : X.env.scope.names.lookup x = some .local) (hy : X.env.scope.names.lookup y = some .local) (hz : X.env.scope.names.lookup z = some .local) (ha : GO2 X W [a, b, c] f)
    (hw : swappedStores [.Tuple [.Name x px, .Name y py, .Name z pz] kt pt] (.Tuple [a, b, c] k2 pt2) X.env = pure (some [x, y, z]))
    (hs : swapsWithSole [.Tuple [.Name x px, .Name y py, .Name z pz] kt pt] (.Tuple [a, b, c] k2 pt2) pos.line X.env = pure false := by rfl) :
    GS X W (.Assign [.Tuple [.Name x px, .Name y py, .Name z pz] kt pt] (.Tuple [a, b, c] k2 pt2) pos) (mParO [i, j, l] f) := by
  obtain ⟨t, p, q⟩ := ha.run
  refine ⟨⟨_, ps_par3 hc hN hi hj hl hij hil hjl hx hy hz p hw hs, fun c0 c σ ρ s fl ρ' s' E st hm k => ?_⟩⟩
  simp only [mParO, Option.bind_eq_some_iff, Option.map_eq_some_iff] at hm
  obtain ⟨⟨sls, s1⟩, h1, ρ1, h2, e⟩ := hm
  cases e
  refine q c σ ρ s sls _ _ st.st h1 fun vs c1 e1 o1 r1 nd f1 => ?_
  have hl : vs.length = 3 := by rw [r1.length, setsE_length h2]; rfl
  match vs, hl with
  | [v1, v2, v3], _ => exact ⟨v1, v2, v3, rfl, k c1 _ (st.putsNew (is := [i, j, l]) e1 o1 r1 nd f1 h2)⟩
/-- names of a tuple target, by slots -/
def gNames : List Nat → TGs
  | [] => gNil
  | i :: is => gCons (gName i) (gNames is)
theorem gNames_run : ∀ (is : List Nat) (vs : List V) (σ : SS) (H : Hp) (Q : SS → Hp → Prop), vs.length = is.length → Q (setsV is vs σ) H → gNames is vs σ H Q
  | [], vs, σ, H, Q, hl, q => by
    cases vs with
    | nil => exact ⟨rfl, q⟩
    | cons _ _ => cases hl
  | i :: is, vs, σ, H, Q, hl, q => by
    cases vs with
    | nil => cases hl
    | cons v vs => exact ⟨v, vs, rfl, gNames_run is vs _ H Q (by simpa using hl) q⟩
/-- a, b, c, d = .. : a tuple is made and taken apart -/
theorem gs_tupO {tgs es : List Expr} {is : List Nat} {f : EF W (List Sl)} {k1 k2 : Nat} {p1 p2 pos : Pos} (hc : X.calm = true) (hg : PGs X tgs (gNames is)) (ha : GO2 X W es f)
    (hn : (assignEach tgs X.env).length = is.length := by rfl) (hst : (assignEach tgs X.env).findIdx? (·.1) = none := by rfl)
    (hs : swapsWithSole [.Tuple tgs k1 p1] (.Tuple es k2 p2) pos.line X.env = pure false := by rfl) (hw : swappedStores [.Tuple tgs k1 p1] (.Tuple es k2 p2) X.env = pure none := by rfl)
    (h1 : (assignEach [.Tuple tgs k1 p1] X.env).map (·.2) = [assign (.Tuple tgs k1 p1) X.env] := by rfl) (hz : is.length ≤ sizeLine := by decide) : GS X W (.Assign [.Tuple tgs k1 p1] (.Tuple es k2 p2) pos) (mParO is f) := by
  obtain ⟨t, p, q⟩ := ha.run
  refine ⟨⟨_, ps_asg (pe_tup p) (pg_tup hc hg hn hst) hs hw h1, fun c0 c σ ρ s fl ρ' s' E st hm k => ?_⟩⟩
  simp only [mParO, Option.bind_eq_some_iff, Option.map_eq_some_iff] at hm
  obtain ⟨⟨sls, s1⟩, h1, ρ1, h2, e⟩ := hm
  cases e
  refine q c σ ρ s sls _ _ st.st h1 fun vs c1 e1 o1 r1 nd f1 => ?_
  have hl : vs.length = is.length := by rw [r1.length, setsE_length h2]
  refine ⟨by rw [hl]; exact hz, fun a ha => ?_⟩
  obtain ⟨o2, e2⟩ := o1.allocO (HO.tup vs) ha
  refine ⟨a, vs, rfl, .inl (.inl upd_same), hl, gNames_run is vs _ _ _ hl ?_⟩
  exact k ⟨c1.F, c1.G, upd c1.H a (.tup vs)⟩ _ (st.putsNew (e1.trans e2) o2 (r1.ext e2) nd f1 h2)
/-! ### own lists changed -/
theorem StaS.chg {c0 c : C3} {σ : SS} {ρ : Env} {s : W.S} (a : StaS X.K W c0 c σ ρ s) {i : Nat} {si sl : Sl} {p : Addr} {o : HO} (hi : ρ[i]? = some si) (ho : si.own = true) (hσ : σ[i]? = some (some (.ref p)))
    (hn : c.H p ≠ none) (hf : c.F p = none) (hg : c.G p = none) (r : SlOk X.K ⟨c.F, c.G, upd c.H p o⟩ sl (some (some (.ref p)))) : StaS X.K W c0 ⟨c.F, c.G, upd c.H p o⟩ σ (ρ.set i sl) s := by
  have h0 : c0.H p = none := a.own i si p hi ho hσ
  have ip : i < ρ.length := (List.getElem?_eq_some_iff.mp hi).1
  refine ⟨⟨a.ext.fle, a.ext.fnew, fun x u h h' => ?_, a.ext.gnew, fun x h => ?_⟩, ⟨⟨fun x u h => ?_, fun x u h => ?_, a.st.ok.dis, a.st.ok.inv⟩, ⟨by rw [List.length_set]; exact a.st.sl.len, fun j sj h => ?_, fun j k sj sk q hj hk ne oj ok h1 h2 => ?_⟩⟩, fun j sj q h o' h2 => ?_⟩
  · show upd c.H p o x = _
    rw [upd_ne (ne_of_none h h0)]; exact a.ext.keep x u h h'
  · show upd c.H p o x ≠ none
    by_cases e : x = p
    · subst e; exact absurd h0 h
    · rw [upd_ne e]; exact a.ext.there x h
  · have ne : x ≠ p := ne_of_none h hf
    rcases a.st.ok.sub x u h with z | ⟨kvs, ob, z1, z⟩
    · exact .inl (by show upd c.H p o x = _; rw [upd_ne ne]; exact z)
    · exact .inr ⟨kvs, ob, z1, by show upd c.H p o x = _; rw [upd_ne ne]; exact z⟩
  · show upd c.H p o x = _
    rw [upd_ne (ne_of_none h hg)]; exact a.st.ok.subG x u h
  · by_cases e : i = j
    · subst e
      rw [List.getElem?_set_self ip] at h
      cases h
      rw [hσ]; exact r
    · rw [List.getElem?_set_ne e] at h
      have q := a.st.sl.ok j sj h
      have np : ∀ (p' : Addr), σ[j]? = some (some (.ref p')) → sj.own = true → upd c.H p o p' = c.H p' := fun p' h1 h2 => by
        refine upd_ne fun e2 => ?_
        subst e2
        exact a.st.sl.dist i j si sj p' hi h e ho h2 hσ h1
      cases sj with
      | u => trivial
      | v d' => exact q
      | ol ds => obtain ⟨p', xs, h1, h2, h3, h4, h5⟩ := q; exact ⟨p', xs, h1, (np p' h1 rfl).trans h2, h3, h4, h5⟩
      | od ks ds => obtain ⟨p', xs, h1, h2, hk, h3, h4, h5⟩ := q; exact ⟨p', xs, h1, (np p' h1 rfl).trans h2, hk, h3, h4, h5⟩
      | lk ks ds => obtain ⟨p', xs, ob, h1, h2, hk, h3, h4, h5⟩ := q; exact ⟨p', xs, ob, h1, (np p' h1 rfl).trans h2, hk, h3, h4, h5⟩
  · have same : ∀ (j : Nat) (sj : Sl), (ρ.set i sl)[j]? = some sj → sj.own = true → ∃ sj', ρ[j]? = some sj' ∧ sj'.own = true := fun j sj h o' => by
      by_cases e : i = j
      · subst e; exact ⟨si, hi, ho⟩
      · rw [List.getElem?_set_ne e] at h; exact ⟨sj, h, o'⟩
    obtain ⟨s1, q1, q2⟩ := same j sj hj oj
    obtain ⟨s2, q3, q4⟩ := same k sk hk ok
    exact a.st.sl.dist j k s1 s2 q q1 q3 ne q2 q4 h1 h2
  · by_cases e : i = j
    · subst e; rw [hσ] at h2; cases h2; exact h0
    · rw [List.getElem?_set_ne e] at h; exact a.own j sj q h o' h2
/-- xs.append(e), xs own -/
def mApp {W : Wd} (i : Nat) (f : EF W D) : MF W := fun ρ s => (f ρ s).bind fun r => match ρ[i]? with
  | some (.ol ds) => if ds.length < sizeLine then some (.nx, ρ.set i (.ol (ds ++ [r.1])), r.2) else none
  | _ => none
theorem gs_app {i : Nat} {o e : Expr} {apos cpos pos : Pos} {f : EF W D} (ho : PE X o (tVar i)) (he : GE X W e f) (hbase : attributeBase o "append" X.env (eval o X.env) = eval o X.env := by rfl)
    (hfew : ((backTo cpos (starEach (e :: []) X.env)).all (fun x => !x.1) && (backToKw cpos (keywordEach [] X.env)).all (fun x => x.1.isSome) && decide ((e :: []).length + ([] : List Keyword).length + (if ([] : List Keyword).isEmpty then 0 else 1) < 30)) = true := by rfl)
    (hline : (apos.endLine == cpos.line) = true := by rfl) (hs : starEach (e :: []) X.env = (false, eval e X.env) :: starEach [] X.env := by rfl) (hplain : (backTo cpos (starEach [] X.env)).any (·.1) = false := by rfl)
    (hsw : swapsWith (.Call (.Attribute o "append" apos) [e] [] cpos) none pos.line X.env = pure false := by rfl) : GS X W (.Expr (.Call (.Attribute o "append" apos) [e] [] cpos) pos) (mApp i f) := by
  obtain ⟨t, p, q⟩ := he.run
  refine ⟨⟨_, ps_expr (pe_bm PySem.F.plainAttrs_list PySem.F.slot_list_append PySem.F.type_list_append mt_append ho (pa_cons p pa_nil hs) hbase hfew hline hs hplain) hsw, fun c0 c σ ρ s fl ρ' s' E st hm k => ?_⟩⟩
  simp only [mApp, Option.bind_eq_some_iff] at hm
  obtain ⟨⟨d, s1⟩, h1, h2⟩ := hm
  split at h2
  · rename_i ds hi
    split at h2
    · rename_i hl
      cases h2
      obtain ⟨a, xs, g1, g2, g3, g4, g5⟩ := st.st.sl.ok i _ hi
      refine ⟨.ref a, g1, .inl ⟨rfl, _, .inl (.inl g2)⟩, q c σ ρ s d _ _ st.st h1 fun v c1 e1 o1 r1 => ?_⟩
      obtain ⟨k2, k3, k4⟩ := e1.ownOk g2 g4 g5
      refine ⟨a, xs, v, rfl, rfl, k2, by rw [g3.length]; exact hl, ?_⟩
      have st1 := st.step e1 o1
      refine k ⟨c1.F, c1.G, upd c1.H a (.lst (xs ++ [v]))⟩ σ (st1.chg hi rfl g1 (by rw [k2]; exact Option.some_ne_none _) k3 k4 ⟨a, xs ++ [v], rfl, upd_same, ?_, k3, k4⟩)
      exact (g3.mono e1.fle).append (Reps.cons r1 Reps.nil)
    · cases h2
  · cases h2
/-- d[k] = e, d own -/
def dPut (ks : List Key) (ds : List D) (k : Key) (d : D) : List Key × List D :=
  if (ks.any fun j => decide (j = k)) = true then (ks, (ks.zip ds).map fun p => if p.1 = k then d else p.2) else (ks ++ [k], ds ++ [d])
def mDput {W : Wd} (i : Nat) (fk fv : EF W D) : MF W := fun ρ s => (fv ρ s).bind fun v => (fk ρ v.2).bind fun k => (keyOf k.1).bind fun kk => match ρ[i]? with
  | some (.od ks ds) => if ks.length < sizeLine then some (.nx, ρ.set i (.od (dPut ks ds kk v.1).1 (dPut ks ds kk v.1).2), k.2) else none
  | _ => none
theorem any_mem (kvs : List (Key × V)) (k : Key) : (kvs.any fun kv => decide (kv.1 = k)) = (kvs.map (·.1)).any fun j => decide (j = k) := by
  rw [List.any_map]; rfl
theorem rep_dput {F : Hp} {K : PySem.W.Frag} {kvs : List (Key × V)} {ks : List Key} {ds : List D} {k : Key} {v : V} {d : D} (hk : kvs.map (·.1) = ks) (r : Reps K F ds (kvs.map (·.2))) (rv : Rep K F d v) :
    (putK kvs k v).map (·.1) = (dPut ks ds k d).1 ∧ Reps K F (dPut ks ds k d).2 ((putK kvs k v).map (·.2)) := by
  subst hk
  unfold putK dPut
  rw [any_mem]
  by_cases h : ((kvs.map (·.1)).any fun j => decide (j = k)) = true
  · rw [if_pos h, if_pos h]
    clear h
    induction kvs generalizing ds with
    | nil => exact ⟨rfl, by have h0 := r.length; simp at h0; have h1 := List.length_eq_zero_iff.mp h0.symm; subst h1; exact Reps.nil⟩
    | cons p kvs ih =>
      cases ds with
      | nil => rw [List.map_cons] at r; exact nomatch Reps.nil_iff.mp r
      | cons d1 ds =>
        rw [List.map_cons] at r
        obtain ⟨x, rr, e, r1, r2⟩ := Reps.cons_iff.mp r
        obtain ⟨rfl, rfl⟩ := List.cons.inj e
        obtain ⟨i1, i2⟩ := ih r2
        refine ⟨?_, ?_⟩
        · simp only [List.map_cons, List.map_map] at i1 ⊢
          rw [i1]
          by_cases e : p.1 = k <;> simp [e]
        · simp only [List.map_cons, List.zip_cons_cons]
          refine Reps.cons ?_ i2
          by_cases e : p.1 = k
          · simp only [e, if_true]; exact rv
          · simp only [e, if_false]; exact r1
  · rw [if_neg h, if_neg h]
    simp only [List.map_append, List.map_cons, List.map_nil]
    exact ⟨trivial, r.append (Reps.cons rv Reps.nil)⟩
theorem gs_dput {i : Nat} {o ki value : Expr} {pos pos' : Pos} {fk fv : EF W D} (hu : X.A.units + 1 < cLine) (ho : PE X o (tVar i)) (hk : GE X W ki fk) (hv : GE X W value fv)
    (hs : swapsWith value (some (.Subscript o ki pos')) pos.line X.env = pure false := by rfl) : GS X W (.Assign [.Subscript o ki pos'] value pos) (mDput i fk fv) := by
  obtain ⟨tk, pk, qk⟩ := hk.run
  obtain ⟨tv, pv', qv⟩ := hv.run
  refine ⟨⟨_, ps_dput hu ho pk pv' hs, fun c0 c σ ρ s fl ρ' s' E st hm k => ?_⟩⟩
  simp only [mDput, Option.bind_eq_some_iff] at hm
  obtain ⟨⟨dv, s1⟩, h1, ⟨dk, s2⟩, h2, kk, h3, h4⟩ := hm
  split at h4
  · rename_i ks ds hi
    split at h4
    · rename_i hl
      cases h4
      obtain ⟨a, kvs, g1, g2, gk, g3, g4, g5⟩ := st.st.sl.ok i _ hi
      refine qv c σ ρ s dv s1 _ st.st h1 fun v c1 e1 o1 r1 => ⟨.ref a, g1, qk c1 σ ρ s1 dk _ _ (st.st.step e1 o1) h2 fun y c2 e2 o2 r2 => ?_⟩
      have e12 := e1.trans e2
      obtain ⟨k2, k3, k4⟩ := e12.ownOk g2 g4 g5
      have hlen : kvs.length < sizeLine := by rw [← gk, List.length_map] at hl; exact hl
      refine ⟨a, _, rfl, by rw [rep_key h3 r2]; exact DPut.k k2 hlen, ?_⟩
      have st2 := st.step e12 o2
      obtain ⟨p1, p2⟩ := rep_dput (k := kk) gk (g3.mono e12.fle) (r1.mono e2.fle)
      exact k ⟨c2.F, c2.G, upd c2.H a (.dK (putK kvs kk v))⟩ σ (st2.chg hi rfl g1 (by rw [k2]; exact Option.some_ne_none _) k3 k4 ⟨a, _, rfl, upd_same, p1, p2, k3, k4⟩)
    · cases h4
  · cases h4
end
end MP
/-! MpF: loops, comprehensions, a def's body. -/
namespace MP
open PySem PySem.Spec PyProof.Rows L2
section
variable {X : Cx} {W : Wd}
/-! ### while -/
def mWhile {W : Wd} (t : EF W Bool) (b : MF W) : Nat → MF W
  | 0, _, _ => none
  | n + 1, ρ, s => (t ρ s).bind fun r => if r.1 = true then (b ρ r.2).bind fun q => match q with
    | (.nx, ρ', s') => mWhile t b n ρ' s'
    | (.ct, ρ', s') => mWhile t b n ρ' s'
    | (.bk, ρ', s') => some (.nx, ρ', s')
    | (.rt d, ρ', s') => some (.rt d, ρ', s') else some (.nx, ρ, r.2)
/-- turns enough -/
def bigN : Nat := 2 ^ 100
def mWh {W : Wd} (t : EF W Bool) (b : MF W) : MF W := mWhile t b bigN
theorem gs_while {c : Expr} {body : List Stmt} {pos : Pos} {t : EF W Bool} {b : MF W} (hp : PassesOwn (model X.prog X.w) X.A X.env X.xe) (hc : GT X W c t) (hb : GSs X W body b) : GS X W (.While c body [] pos) (mWh t b) := by
  obtain ⟨tc, pc, qc⟩ := hc.run
  obtain ⟨tb, pb, qb⟩ := hb.run
  refine ⟨⟨_, ps_while hp pc pb, fun c0 c σ ρ s f ρ' s' E st hm k => ?_⟩⟩
  refine ⟨fun m σ H => ∃ (c : C3) (ρ : Env) (s : W.S), c.H = H ∧ StaS X.K W c0 c σ ρ s ∧ mWhile t b m ρ s = some (f, ρ', s'), ⟨bigN, c, ρ, s, rfl, st, hm⟩, ?_⟩
  rintro m σ _ ⟨c, ρ, s, rfl, st, hm⟩
  cases m with
  | zero => cases hm
  | succ m =>
    simp only [mWhile, Option.bind_eq_some_iff] at hm
    obtain ⟨⟨b1, s1⟩, h1, h2⟩ := hm
    refine qc c σ ρ s b1 s1 _ st.st h1 fun c1 e1 o1 => ?_
    have st1 := st.step e1 o1
    cases b1 with
    | false =>
      rw [if_neg Bool.false_ne_true]
      have h3 : some (Fl.nx, ρ, s1) = some (f, ρ', s') := by simpa using h2
      cases h3
      exact k c1 σ st1
    | true =>
      rw [if_pos rfl]
      have h3 : (b ρ s1).bind (fun q => match q with
        | (.nx, ρ', s') => mWhile t b m ρ' s'
        | (.ct, ρ', s') => mWhile t b m ρ' s'
        | (.bk, ρ', s') => some (.nx, ρ', s')
        | (.rt d, ρ', s') => some (.rt d, ρ', s')) = some (f, ρ', s') := by simpa using h2
      simp only [Option.bind_eq_some_iff] at h3
      obtain ⟨⟨f2, ρ2, s2⟩, h4, h5⟩ := h3
      refine ⟨fun σ' H' => ∃ (c : C3) (ρ : Env) (s : W.S), c.H = H' ∧ StaS X.K W c0 c σ' ρ s ∧ mWhile t b m ρ s = some (f, ρ', s'), fun σ' H' z => ⟨m, Nat.lt_succ_self m, z⟩, ?_⟩
      refine qb c0 c1 σ ρ s1 f2 ρ2 s2 _ st1 h4 ?_
      cases f2 with
      | nx => exact fun c' σ' st' => ⟨c', ρ2, s2, rfl, st', h5⟩
      | ct => exact fun c' σ' st' => ⟨c', ρ2, s2, rfl, st', h5⟩
      | bk => cases h5; exact k
      | rt d => cases h5; exact k
/-! ### what a for walks -/
structure GI (X : Cx) (W : Wd) (tg iter : Expr) (src : EF W (List D)) : Prop where
  run : ∃ wi : TI, PI X tg iter wi ∧ ∀ (c : C3) (σ : SS) (ρ : Env) (s : W.S) (ds : List D) (s' : W.S) (R : It → Hp → Prop), Sta X.K W c σ ρ s → src ρ s = some (ds, s') →
    (∀ (J : It) (c' : C3) (Gd : Hp → Prop) (Y : Nat → Hp → V → Hp → Prop), Ext c c' → Okh W c' s' → Walk J ds.length Gd Y → (∀ c'' : C3, Le c'.F c''.F → Sub c''.F c''.H → Gd c''.H) →
      (∀ (i : Nat) (c'' : C3) (x : V) (H3 : Hp), Le c'.F c''.F → Sub c''.F c''.H → Y i c''.H x H3 → i < ds.length → ∃ c3 d, c3.H = H3 ∧ PExt c'' c3 ∧ ds[i]? = some d ∧ Rep X.K c3.F d x) → R J c'.H) → wi σ c.H R
/-- a list or a tuple: which one it is must be said -/
def sLst {W : Wd} (f : EF W D) : EF W (List D) := lOf f
theorem lof_run {e : Expr} {f : EF W D} (h : GE X W e f) : ∃ t : TE, PE X e t ∧ ∀ (c : C3) (σ : SS) (ρ : Env) (s : W.S) (ds : List D) (s' : W.S) (Q : VK), Sta X.K W c σ ρ s → lOf f ρ s = some (ds, s') →
    (∀ a xs c', Ext c c' → Okh W c' s' → SqL X.K c'.F a xs → Reps X.K c'.F ds xs → Q (.ref a) c'.H) → t σ c.H Q := by
  obtain ⟨t, p, q⟩ := h.run
  refine ⟨t, p, fun c σ ρ s ds s' Q st hf k => ?_⟩
  simp only [lOf, Option.bind_eq_some_iff] at hf
  obtain ⟨⟨d, s1⟩, h1, h2⟩ := hf
  refine q c σ ρ s d s1 _ st h1 fun v c1 e1 o1 r1 => ?_
  cases d <;> simp at h2
  · obtain ⟨rfl, rfl⟩ := h2
    obtain ⟨a, xs, rfl, ha, rs⟩ := Rep.lst_iff.mp r1
    exact k a xs c1 e1 o1 (.inl (.inl ha)) rs
  · obtain ⟨rfl, rfl⟩ := h2
    obtain ⟨a, xs, rfl, ha, rs⟩ := Rep.rol_iff.mp r1
    exact k a xs c1 e1 o1 ha rs
theorem gi_list {tg e : Expr} {f : EF W D} (h : GE X W e f) : GI X W tg e (lOf f) := by
  obtain ⟨t, p, q⟩ := lof_run h
  refine ⟨⟨_, pi_list p, fun c σ ρ s ds s' R st hf k => ?_⟩⟩
  refine q c σ ρ s ds s' _ st hf fun a xs c1 e1 o1 ha rs => ?_
  refine ⟨a, rfl, ⟨xs, o1.sub.sqL ha⟩, k (Itl X.K a) c1 (fun H => SqL X.K H a xs) (YAt xs) e1 o1 (by rw [← rs.length]; exact walk_list) (fun c'' le sb => sb.sqL (le.sqL ha)) fun i c'' x H3 le sb y hi => ?_⟩
  obtain ⟨rfl, hx⟩ := y
  obtain ⟨d', h3, h4⟩ := rs.get' hx
  exact ⟨c'', d', rfl, PExt.refl _, h3, h4.mono le⟩
theorem gi_tup {tg e : Expr} {f : EF W D} (h : GE X W e f) : GI X W tg e (tOf f) := by
  obtain ⟨t, p, q⟩ := h.run
  refine ⟨⟨_, pi_tup p, fun c σ ρ s ds s' R st hf k => ?_⟩⟩
  simp only [tOf, Option.bind_eq_some_iff] at hf
  obtain ⟨⟨d, s1⟩, h1, h2⟩ := hf
  refine q c σ ρ s d s1 _ st h1 fun v c1 e1 o1 r1 => ?_
  cases d <;> simp at h2
  obtain ⟨rfl, rfl⟩ := h2
  obtain ⟨a, xs, rfl, ha, rs⟩ := Rep.tup_iff.mp r1
  refine ⟨a, rfl, ⟨xs, o1.sub.sqT ha⟩, k (Itt X.K a) c1 (fun H => SqT X.K H a xs) (YAt xs) e1 o1 (by rw [← rs.length]; exact walk_tup) (fun c'' le sb => sb.sqT (le.sqT ha)) fun i c'' x H3 le sb y hi => ?_⟩
  obtain ⟨rfl, hx⟩ := y
  obtain ⟨d', h3, h4⟩ := rs.get' hx
  exact ⟨c'', d', rfl, PExt.refl _, h3, h4.mono le⟩
/-- the ints lo, lo + 1, .. -/
def rngD (lo : Int) (n : Nat) : List D := (List.range n).map fun (i : Nat) => D.int (lo + i)
theorem rngD_length (lo : Int) (n : Nat) : (rngD lo n).length = n := by simp [rngD]
theorem rngD_get {lo : Int} {n i : Nat} (h : i < n) : (rngD lo n)[i]? = some (.int (lo + i)) := by
  simp [rngD, h]
theorem rng_walk {c1 : C3} {lo : Int} {n : Nat} {s' : W.S} {R : It → Hp → Prop} (o1 : Okh W c1 s') {c : C3} (e1 : Ext c c1)
    (k : ∀ (J : It) (c' : C3) (Gd : Hp → Prop) (Y : Nat → Hp → V → Hp → Prop), Ext c c' → Okh W c' s' → Walk J (rngD lo n).length Gd Y → (∀ c'' : C3, Le c'.F c''.F → Sub c''.F c''.H → Gd c''.H) →
      (∀ (i : Nat) (c'' : C3) (x : V) (H3 : Hp), Le c'.F c''.F → Sub c''.F c''.H → Y i c''.H x H3 → i < (rngD lo n).length → ∃ c3 d, c3.H = H3 ∧ PExt c'' c3 ∧ (rngD lo n)[i]? = some d ∧ Rep X.K c3.F d x) → R J c'.H) : R (Itr lo n) c1.H := by
  refine k (Itr lo n) c1 (fun _ => True) (YFn fun i => .int (lo + i)) e1 o1 (by rw [rngD_length]; exact walk_range) (fun _ _ _ => trivial) fun i c'' x H3 le sb y hi => ?_
  obtain ⟨rfl, rfl⟩ := y
  rw [rngD_length] at hi
  exact ⟨c'', _, rfl, PExt.refl _, rngD_get hi, Rep.int_iff.mpr rfl⟩
def sRng1 {W : Wd} (f : EF W (List D)) : EF W (List D) := fun ρ s => (f ρ s).bind fun r => match r.1 with
  | [.int j] => if -(2 ^ 62) ≤ j ∧ j < 2 ^ 62 then some (rngD 0 j.toNat, r.2) else none
  | _ => none
theorem gi_rng1 {tg a : Expr} {p pos : Pos} {f : EF W (List D)} (hg : Gl X "range") (hm : X.mg "range" = none) (ha : GA X W [a] f) (hs : starEach [a] X.env = [(false, eval a X.env)] := by rfl) : GI X W tg (.Call (.Name "range" p) [a] [] pos) (sRng1 f) := by
  obtain ⟨t, p, q⟩ := ha.run
  refine ⟨⟨_, pi_range1 hg hm p hs, fun c σ ρ s ds s' R st hf k => ?_⟩⟩
  simp only [sRng1, Option.bind_eq_some_iff] at hf
  obtain ⟨⟨es, s1⟩, h1, h2⟩ := hf
  refine q c σ ρ s es s1 _ st h1 fun vs c1 e1 o1 r1 => ?_
  dsimp only at h2
  split at h2
  · split at h2
    · rename_i j hj
      cases h2
      obtain ⟨v1, rr, rfl, ra, r2⟩ := Reps.cons_iff.mp r1
      rw [Reps.nil_iff.mp r2, Rep.int_iff.mp ra]
      exact ⟨j, rfl, hj.1, hj.2, rng_walk o1 e1 k⟩
    · cases h2
  · cases h2
def sRng2 {W : Wd} (f : EF W (List D)) : EF W (List D) := fun ρ s => (f ρ s).bind fun r => match r.1 with
  | [.int i, .int j] => if -(2 ^ 62) ≤ i ∧ i < 2 ^ 62 ∧ -(2 ^ 62) ≤ j ∧ j < 2 ^ 62 then some (rngD i (j - i).toNat, r.2) else none
  | _ => none
theorem gi_rng2 {tg a b : Expr} {p pos : Pos} {f : EF W (List D)} (hg : Gl X "range") (hm : X.mg "range" = none) (ha : GA X W [a, b] f) (hs : starEach [a, b] X.env = [(false, eval a X.env), (false, eval b X.env)] := by rfl)
    (hs2 : starEach [b] X.env = [(false, eval b X.env)] := by rfl) : GI X W tg (.Call (.Name "range" p) [a, b] [] pos) (sRng2 f) := by
  obtain ⟨t, p, q⟩ := ha.run
  refine ⟨⟨_, pi_range2 hg hm p hs hs2, fun c σ ρ s ds s' R st hf k => ?_⟩⟩
  simp only [sRng2, Option.bind_eq_some_iff] at hf
  obtain ⟨⟨es, s1⟩, h1, h2⟩ := hf
  refine q c σ ρ s es s1 _ st h1 fun vs c1 e1 o1 r1 => ?_
  dsimp only at h2
  split at h2
  · split at h2
    · rename_i i j hj
      cases h2
      rw [two_ints r1]
      exact ⟨i, j, rfl, hj, rng_walk o1 e1 k⟩
    · cases h2
  · cases h2
def pairsD (as bs : List D) : List D := (as.zip bs).map fun p => .tup [p.1, p.2]
theorem pair_new {c'' : C3} {a b : D} {x y : V} {T : Addr} (sb : Sub c''.F c''.H) (hT : c''.H T = none) (ra : Rep X.K c''.F a x) (rb : Rep X.K c''.F b y) : ∃ c3, c3.H = upd c''.H T (.tup [x, y]) ∧ PExt c'' c3 ∧ Rep X.K c3.F (.tup [a, b]) (.ref T) := by
  have pe := PExt.alloc sb (HO.tup [x, y]) hT
  exact ⟨_, rfl, pe, Rep.tup_iff.mpr ⟨T, _, rfl, .inl (.inl upd_same), Reps.cons (ra.mono pe.fle) (Reps.cons (rb.mono pe.fle) Reps.nil)⟩⟩
def sEnum {W : Wd} (f : EF W D) : EF W (List D) := fun ρ s => (lOf f ρ s).map fun r => (pairsD (rngD 0 r.1.length) r.1, r.2)
theorem zip_get {as bs : List D} {i : Nat} {a b : D} (h1 : as[i]? = some a) (h2 : bs[i]? = some b) : (pairsD as bs)[i]? = some (.tup [a, b]) := by
  unfold pairsD
  have h : (as.zip bs)[i]? = some (a, b) := List.getElem?_zip_eq_some.mpr ⟨h1, h2⟩
  rw [List.getElem?_map, h]
  rfl
theorem gi_enum {elts : List Expr} {kk : Nat} {tpos p pos : Pos} {e : Expr} {f : EF W D} (hg : Gl X "enumerate") (hm : X.mg "enumerate" = none) (h : GE X W e f) (hs0 : starEach (e :: []) X.env = (false, eval e X.env) :: starEach [] X.env := by rfl) (hs : starEach [e] X.env = [(false, eval e X.env)] := by rfl) :
    GI X W (.Tuple elts kk tpos) (.Call (.Name "enumerate" p) [e] [] pos) (sEnum f) := by
  obtain ⟨t, p, q⟩ := lof_run h
  refine ⟨⟨_, pi_enum hg hm (pa_cons p pa_nil hs0) hs, fun c σ ρ s ds s' R st hf k => ?_⟩⟩
  simp only [sEnum, Option.map_eq_some_iff] at hf
  obtain ⟨⟨es, s1⟩, h1, e⟩ := hf
  cases e
  refine q c σ ρ s es _ _ st h1 fun a xs c1 e1 o1 l1 r1 => ?_
  refine ⟨a, xs, rfl, o1.sub.sqL l1, k (Ite X.K a) c1 (fun H => SqL X.K H a xs) (YPair (fun i => some (.int (i : Nat))) (fun i => xs[i]?)) e1 o1 ?_ (fun c'' le sb => sb.sqL (le.sqL l1)) fun i c'' x H3 le sb y hi => ?_⟩
  · have : (pairsD (rngD 0 es.length) es).length = xs.length := by simp [pairsD, rngD_length, r1.length]
    rw [this]; exact walk_enum
  · obtain ⟨T, x1, x2, rfl, hT, rfl, g1, g2⟩ := y
    cases g1
    obtain ⟨d', h3, h4⟩ := r1.get' g2
    obtain ⟨c3, z1, z2, z3⟩ := pair_new sb hT (a := .int (i : Nat)) (Rep.int_iff.mpr rfl) (h4.mono le)
    have hi2 : i < es.length := (List.getElem?_eq_some_iff.mp h3).1
    have g3 : (rngD 0 es.length)[i]? = some (.int (i : Nat)) := by rw [rngD_get hi2]; simp
    exact ⟨c3, _, z1, z2, zip_get g3 h3, z3⟩
def sZip {W : Wd} (f g : EF W D) : EF W (List D) := fun ρ s => (lOf f ρ s).bind fun r => (lOf g ρ r.2).map fun q => (pairsD r.1 q.1, q.2)
theorem gi_zip {elts : List Expr} {kk : Nat} {tpos p pos : Pos} {e e2 : Expr} {f g : EF W D} (hg : Gl X "zip") (hm : X.mg "zip" = none) (h : GE X W e f) (h2 : GE X W e2 g) (hs0 : starEach (e :: [e2]) X.env = (false, eval e X.env) :: starEach [e2] X.env := by rfl) (hs1 : starEach (e2 :: []) X.env = (false, eval e2 X.env) :: starEach [] X.env := by rfl)
    (hpl : (backTo pos (starEach [e2] X.env)).any (·.1) = false := by rfl) : GI X W (.Tuple elts kk tpos) (.Call (.Name "zip" p) [e, e2] [] pos) (sZip f g) := by
  obtain ⟨t, p, q⟩ := lof_run h
  obtain ⟨t2, p2, q2⟩ := lof_run h2
  refine ⟨⟨_, pi_zip hg hm (pa_cons p (pa_cons p2 pa_nil hs1) hs0) hs0 hpl, fun c σ ρ s ds s' R st hf k => ?_⟩⟩
  simp only [sZip, Option.bind_eq_some_iff, Option.map_eq_some_iff] at hf
  obtain ⟨⟨es, s1⟩, h1, ⟨es2, s2⟩, h3, e⟩ := hf
  cases e
  refine q c σ ρ s es _ _ st h1 fun a xs c1 e1 o1 l1 r1 => ?_
  refine q2 c1 σ ρ s1 es2 _ _ (st.step e1 o1) h3 fun b ys c2 e2 o2 l2 r2 => ?_
  have l1' := e2.fle.sqL l1
  have r1' := r1.mono e2.fle
  refine ⟨a, b, xs, ys, rfl, o2.sub.sqL l1', o2.sub.sqL l2, k (Itz X.K a b) c2 (fun H => SqL X.K H a xs ∧ SqL X.K H b ys) (YPair (fun i => xs[i]?) (fun i => ys[i]?)) (e1.trans e2) o2 ?_ (fun c'' le sb => ⟨sb.sqL (le.sqL l1'), sb.sqL (le.sqL l2)⟩) fun i c'' x H3 le sb y hi => ?_⟩
  · have : (pairsD es es2).length = min xs.length ys.length := by simp [pairsD, r1.length, r2.length]
    exact walk_zip this
  · obtain ⟨T, x1, x2, rfl, hT, rfl, g1, g2⟩ := y
    obtain ⟨d1, h5, h6⟩ := r1'.get' g1
    obtain ⟨d2, h7, h8⟩ := r2.get' g2
    obtain ⟨c3, z1, z2, z3⟩ := pair_new sb hT (h6.mono le) (h8.mono le)
    exact ⟨c3, _, z1, z2, zip_get h5 h7, z3⟩
theorem Ext.up {c0 c : C3} (e : Ext c0 c) : Ext ⟨c.F, c0.G, c0.H⟩ c := ⟨Le.refl _, fun a h h' => absurd h' h, e.keep, e.gnew, e.there⟩
theorem Ext.down {c0 c c' : C3} (e : Ext c0 c) (e2 : Ext ⟨c.F, c0.G, c0.H⟩ c') : Ext c0 c' :=
  ⟨e.fle.trans e2.fle, fun a h h' => by
    by_cases q : c.F a = none
    · exact e2.fnew a h q
    · exact e.fnew a q h', e2.keep, e2.gnew, e2.there⟩
theorem StaS.up {c0 c : C3} {σ : SS} {ρ : Env} {s : W.S} (a : StaS X.K W c0 c σ ρ s) : StaS X.K W ⟨c.F, c0.G, c0.H⟩ c σ ρ s := ⟨a.ext.up, a.st, a.own⟩
theorem StaS.down {c0 c c' : C3} {σ : SS} {ρ : Env} {s : W.S} (e : Ext c0 c) (a : StaS X.K W ⟨c.F, c0.G, c0.H⟩ c' σ ρ s) : StaS X.K W c0 c' σ ρ s := ⟨e.down a.ext, a.st, a.own⟩
/-! ### for -/
def mFor {W : Wd} (g : D → Env → Option Env) (b : MF W) : List D → MF W
  | [], ρ, s => some (.nx, ρ, s)
  | d :: ds, ρ, s => (g d ρ).bind fun ρ1 => (b ρ1 s).bind fun q => match q with
    | (.nx, ρ', s') => mFor g b ds ρ' s'
    | (.ct, ρ', s') => mFor g b ds ρ' s'
    | (.bk, ρ', s') => some (.nx, ρ', s')
    | (.rt d, ρ', s') => some (.rt d, ρ', s')
def mForS {W : Wd} (src : EF W (List D)) (g : D → Env → Option Env) (b : MF W) : MF W := fun ρ s => (src ρ s).bind fun r => mFor g b r.1 ρ r.2
theorem gs_for {tg iter : Expr} {body : List Stmt} {pos : Pos} {src : EF W (List D)} {g : D → Env → Option Env} {ws : List Nat} {b : MF W} (hp : PassesOwn (model X.prog X.w) X.A X.env X.xe) (hc : X.calm = true) (hi : GI X W tg iter src) (hg : GG X tg g ws) (hb : GSs X W body b)
    (hs : ∀ x, foldedSetIterable iter X.env x = pure x := by intro _; rfl) : GS X W (.For tg iter body [] pos) (mForS src g b) := by
  obtain ⟨wi, pi, qi⟩ := hi.run
  obtain ⟨tg', pg, qg⟩ := hg.run
  obtain ⟨tb, pb, qb⟩ := hb.run
  refine ⟨⟨_, ps_for hp hc pi pg pb hs, fun c0 c σ ρ s f ρ' s' E st hm k => ?_⟩⟩
  simp only [mForS, Option.bind_eq_some_iff] at hm
  obtain ⟨⟨ds, s1⟩, h1, h2⟩ := hm
  refine qi c σ ρ s ds s1 _ st.st h1 fun J c1 Gd Y e1 o1 w hG hY => ?_
  refine ⟨fun i m σ H => ∃ (c : C3) (ρ : Env) (s : W.S), c.H = H ∧ StaS X.K W c0 c σ ρ s ∧ Le c1.F c.F ∧ i ≤ ds.length ∧ m = ds.length - i ∧ mFor g b (ds.drop i) ρ s = some (f, ρ', s'), ⟨ds.length, c1, ρ, s1, rfl, st.step e1 o1, Le.refl _, Nat.zero_le _, by simp, by simpa using h2⟩, ?_⟩
  rintro i m σ _ ⟨c, ρ, s, rfl, st, le, hil, rfl, hm⟩
  by_cases hlt : i < ds.length
  · refine .inr ⟨w.goes i c.H hlt (hG c le st.st.ok.sub), fun σ' H' => ∃ (c : C3) (ρ : Env) (s : W.S), c.H = H' ∧ StaS X.K W c0 c σ' ρ s ∧ Le c1.F c.F ∧ mFor g b (ds.drop (i + 1)) ρ s = some (f, ρ', s'), fun σ' H' z => ?_, fun x H3 hy => ?_⟩
    · obtain ⟨c', ρ2, s2, z1, z2, z3, z4⟩ := z
      exact ⟨ds.length - (i + 1), by omega, c', ρ2, s2, z1, z2, z3, hlt, rfl, z4⟩
    · obtain ⟨c3, d, rfl, pe, hd, rd⟩ := hY i c x H3 le st.st.ok.sub (w.yields i c.H x H3 hlt (hG c le st.st.ok.sub) hy) hlt
      have st3 := st.step pe.ext (st.st.ok.pext pe)
      rw [List.drop_eq_getElem_cons hlt] at hm
      have hd' : ds[i] = d := by
        rw [List.getElem?_eq_getElem hlt] at hd
        exact Option.some.inj hd
      rw [hd'] at hm
      simp only [mFor, Option.bind_eq_some_iff] at hm
      obtain ⟨ρ1, h3, ⟨f2, ρ2, s2⟩, h4, h5⟩ := hm
      refine qg d ρ ρ1 W c0 c3 σ s x _ st3 rd h3 fun σ1 st4 _ _ => ?_
      -- frozen things stay
      refine qb _ c3 σ1 ρ1 s f2 ρ2 s2 _ st4.up h4 ?_
      have le3 := le.trans pe.fle
      cases f2 with
      | nx => exact fun c' σ' st' => ⟨c', ρ2, s2, rfl, .down st4.ext st', le3.trans st'.ext.fle, h5⟩
      | ct => exact fun c' σ' st' => ⟨c', ρ2, s2, rfl, .down st4.ext st', le3.trans st'.ext.fle, h5⟩
      | bk => cases h5; exact fun c' σ' st' => k c' σ' (.down st4.ext st')
      | rt d => cases h5; exact fun c' v e' o' r' => k c' v (st4.ext.down e') o' r'
  · have e : i = ds.length := by omega
    subst e
    rw [List.drop_length] at hm
    cases hm
    exact .inl ⟨w.stops c.H (hG c le st.st.ok.sub), k c σ st⟩
/-! ### comprehensions -/
def wipeE (ρ : Env) : List Nat → Env
  | [] => ρ
  | v :: vs => (wipeE ρ vs).set v .u
theorem wipeE_length (ρ : Env) : ∀ vs : List Nat, (wipeE ρ vs).length = ρ.length
  | [] => rfl
  | v :: vs => by unfold wipeE; rw [List.length_set, wipeE_length ρ vs]
theorem wipe_congr {σ σ2 : SS} {vs : List Nat} (hl : σ2.length = σ.length) (h : ∀ j, j ∉ vs → σ2[j]? = σ[j]?) : wipe σ2 vs = wipe σ vs := by
  apply List.ext_getElem?
  intro j
  by_cases hj : j ∈ vs
  · have key : ∀ (τ : SS), (wipe τ vs)[j]? = if j < τ.length then some none else none := fun τ => by
      clear h hl
      induction vs with
      | nil => cases hj
      | cons v vs ih =>
        unfold wipe
        by_cases e : v = j
        · subst e
          by_cases hl : v < τ.length
          · rw [List.getElem?_set_self (by rw [wipe_length]; exact hl), if_pos hl]
          · rw [if_neg hl]
            exact List.getElem?_eq_none_iff.mpr (by rw [List.length_set, wipe_length]; omega)
        · rw [List.getElem?_set_ne e]
          exact ih ((List.mem_cons.mp hj).resolve_left fun z => e z.symm)
    rw [key, key, hl]
  · rw [wipe_out hj, wipe_out hj, h j hj]
theorem Slots.wipe {K : PySem.W.Frag} {c : C3} {σ : SS} {ρ : Env} (s : Slots K c σ ρ) : ∀ vs : List Nat, Slots K c (L2.wipe σ vs) (wipeE ρ vs)
  | [] => s
  | v :: vs => by
    have ih := s.wipe vs
    have at_v : ∀ (sl : Sl), ((wipeE ρ vs).set v .u)[v]? = some sl → sl = .u := fun sl h => by
      have hj : v < (wipeE ρ vs).length := by
        have := (List.getElem?_eq_some_iff.mp h).1
        rwa [List.length_set] at this
      rw [List.getElem?_set_self hj] at h
      cases h; rfl
    refine ⟨by unfold L2.wipe wipeE; rw [List.length_set, List.length_set]; exact ih.len, fun j sl h => ?_, fun j k sj sk p hj hk ne oj ok h1 h2 => ?_⟩
    · unfold wipeE at h
      unfold L2.wipe
      by_cases e : v = j
      · subst e
        rw [at_v sl h]; trivial
      · rw [List.getElem?_set_ne e] at h ⊢
        exact ih.ok j sl h
    · unfold wipeE at hj hk
      unfold L2.wipe at h1 h2
      have n1 : v ≠ j := fun e => by subst e; rw [at_v sj hj] at oj; cases oj
      have n2 : v ≠ k := fun e => by subst e; rw [at_v sk hk] at ok; cases ok
      rw [List.getElem?_set_ne n1] at hj h1
      rw [List.getElem?_set_ne n2] at hk h2
      exact ih.dist j k sj sk p hj hk ne oj ok h1 h2
def nilH : Hp := fun _ => none
def c00 : C3 := ⟨nilH, nilH, nilH⟩
theorem Ext.ofNil (c : C3) : Ext c00 c where
  fle := fun _ _ h => nomatch (show (none : Option HO) = some _ from h)
  fnew := fun _ _ _ => rfl
  keep := fun _ _ h _ => nomatch (show (none : Option HO) = some _ from h)
  gnew := fun _ _ _ => rfl
  there := fun _ h => absurd rfl h
/-- the tests of a comprehension -/
structure GTs (X : Cx) (W : Wd) (ifs : List Expr) (f : EF W Bool) : Prop where
  run : ∃ t : TT, PTs X ifs t ∧ ∀ (c : C3) (σ : SS) (ρ : Env) (s : W.S) (b : Bool) (s' : W.S) (Q : Bool → Hp → Prop), Sta X.K W c σ ρ s → f ρ s = some (b, s') →
    (∀ c', Ext c c' → Okh W c' s' → Q b c'.H) → t σ c.H Q
def tYesE {W : Wd} : EF W Bool := fun _ s => some (true, s)
theorem gts_nil {Y : Cx} : GTs Y W [] tYesE := ⟨⟨_, pts_nil, fun c σ ρ s b s' Q st hf q => by cases hf; exact q c (Ext.refl c) st.ok⟩⟩
theorem gts_one {Y : Cx} {e : Expr} {f : EF W Bool} (h : GT Y W e f) : GTs Y W [e] f := by
  obtain ⟨t, p, q⟩ := h.run
  exact ⟨⟨_, pts_one p, q⟩⟩
def lcGo {W : Wd} (vs : List Nat) (g : D → Env → Option Env) (tt : EF W Bool) (te : EF W D) (ρ : Env) : List D → W.S → Option (List D × W.S)
  | [], s => some ([], s)
  | d :: ds, s => (g d (wipeE ρ vs)).bind fun ρ1 => (tt ρ1 s).bind fun r => if r.1 = true then (te ρ1 r.2).bind fun q => (lcGo vs g tt te ρ ds q.2).map fun z => (q.1 :: z.1, z.2) else lcGo vs g tt te ρ ds r.2
/-- the list of a comprehension -/
def lLc {W : Wd} (vs : List Nat) (src : EF W (List D)) (g : D → Env → Option Env) (tt : EF W Bool) (te : EF W D) : EF W (List D) := fun ρ s => (src ρ s).bind fun r => if r.1.length < sizeLine then lcGo vs g tt te ρ r.1 r.2 else none
def eLc {W : Wd} (vs : List Nat) (src : EF W (List D)) (g : D → Env → Option Env) (tt : EF W Bool) (te : EF W D) : EF W D := fun ρ s => (lLc vs src g tt te ρ s).map fun r => (.lst r.1, r.2)
abbrev InBlk (X : Cx) (scope : Scope) (P : Cx → Prop) : Prop := ∀ (s : Shared) (H : Hp) (C : Addr) (cl : List (Str × Addr)) (fp : List Addr), P (X.blk s H scope (compEnvC scope cl C X.env) fp)
/-- one reading for all the blocks -/
def cTE (K : PySem.W.Frag) (W : Wd) (f : EF W D) : TE := fun σ H Q => ∃ (c : C3) (ρ : Env) (s : W.S) (d : D) (s' : W.S), c.H = H ∧ Sta K W c σ ρ s ∧ f ρ s = some (d, s') ∧ ∀ v c', Ext c c' → Okh W c' s' → Rep K c'.F d v → Q v c'.H
def cTT (K : PySem.W.Frag) (W : Wd) (f : EF W Bool) : TT := fun σ H Q => ∃ (c : C3) (ρ : Env) (s : W.S) (b : Bool) (s' : W.S), c.H = H ∧ Sta K W c σ ρ s ∧ f ρ s = some (b, s') ∧ ∀ c', Ext c c' → Okh W c' s' → Q b c'.H
def cTG (K : PySem.W.Frag) (g : D → Env → Option Env) (ws : List Nat) : TG := fun v σ H Q => ∃ (W : Wd) (c0 c : C3) (ρ ρ' : Env) (s : W.S) (d : D), c.H = H ∧ StaS K W c0 c σ ρ s ∧ Rep K c.F d v ∧ g d ρ = some ρ' ∧
  ∀ σ', StaS K W c0 c σ' ρ' s → σ'.length = σ.length → (∀ j, j ∉ ws → σ'[j]? = σ[j]?) → Q σ' c.H
theorem GE.pe {Y : Cx} {e : Expr} {f : EF W D} (h : GE Y W e f) : PE Y e (cTE Y.K W f) := by
  obtain ⟨t, p, q⟩ := h.run
  refine ⟨fun pins s σ H Q I hw => p.run pins s σ H Q I ?_⟩
  obtain ⟨c, ρ, s1, d, s', rfl, st, hf, k⟩ := hw
  exact q c σ ρ s1 d s' Q st hf k
theorem GTs.pt {Y : Cx} {e : List Expr} {f : EF W Bool} (h : GTs Y W e f) : PTs Y e (cTT Y.K W f) := by
  obtain ⟨t, p, q⟩ := h.run
  refine ⟨fun pins s σ H Q I hw => p.run pins s σ H Q I ?_⟩
  obtain ⟨c, ρ, s1, d, s', rfl, st, hf, k⟩ := hw
  exact q c σ ρ s1 d s' Q st hf k
theorem GG.pg {Y : Cx} {e : Expr} {g : D → Env → Option Env} {ws : List Nat} (h : GG Y e g ws) : PG Y e (cTG Y.K g ws) := by
  obtain ⟨t, p, q⟩ := h.run
  refine ⟨fun pins s σ H v u Q I r hw => p.run pins s σ H v u Q I r ?_⟩
  obtain ⟨W, c0, c, ρ, ρ', s1, d, rfl, st, rd, hg, k⟩ := hw
  exact q d ρ ρ' W c0 c σ s1 v Q st rd hg k
theorem Ext.updNew {c1 c : C3} (e : Ext c1 c) {D : Addr} (hD : c1.H D = none) (o : HO) : Ext c1 ⟨c.F, c.G, upd c.H D o⟩ :=
  ⟨e.fle, e.fnew, fun a u h h' => by
    show upd c.H D o a = _
    rw [upd_ne (ne_of_none h hD)]; exact e.keep a u h h', e.gnew, fun a h => by
    show upd c.H D o a ≠ none
    by_cases q : a = D
    · subst q; exact absurd hD h
    · rw [upd_ne q]; exact e.there a h⟩
theorem Okh.updNew {c : C3} {s : W.S} (k : Okh W c s) {D : Addr} (hF : c.F D = none) (hG : c.G D = none) (o : HO) : Okh W ⟨c.F, c.G, upd c.H D o⟩ s :=
  ⟨fun x u h => by
    have ne : x ≠ D := ne_of_none h hF
    rcases k.sub x u h with z | ⟨kvs, ob, z1, z⟩
    · exact .inl (by show upd c.H D o x = _; rw [upd_ne ne]; exact z)
    · exact .inr ⟨kvs, ob, z1, by show upd c.H D o x = _; rw [upd_ne ne]; exact z⟩, fun x u h => by
    show upd c.H D o x = _
    rw [upd_ne (ne_of_none h hG)]; exact k.subG x u h, k.dis, k.inv⟩
/-- the reading of a comprehension: what holds of the new list at L -/
theorem lc_run {wi : TI} {vs : List Nat} {src : EF W (List D)} {g : D → Env → Option Env} {ws : List Nat} {tt : EF W Bool} {te : EF W D} {tg iter : Expr} (hw : ∀ i ∈ ws, i ∈ vs)
    (qi : ∀ (c : C3) (σ : SS) (ρ : Env) (s : W.S) (ds : List D) (s' : W.S) (R : It → Hp → Prop), Sta X.K W c σ ρ s → src ρ s = some (ds, s') →
    (∀ (J : It) (c' : C3) (Gd : Hp → Prop) (Y : Nat → Hp → V → Hp → Prop), Ext c c' → Okh W c' s' → Walk J ds.length Gd Y → (∀ c'' : C3, Le c'.F c''.F → Sub c''.F c''.H → Gd c''.H) →
      (∀ (i : Nat) (c'' : C3) (x : V) (H3 : Hp), Le c'.F c''.F → Sub c''.F c''.H → Y i c''.H x H3 → i < ds.length → ∃ c3 d, c3.H = H3 ∧ PExt c'' c3 ∧ ds[i]? = some d ∧ Rep X.K c3.F d x) → R J c'.H) → wi σ c.H R)
    (c : C3) (σ : SS) (ρ : Env) (s : W.S) (ds : List D) (s' : W.S) (Q : VK) (st : Sta X.K W c σ ρ s) (hf : lLc vs src g tt te ρ s = some (ds, s'))
    (k : ∀ (L : Addr) (xs : List V) (c' : C3), Ext c c' → Okh W c' s' → c'.H L = some (.lst xs) → c'.F L = none → c'.G L = none → c.H L = none → Reps X.K c'.F ds xs → Q (.ref L) c'.H) :
    tLc wi (cTG X.K g ws) (cTT X.K W tt) (cTE X.K W te) vs σ c.H Q := by
  simp only [lLc, Option.bind_eq_some_iff] at hf
  obtain ⟨⟨es, s1⟩, h1, h2⟩ := hf
  split at h2
  · rename_i hsz
    refine qi c σ ρ s es s1 _ st h1 fun J c1 Gd Y e1 o1 w hG hY => fun L hL => ?_
    have hF0 := o1.sub.free hL
    have hG0 : c1.G L = none := by
      cases q : c1.G L with
      | none => rfl
      | some u => rw [o1.subG L u q] at hL; cases hL
    have hcL : c.H L = none := by
      cases q : c.H L with
      | none => rfl
      | some u => exact absurd hL (e1.there L (by rw [q]; exact Option.some_ne_none _))
    refine ⟨fun i m H => ∃ (c' : C3) (s2 : W.S) (acc : List V) (da dr : List D), c'.H = H ∧ Ext c1 c' ∧ Okh W c' s2 ∧ c'.H L = some (.lst acc) ∧ c'.F L = none ∧ c'.G L = none ∧ Reps X.K c'.F da acc ∧ da.length ≤ i ∧ i ≤ es.length ∧ m = es.length - i ∧
      lcGo vs g tt te ρ (es.drop i) s2 = some (dr, s') ∧ ds = da ++ dr, ⟨es.length, ⟨c1.F, c1.G, upd c1.H L (.lst [])⟩, s1, [], [], ds, rfl, (Ext.refl c1).updNew hL _, o1.updNew hF0 hG0 _, upd_same, hF0, hG0, Reps.nil, Nat.le_refl _, Nat.zero_le _, by simp, by simpa using h2, rfl⟩, ?_⟩
    rintro i m _ ⟨c', s2, acc, da, dr, rfl, e2, o2, hLc, hF, hGc, ra, hda, hil, rfl, hm, rfl⟩
    by_cases hlt : i < es.length
    · refine .inr ⟨w.goes i c'.H hlt (hG c' e2.fle o2.sub), fun H' => ∃ (c2 : C3) (s3 : W.S) (acc : List V) (da' dr' : List D), c2.H = H' ∧ Ext c1 c2 ∧ Okh W c2 s3 ∧ c2.H L = some (.lst acc) ∧ c2.F L = none ∧ c2.G L = none ∧ Reps X.K c2.F da' acc ∧ da'.length ≤ i + 1 ∧
        lcGo vs g tt te ρ (es.drop (i + 1)) s3 = some (dr', s') ∧ da ++ dr = da' ++ dr', fun H' z => ?_, fun x H3 hy => ?_⟩
      · obtain ⟨c2, s3, acc', da', dr', z1, z2, z3, z4, z5, z6, z7, z8, z9, z10⟩ := z
        exact ⟨es.length - (i + 1), by omega, c2, s3, acc', da', dr', z1, z2, z3, z4, z5, z6, z7, z8, hlt, rfl, z9, z10⟩
      · obtain ⟨c3, d, rfl, pe, hd, rd⟩ := hY i c' x H3 e2.fle o2.sub (w.yields i c'.H x H3 hlt (hG c' e2.fle o2.sub) hy) hlt
        have o3 := o2.pext pe
        obtain ⟨hL3, hF3, hG3⟩ := pe.ext.ownOk hLc hF hGc
        have e3 := e2.trans pe.ext
        rw [List.drop_eq_getElem_cons hlt] at hm
        have hd' : es[i] = d := by
          rw [List.getElem?_eq_getElem hlt] at hd
          exact Option.some.inj hd
        rw [hd'] at hm
        simp only [lcGo, Option.bind_eq_some_iff] at hm
        obtain ⟨ρ1, h3, ⟨b1, s3⟩, h4, h5⟩ := hm
        have slw : Slots X.K c3 (L2.wipe σ vs) (wipeE ρ vs) := ((st.sl.ext e1).ext e3).wipe vs
        -- the block's own target; freshness of own slots is not asked here
        refine ⟨W, c00, c3, wipeE ρ vs, ρ1, s2, d, rfl, ⟨Ext.ofNil _, ⟨o3, slw⟩, fun _ _ _ _ _ _ => rfl⟩, rd, h3, fun σ2 st2 hl2 hj2 => ?_⟩
        have hwipe : L2.wipe σ2 vs = L2.wipe σ vs := by
          refine (wipe_congr (σ := L2.wipe σ vs) hl2 fun j hj => hj2 j fun z => hj (hw j z)).trans ?_
          exact wipe_congr (by rw [wipe_length]) fun j hj => wipe_out hj
        refine ⟨hwipe, c3, ρ1, s2, b1, s3, rfl, st2.st, h4, fun c4 e4 o4 => ?_⟩
        have sta4 := st2.st.step e4 o4
        obtain ⟨hL4, hF4, hG4⟩ := e4.ownOk hL3 hF3 hG3
        have e14 := e3.trans e4
        have ra4 := (ra.mono pe.fle).mono e4.fle
        cases b1 with
        | false =>
          refine iteF ?_
          have h6 : lcGo vs g tt te ρ (es.drop (i + 1)) s3 = some (dr, s') := by simpa using h5
          exact ⟨c4, s3, acc, da, dr, rfl, e14, o4, hL4, hF4, hG4, ra4, by omega, h6, rfl⟩
        | true =>
          refine iteT ?_
          have h6 : ((te ρ1 s3).bind fun q => (lcGo vs g tt te ρ (es.drop (i + 1)) q.2).map fun z => (q.1 :: z.1, z.2)) = some (dr, s') := by simpa using h5
          simp only [Option.bind_eq_some_iff, Option.map_eq_some_iff] at h6
          obtain ⟨⟨dv, s4⟩, h7, ⟨dr2, s5⟩, h8, e8⟩ := h6
          cases e8
          refine ⟨c4, ρ1, s3, dv, s4, rfl, sta4, h7, fun v c5 e5 o5 r5 => ?_⟩
          obtain ⟨hL5, hF5, hG5⟩ := e5.ownOk hL4 hF4 hG4
          refine ⟨acc, hL5, ?_, ⟨c5.F, c5.G, upd c5.H L (.lst (acc ++ [v]))⟩, s4, acc ++ [v], da ++ [dv], dr2, rfl, (e14.trans e5).updNew hL _, o5.updNew hF5 hG5 _, upd_same, hF5, hG5, (ra4.mono e5.fle).append (Reps.cons r5 Reps.nil), ?_, h8, by simp⟩
          · have hra := ra.length
            have hsz' : es.length < sizeLine := hsz
            omega
          · rw [List.length_append, List.length_singleton]; omega
    · have e : i = es.length := by omega
      subst e
      rw [List.drop_length] at hm
      cases hm
      refine .inl ⟨w.stops c'.H (hG c' e2.fle o2.sub), ?_⟩
      exact k L acc c' (e1.trans e2) o2 hLc hF hGc hcL (by simpa using ra)
  · cases h2
theorem ge_lc {elt tg iter : Expr} {ifs : List Expr} {scope : Scope} {own : List (Str × Nat)} {pos : Pos} {src : EF W (List D)} {g : D → Env → Option Env} {ws : List Nat} {tt : EF W Bool} {te : EF W D} (hc : X.calm = true) (hN : X.N.Nodup) (hi : GI X W tg iter src) (ok : BlkOk X.N X.env.scope scope own)
    (hg : InBlk X scope fun Y => GG Y tg g ws) (ht : InBlk X scope fun Y => GTs Y W ifs tt) (he : InBlk X scope fun Y => GE Y W elt te) (hw : ∀ i ∈ ws, i ∈ own.map (·.2) := by decide) (hs : ∀ x, foldedSetIterable iter X.env x = pure x := by intro _; rfl) :
    GE X W (.ListComp elt [⟨tg, iter, ifs, 0⟩] scope pos) (eLc (own.map (·.2)) src g tt te) := by
  obtain ⟨wi, pi, qi⟩ := hi.run
  refine ⟨⟨_, pe_lc (te := cTE X.K W te) (tt := cTT X.K W tt) (g := cTG X.K g ws) hc hN pi ok (fun s H C cl fp => (hg s H C cl fp).pg) (fun s H C cl fp => (ht s H C cl fp).pt) (fun s H C cl fp => (he s H C cl fp).pe) hs, fun c σ ρ s d s' Q st hf q => ?_⟩⟩
  simp only [eLc, Option.map_eq_some_iff] at hf
  obtain ⟨⟨ds, s1⟩, h1, e⟩ := hf
  cases e
  refine lc_run (tg := tg) (iter := iter) hw qi c σ ρ s ds _ Q st h1 fun L xs c' e1 o1 hL hF hG h0 r => ?_
  obtain ⟨o2, hle⟩ := frz_step o1 hL hF hG
  refine q (.ref L) ⟨upd c'.F L (.lst xs), c'.G, c'.H⟩ ⟨e1.fle.trans hle, fun a h h' => ?_, e1.keep, e1.gnew, e1.there⟩ o2 (Rep.lst_iff.mpr ⟨L, xs, rfl, upd_same, r.mono hle⟩)
  by_cases e : a = L
  · subst e; exact h0
  · have h2 : upd c'.F L (.lst xs) a ≠ none := h
    rw [upd_ne e] at h2
    exact e1.fnew a h2 h'
/-- name = [..], the list handed on -/
theorem gs_setLc {i : Nat} {y : Str} {py : Pos} {elt tg iter : Expr} {ifs : List Expr} {scope : Scope} {own : List (Str × Nat)} {pos spos : Pos} {src : EF W (List D)} {g : D → Env → Option Env} {ws : List Nat} {tt : EF W Bool} {te : EF W D} (hc : X.calm = true) (hN : X.N.Nodup) (hy : X.N[i]? = some y) (hyl : X.env.scope.names.lookup y = some .local)
    (hsw : swapsWith (.ListComp elt [⟨tg, iter, ifs, 0⟩] scope pos) (some (.Name y py)) spos.line X.env = pure true) (hi : GI X W tg iter src) (ok : BlkOk X.N X.env.scope scope own)
    (hg : InBlk X scope fun Y => GG Y tg g ws) (ht : InBlk X scope fun Y => GTs Y W ifs tt) (he : InBlk X scope fun Y => GE Y W elt te) (hw : ∀ i ∈ ws, i ∈ own.map (·.2) := by decide) (hs : ∀ x, foldedSetIterable iter X.env x = pure x := by intro _; rfl) :
    GS X W (.Assign [.Name y py] (.ListComp elt [⟨tg, iter, ifs, 0⟩] scope pos) spos) (mSet i (eLc (own.map (·.2)) src g tt te)) := by
  obtain ⟨wi, pi, qi⟩ := hi.run
  refine ⟨⟨_, ps_setLc (te := cTE X.K W te) (tt := cTT X.K W tt) (g := cTG X.K g ws) hc hN hy hyl hsw pi ok (fun s H C cl fp => (hg s H C cl fp).pg) (fun s H C cl fp => (ht s H C cl fp).pt) (fun s H C cl fp => (he s H C cl fp).pe) hs, fun c0 c σ ρ s fl ρ' s' E st hm q => ?_⟩⟩
  simp only [mSet, eLc, Option.map_eq_some_iff] at hm
  obtain ⟨⟨d, s1⟩, ⟨⟨ds, s2⟩, h1, e1⟩, e⟩ := hm
  cases e1; cases e
  refine lc_run (tg := tg) (iter := iter) hw qi c σ ρ s ds _ _ st.st h1 fun L xs c' e1 o1 hL hF hG h0 r => ?_
  obtain ⟨o2, hle⟩ := frz_step o1 hL hF hG
  have e2 : Ext c ⟨upd c'.F L (.lst xs), c'.G, c'.H⟩ := ⟨e1.fle.trans hle, fun a h h' => by
    by_cases e : a = L
    · subst e; exact h0
    · have h2 : upd c'.F L (.lst xs) a ≠ none := h
      rw [upd_ne e] at h2
      exact e1.fnew a h2 h', e1.keep, e1.gnew, e1.there⟩
  exact q ⟨upd c'.F L (.lst xs), c'.G, c'.H⟩ _ ((st.step e2 o2).put i (Rep.lst_iff.mpr ⟨L, xs, rfl, upd_same, r.mono hle⟩))
end
/-! ### a def's body -/
abbrev W0 : Wd := ⟨Unit, fun _ _ G => ∀ a, G a = none, fun _ _ _ _ _ h => h⟩
def startE (N : Nat) (ds : List D) : Env := ds.map Sl.v ++ List.replicate (N - ds.length) .u
def resD {S : Type} (r : Option (Fl × Env × S)) : Option (D × S) := r.bind fun q => match q with
  | (.rt d, _, s) => some (d, s)
  | (.nx, _, s) => some (.non, s)
  | _ => none
def runP (N : Nat) (m : MF W0) : List D → Option D := fun ds => (resD (m (startE N ds) ())).map (·.1)
def runW {W : Wd} (N : Nat) (m : MF W) : List D → W.S → Option (D × W.S) := fun ds s => resD (m (startE N ds) s)
theorem slots_start {K : PySem.W.Frag} {c : C3} {N : List Str} {ds : List D} {vs : List V} (r : Reps K c.F ds vs) : Slots K c (L2.start N vs) (startE N.length ds) := by
  have hl := r.length
  have noown : ∀ (j : Nat) (sj : Sl), (startE N.length ds)[j]? = some sj → sj.own = true → False := fun j sj h o => by
    unfold startE at h
    by_cases hj : j < ds.length
    · rw [List.getElem?_append_left (by simpa using hj), List.getElem?_map, List.getElem?_eq_getElem hj] at h
      cases h; cases o
    · rw [List.getElem?_append_right (by simpa using hj), List.getElem?_replicate] at h
      split at h
      · cases h; cases o
      · cases h
  refine ⟨by simp [L2.start, startE, hl], fun i sl h => ?_, fun i j si sj p h _ _ o _ _ _ => noown i si h o⟩
  unfold startE at h
  unfold L2.start
  by_cases hi : i < ds.length
  · rw [List.getElem?_append_left (by simpa using hi), List.getElem?_map, List.getElem?_eq_getElem hi] at h
    cases h
    obtain ⟨x, hx, rx⟩ := r.get (List.getElem?_eq_getElem hi)
    exact ⟨x, by rw [List.getElem?_append_left (by simpa [hl] using hi), List.getElem?_map, hx]; rfl, rx⟩
  · rw [List.getElem?_append_right (by simpa using hi), List.getElem?_replicate] at h
    split at h
    · cases h; trivial
    · cases h
theorem start_own {N : Nat} {ds : List D} {j : Nat} {sj : Sl} (h : (startE N ds)[j]? = some sj) (o : sj.own = true) : False := by
  unfold startE at h
  by_cases hj : j < ds.length
  · rw [List.getElem?_append_left (by simpa using hj), List.getElem?_map, List.getElem?_eq_getElem hj] at h
    cases h; cases o
  · rw [List.getElem?_append_right (by simpa using hj), List.getElem?_replicate] at h
    split at h
    · cases h; cases o
    · cases h
section
variable {P : Program} {w : World} {K : PySem.W.Frag} {mg : Str → Option Value} {base : Heap} {x qual : Str} {params : Arguments} {body : List Stmt} {scope : Scope} {dvs : List V} {kws : List (Str × V)} {f : Addr} {fd : FuncData} {N ps : List Str} {k : Nat}
/-- a def that changes nothing keeps its function -/
theorem fn_okP {m : MF W0} (n : Nat) (F : FunD K x qual params body scope dvs kws f fd) (S : FnScope N ps scope) (hn : ps.length = n)
    (hb : ∀ (cdv : Value) (A : Around) (outer : List PySem.Env) (s : Shared) (H : Hp) (E : XK), Room k (A.deeper (envOfC qual scope s.heap.objs.size f cdv)) → GSs (cxOf CX0 P w K mg base N qual scope f cdv A outer s H E).nox W0 body m) :
    FnOk P w K mg base CX0 (k + 1) f fd ps (spP K n (runP N.length m)) := by
  refine F.ok S (fun vs H Q E h => by rw [hn]; exact h.1) fun cdv A outer s H vs Q E hr h => ?_
  obtain ⟨hl, c, ds, d, rfl, sb, r, hf, q⟩ := h
  obtain ⟨t, pt, qt⟩ := (hb cdv A outer s c.H E hr).run
  refine ⟨t, pt.nox, ?_⟩
  simp only [runP, resD, Option.map_eq_some_iff, Option.bind_eq_some_iff] at hf
  obtain ⟨⟨d1, s1⟩, ⟨⟨fl, ρ', s2⟩, h1, h2⟩, e⟩ := hf
  have e' : d1 = d := e
  subst e'
  let c0 : C3 := ⟨c.F, nilH, c.H⟩
  have o0 : Okh W0 c0 () := {
    sub := sb
    subG := fun a u h => by
      have h2 : (none : Option HO) = some u := h
      cases h2
    dis := fun a h => absurd (show nilH a = none from rfl) h
    inv := fun _ => rfl }
  have st : StaS K W0 c0 c0 (L2.start N vs) (startE N.length ds) () := ⟨Ext.refl _, ⟨o0, slots_start (c := c0) r⟩, fun j sj p h o _ => (start_own h o).elim⟩
  have fin : ∀ (c' : C3) (v : V), Ext c0 c' → Okh W0 c' s2 → Rep K c'.F d1 v → Q v c'.H := fun c' v e o rv => by
    refine q v ⟨c'.F, c.G, c'.H⟩ ⟨rfl, e.fle, e.fnew, fun a u h => e.keep a u h rfl, fun _ => o.sub⟩ rv
  refine qt c0 c0 (L2.start N vs) (startE N.length ds) () fl ρ' s2 _ st h1 ?_
  cases fl with
  | nx => cases h2; exact fun c' σ' st' => fin c' .non st'.ext st'.st.ok (Rep.non_iff.mpr rfl)
  | rt d2 => cases h2; exact fin
  | bk => cases h2
  | ct => cases h2
theorem fn_okW {W : Wd} {m : MF W} (n : Nat) (F : FunD K x qual params body scope dvs kws f fd) (S : FnScope N ps scope) (hn : ps.length = n)
    (hb : ∀ (cdv : Value) (A : Around) (outer : List PySem.Env) (s : Shared) (H : Hp) (E : XK), Room k (A.deeper (envOfC qual scope s.heap.objs.size f cdv)) → GSs (cxOf CX0 P w K mg base N qual scope f cdv A outer s H E).nox W body m) :
    FnOk P w K mg base CX0 (k + 1) f fd ps (spW K W n (runW N.length m)) := by
  refine F.ok S (fun vs H Q E h => by rw [hn]; exact h.1) fun cdv A outer s H vs Q E hr h => ?_
  obtain ⟨hl, c, ds, s0, d, s', rfl, o, r, hf, q⟩ := h
  obtain ⟨t, pt, qt⟩ := (hb cdv A outer s c.H E hr).run
  refine ⟨t, pt.nox, ?_⟩
  simp only [runW, resD, Option.bind_eq_some_iff] at hf
  obtain ⟨⟨fl, ρ', s2⟩, h1, h2⟩ := hf
  have st : StaS K W c c (L2.start N vs) (startE N.length ds) s0 := ⟨Ext.refl _, ⟨o, slots_start r⟩, fun j sj p h o _ => (start_own h o).elim⟩
  refine qt c c (L2.start N vs) (startE N.length ds) s0 fl ρ' s2 _ st h1 ?_
  cases fl with
  | nx => cases h2; exact fun c' σ' st' => q .non c' st'.ext st'.st.ok (Rep.non_iff.mpr rfl)
  | rt d2 => cases h2; exact fun c' v e o rv => q v c' e o rv
  | bk => cases h2
  | ct => cases h2
end
end MP
/-! MpG: dict displays, the draws' world, the law's def and its end. -/
namespace MP
open PySem PySem.Spec PyProof.Rows L2
section
variable {X : Cx} {W : Wd}
/-! ### dict displays with written keys -/
structure GPs (X : Cx) (W : Wd) (pos : Pos) (keys : List (Option Expr)) (values : List Expr) (ks : List Key) (f : EF W (List D)) : Prop where
  run : ∃ trs, PPs X pos keys values trs ∧ ∀ (c : C3) (σ : SS) (ρ : Env) (s : W.S) (ds : List D) (s' : W.S) (Q : List (V × V) → Hp → Prop), Sta X.K W c σ ρ s → f ρ s = some (ds, s') →
    (∀ vs c', Ext c c' → Okh W c' s' → Reps X.K c'.F ds vs → vs.length = ks.length → Q ((ks.zip vs).map fun p => (kV p.1, p.2)) c'.H) → tPairs trs σ c.H Q
theorem gps_nil {pos : Pos} : GPs X W pos [] [] [] aNil := ⟨⟨[], pps_nil, fun c σ ρ s ds s' Q st hf k => by cases hf; exact k [] c (Ext.refl c) st.ok Reps.nil rfl⟩⟩
theorem gps_cons {pos : Pos} {k v : Expr} {kk : Key} {keys : List (Option Expr)} {values : List Expr} {ks : List Key} {f : EF W D} {g : EF W (List D)} (hk : PE X k (tC (kV kk))) (hv : GE X W v f) (hr : GPs X W pos keys values ks g) : GPs X W pos (some k :: keys) (v :: values) (kk :: ks) (aCons f g) := by
  obtain ⟨t, p, q⟩ := hv.run
  obtain ⟨trs, p2, q2⟩ := hr.run
  refine ⟨⟨_, pps_cons hk p p2, fun c σ ρ s ds s' Q st hf k => ?_⟩⟩
  simp only [aCons, Option.bind_eq_some_iff, Option.map_eq_some_iff] at hf
  obtain ⟨⟨d, s1⟩, h1, ⟨dr, s2⟩, h2, e⟩ := hf
  cases e
  refine q c σ ρ s d s1 _ st h1 fun x c1 e1 o1 r1 => ?_
  refine q2 c1 σ ρ s1 dr _ _ (st.step e1 o1) h2 fun xs c2 e2 o2 r2 hl => ?_
  exact k (x :: xs) c2 (e1.trans e2) o2 (Reps.cons (r1.mono e2.fle) r2) (by simp [hl])
def oDisp {W : Wd} (ks : List Key) (f : EF W (List D)) : EF W Sl := fun ρ s => (f ρ s).map fun r => (.od ks r.1, r.2)
theorem merge_self : ∀ (more kvs : List (Key × V)), (∀ p ∈ more, valV kvs p.1 = none) → (more.map (·.1)).Nodup → mergeK kvs more = kvs ++ more
  | [], kvs, _, _ => by simp [mergeK]
  | p :: r, kvs, h, nd => by
    rw [List.map_cons, List.nodup_cons] at nd
    show mergeK (putK kvs p.1 p.2) r = _
    rw [putK_new p.2 (h p List.mem_cons_self), merge_self r _ ?_ nd.2]
    · simp
    · intro q hq
      rw [valV_snoc _ _ _ kvs (h p List.mem_cons_self), if_neg ?_]
      · exact h q (List.mem_cons_of_mem _ hq)
      · intro e
        exact nd.1 (by rw [← e]; exact List.mem_map_of_mem hq)
theorem ge2_disp {pos : Pos} {keys : List (Option Expr)} {values : List Expr} {ks : List Key} {f : EF W (List D)} (h : GPs X W pos keys values ks f) (nd : ks.Nodup) (hall : keys.all (·.isSome) = true := by rfl) (hl : keys.length = values.length := by rfl) (h0 : keys ≠ [] := by intro z; cases z) (h15 : keys.length ≤ 15 := by decide) (hk : ks.length ≤ 15 := by decide) :
    GE2 X W (.Dict keys values pos) (oDisp ks f) := by
  obtain ⟨trs, p, q⟩ := h.run
  refine ⟨⟨_, pe_disp p hall hl h0 h15, fun c σ ρ s sl s' Q st hf k => ?_⟩⟩
  simp only [oDisp, Option.map_eq_some_iff] at hf
  obtain ⟨⟨ds, s1⟩, h1, e⟩ := hf
  cases e
  intro L hL
  have hF := st.ok.sub.free hL
  have hG : c.G L = none := by
    cases q : c.G L with
    | none => rfl
    | some u => rw [st.ok.subG L u q] at hL; cases hL
  obtain ⟨o1, e1⟩ := st.ok.allocO (HO.dK []) hL
  refine q ⟨c.F, c.G, upd c.H L (.dK [])⟩ σ ρ s ds _ _ (st.step e1 o1) h1 fun vs c2 e2 o2 r2 hlen => ?_
  obtain ⟨hL2, hF2, hG2⟩ := e2.ownOk (p := L) (o := .dK []) upd_same hF hG
  refine ⟨hL2, ks.zip vs, rfl, ?_, ?_⟩
  · rw [List.length_zip]; omega
  have em : mergeK [] (ks.zip vs) = ks.zip vs := by
    rw [merge_self (ks.zip vs) [] (fun _ _ => rfl) ?_]
    · rfl
    · rw [List.map_fst_zip (by omega)]; exact nd
  rw [em]
  refine k (.ref L) ⟨c2.F, c2.G, upd c2.H L (.dK (ks.zip vs))⟩ (((PExt.refl c).ext.updNew hL (.dK [])).trans e2 |> fun e => ?_) (o2.updNew hF2 hG2 _) ⟨L, _, rfl, upd_same, List.map_fst_zip (by omega), ?_, hF2, hG2⟩ fun p _ e => ?_
  · exact (Ext.trans (Ext.refl c) ((Ext.trans e1 e2).updNew hL _))
  · rw [List.map_snd_zip (by omega)]; exact r2
  · cases e; exact hL
end
/-! ### the draws -/
structure DrawS where
  whole : Int
  cells : List Int
  count : Int
def kWhole : Key := .inr "whole"
def kCells : Key := .inr "cells"
def kCount : Key := .inr "count"
def drawK (s : DrawS) (c : Addr) : List (Key × V) := [(kWhole, .int s.whole), (kCells, .ref c), (kCount, .int s.count)]
abbrev WD (a : Addr) : Wd := ⟨DrawS, fun s F G => (∀ b, b ≠ a → G b = none) ∧ ∃ c, G a = some (.dK (drawK s c)) ∧ F c = some (.lst (s.cells.map V.int)), fun _ _ _ _ h ⟨g, c, h1, h2⟩ => ⟨g, c, h1, h _ _ h2⟩⟩
section
variable {X : Cx} {a : Addr}
/-- the draws' dict stands in the i-th slot -/
def isDraw (a : Addr) (i : Nat) (ρ : Env) : Bool := match ρ[i]? with
  | some (.v (.obj b)) => decide (b = a)
  | _ => false
theorem isDraw_at {K : PySem.W.Frag} {c : C3} {σ : SS} {ρ : Env} {i : Nat} (s : Slots K c σ ρ) (h : isDraw a i ρ = true) : σ[i]? = some (some (.ref a)) := by
  unfold isDraw at h
  split at h
  · rename_i b e
    obtain ⟨x, h1, r⟩ := s.ok i _ e
    rw [h1, Rep.obj_iff.mp r, of_decide_eq_true h]
  · cases h
def eDrw (a : Addr) (i : Nat) (g : DrawS → D) : EF (WD a) D := fun ρ s => if isDraw a i ρ = true then some (g s, s) else none
theorem drw_run {i : Nat} {o k : Expr} {pos : Pos} {kk : Key} {g : DrawS → D} (hu : X.A.units + 1 < cLine) (ho : PE X o (tVar i)) (hk : PE X k (tC (kV kk))) (hs : NoSl k)
    (hg : ∀ (s : DrawS) (c : Addr) (K : PySem.W.Frag) (F : Hp), F c = some (.lst (s.cells.map V.int)) → ∃ v, valV (drawK s c) kk = some v ∧ Rep K F (g s) v) : GE X (WD a) (.Subscript o k pos) (eDrw a i g) := by
  refine ⟨⟨_, pe_dget hu ho hk hs, fun c σ ρ s d s' Q st hf q => ?_⟩⟩
  unfold eDrw at hf
  split at hf
  · rename_i hi
    cases hf
    obtain ⟨g0, cc, h1, h2⟩ := st.ok.inv
    obtain ⟨v, h3, h4⟩ := hg s cc X.K c.F h2
    refine ⟨.ref a, isDraw_at st.sl hi, a, v, rfl, ?_, q v c (Ext.refl c) st.ok h4⟩
    rw [← h3]
    exact dget_of (.inl (st.ok.subG _ _ h1))
  · cases hf
theorem ge_drwW {i : Nat} {o : Expr} {j : Nat} {p2 pos : Pos} (hu : X.A.units + 1 < cLine) (ho : PE X o (tVar i)) : GE X (WD a) (.Subscript o (.Constant (.str "whole") j p2) pos) (eDrw a i fun s => .int s.whole) :=
  drw_run (kk := kWhole) hu ho pe_str (fun _ _ => rfl) fun s c K F _ => ⟨.int s.whole, by simp [drawK, valV], Rep.int_iff.mpr rfl⟩
theorem ge_drwC {i : Nat} {o : Expr} {j : Nat} {p2 pos : Pos} (hu : X.A.units + 1 < cLine) (ho : PE X o (tVar i)) : GE X (WD a) (.Subscript o (.Constant (.str "count") j p2) pos) (eDrw a i fun s => .int s.count) :=
  drw_run (kk := kCount) hu ho pe_str (fun _ _ => rfl) fun s c K F _ => ⟨.int s.count, by
    have e1 : ¬ kWhole = kCount := by unfold kWhole kCount; intro e; exact absurd (Sum.inr.inj e) (by decide +kernel)
    have e2 : ¬ kCells = kCount := by unfold kCells kCount; intro e; exact absurd (Sum.inr.inj e) (by decide +kernel)
    simp [drawK, valV, e1, e2], Rep.int_iff.mpr rfl⟩
theorem ge_drwL {i : Nat} {o : Expr} {j : Nat} {p2 pos : Pos} (hu : X.A.units + 1 < cLine) (ho : PE X o (tVar i)) : GE X (WD a) (.Subscript o (.Constant (.str "cells") j p2) pos) (eDrw a i fun s => .lst (s.cells.map D.int)) :=
  drw_run (kk := kCells) hu ho pe_str (fun _ _ => rfl) fun s c K F h => ⟨.ref c, by
    have e1 : ¬ kWhole = kCells := by unfold kWhole kCells; intro e; exact absurd (Sum.inr.inj e) (by decide +kernel)
    simp [drawK, valV, e1], Rep.lst_iff.mpr ⟨c, _, rfl, h, Reps.ints.mpr rfl⟩⟩
/-- draw[k] = e -/
def mDrw (a : Addr) (i : Nat) (u : DrawS → Int → DrawS) (f : EF (WD a) D) : MF (WD a) := fun ρ s => (f ρ s).bind fun r => match r.1 with
  | .int z => if isDraw a i ρ = true then some (.nx, ρ, u r.2 z) else none
  | _ => none
theorem drws_run {i : Nat} {o k value : Expr} {pos pos' : Pos} {kk : Key} {u : DrawS → Int → DrawS} {f : EF (WD a) D} (hu : X.A.units + 1 < cLine) (ho : PE X o (tVar i)) (hk : PE X k (tC (kV kk))) (hv : GE X (WD a) value f)
    (hs : swapsWith value (some (.Subscript o k pos')) pos.line X.env = pure false) (hput : ∀ (s : DrawS) (c : Addr) (z : Int), putK (drawK s c) kk (.int z) = drawK (u s z) c ∧ (u s z).cells = s.cells) : GS X (WD a) (.Assign [.Subscript o k pos'] value pos) (mDrw a i u f) := by
  obtain ⟨tv, pv', qv⟩ := hv.run
  refine ⟨⟨_, ps_dput hu ho hk pv' hs, fun c0 c σ ρ s fl ρ' s' E st hm q => ?_⟩⟩
  simp only [mDrw, Option.bind_eq_some_iff] at hm
  obtain ⟨⟨d, s1⟩, h1, h2⟩ := hm
  cases d <;> simp at h2
  rename_i z
  obtain ⟨hi, rfl, rfl, rfl⟩ := h2
  refine qv c σ ρ s _ s1 _ st.st h1 fun v c1 e1 o1 r1 => ?_
  have st1 := st.step e1 o1
  obtain ⟨g0, cc, h3, h4⟩ := o1.inv
  have hH := o1.subG _ _ h3
  have hca : cc ≠ a := fun e => by
    have := o1.dis a (by rw [h3]; exact Option.some_ne_none _)
    rw [← e, h4] at this; cases this
  obtain ⟨p1, p2⟩ := hput s1 cc z
  refine ⟨.ref a, isDraw_at st.st.sl hi, a, _, rfl, by rw [Rep.int_iff.mp r1]; exact DPut.k hH (by show 3 < sizeLine; decide), ?_⟩
  rw [p1]
  have hfree : c1.F a = none := o1.dis a (by rw [h3]; exact Option.some_ne_none _)
  refine q ⟨c1.F, upd c1.G a (.dK (drawK (u s1 z) cc)), upd c1.H a (.dK (drawK (u s1 z) cc))⟩ σ ⟨⟨st1.ext.fle, st1.ext.fnew, fun x o h h' => ?_, fun x h h' => ?_, fun x h => ?_⟩, ⟨⟨fun x o h => ?_, fun x o h => ?_, fun x h => ?_, ⟨fun b hb => ?_, cc, upd_same, ?_⟩⟩, ⟨st1.st.sl.len, fun j sl h => ?_, st1.st.sl.dist⟩⟩, st1.own⟩
  · have ne : x ≠ a := fun e => by
      subst e
      have := st1.ext.gnew x (by rw [h3]; exact Option.some_ne_none _) h'
      rw [h] at this; cases this
    show upd c1.H a _ x = _
    rw [upd_ne ne]; exact st1.ext.keep x o h h'
  · by_cases e : x = a
    · subst e; exact st1.ext.gnew x (by rw [h3]; exact Option.some_ne_none _) h'
    · have h2 : upd c1.G a (.dK (drawK (u s1 z) cc)) x ≠ none := h
      rw [upd_ne e] at h2
      exact st1.ext.gnew x h2 h'
  · show upd c1.H a _ x ≠ none
    by_cases e : x = a
    · subst e; rw [upd_same]; exact Option.some_ne_none _
    · rw [upd_ne e]; exact st1.ext.there x h
  · have ne : x ≠ a := ne_of_none h hfree
    rcases o1.sub x o h with z' | ⟨kvs, ob, z1, z'⟩
    · exact .inl (by show upd c1.H a _ x = _; rw [upd_ne ne]; exact z')
    · exact .inr ⟨kvs, ob, z1, by show upd c1.H a _ x = _; rw [upd_ne ne]; exact z'⟩
  · by_cases e : x = a
    · subst e
      have h2 : upd c1.G x (.dK (drawK (u s1 z) cc)) x = some o := h
      rw [upd_same] at h2; cases h2
      exact upd_same
    · have h2 : upd c1.G a (.dK (drawK (u s1 z) cc)) x = some o := h
      rw [upd_ne e] at h2
      show upd c1.H a _ x = _
      rw [upd_ne e]; exact o1.subG x o h2
  · by_cases e : x = a
    · subst e; exact hfree
    · have h2 : upd c1.G a (.dK (drawK (u s1 z) cc)) x ≠ none := h
      rw [upd_ne e] at h2
      exact o1.dis x h2
  · show upd c1.G a _ b = none
    rw [upd_ne hb]; exact g0 b hb
  · show c1.F cc = some (.lst ((u s1 z).cells.map V.int))
    rw [p2]; exact h4
  · have q := st1.st.sl.ok j sl h
    have gn : ∀ p, c1.G p = none → p ≠ a := fun p hp e => by subst e; rw [h3] at hp; cases hp
    cases sl with
    | u => trivial
    | v d' => exact q
    | ol ds => obtain ⟨p', xs, h1, h2, h3, h4, h5⟩ := q; exact ⟨p', xs, h1, (upd_ne (gn p' h5)).trans h2, h3, h4, (upd_ne (gn p' h5)).trans h5⟩
    | od ks ds => obtain ⟨p', xs, h1, h2, hk, h3, h4, h5⟩ := q; exact ⟨p', xs, h1, (upd_ne (gn p' h5)).trans h2, hk, h3, h4, (upd_ne (gn p' h5)).trans h5⟩
    | lk ks ds => obtain ⟨p', xs, ob, h1, h2, hk, h3, h4, h5⟩ := q; exact ⟨p', xs, ob, h1, (upd_ne (gn p' h5)).trans h2, hk, h3, h4, (upd_ne (gn p' h5)).trans h5⟩
theorem gs_drwW {i : Nat} {o value : Expr} {j : Nat} {p2 pos pos' : Pos} {f : EF (WD a) D} (hu : X.A.units + 1 < cLine) (ho : PE X o (tVar i)) (hv : GE X (WD a) value f) (hs : swapsWith value (some (.Subscript o (.Constant (.str "whole") j p2) pos')) pos.line X.env = pure false := by rfl) :
    GS X (WD a) (.Assign [.Subscript o (.Constant (.str "whole") j p2) pos'] value pos) (mDrw a i (fun s z => { s with whole := z }) f) :=
  drws_run (kk := kWhole) hu ho pe_str hv hs fun s c z => ⟨by
    have e1 : ¬ kCells = kWhole := by unfold kWhole kCells; intro e; exact absurd (Sum.inr.inj e) (by decide +kernel)
    have e2 : ¬ kCount = kWhole := by unfold kWhole kCount; intro e; exact absurd (Sum.inr.inj e) (by decide +kernel)
    simp [putK, drawK, e1, e2], rfl⟩
theorem gs_drwC {i : Nat} {o value : Expr} {j : Nat} {p2 pos pos' : Pos} {f : EF (WD a) D} (hu : X.A.units + 1 < cLine) (ho : PE X o (tVar i)) (hv : GE X (WD a) value f) (hs : swapsWith value (some (.Subscript o (.Constant (.str "count") j p2) pos')) pos.line X.env = pure false := by rfl) :
    GS X (WD a) (.Assign [.Subscript o (.Constant (.str "count") j p2) pos'] value pos) (mDrw a i (fun s z => { s with count := z }) f) :=
  drws_run (kk := kCount) hu ho pe_str hv hs fun s c z => ⟨by
    have e1 : ¬ kCells = kCount := by unfold kCount kCells; intro e; exact absurd (Sum.inr.inj e) (by decide +kernel)
    have e2 : ¬ kWhole = kCount := by unfold kWhole kCount; intro e; exact absurd (Sum.inr.inj e) (by decide +kernel)
    simp [putK, drawK, e1, e2], rfl⟩
end
/-! ### the def that begins the draws: a new dict is handed back -/
/-- from a list of ints at a: the draws' dict, new -/
def spB (K : PySem.W.Frag) (fn : List Int → Option DrawS) : Sp := fun vs H Q _ => vs.length = 1 ∧ ∃ (a : Addr) (ns : List Int) (s : DrawS), vs = [.ref a] ∧ SqL K H a (ns.map V.int) ∧ fn ns = some s ∧
  ∀ (p c : Addr) (H' : Hp), Same H H' → H p = none → H' p = some (.dK (drawK s c)) → H' c = some (.lst (s.cells.map V.int)) → c ≠ p → Q (.ref p) H'
/-- all that is tracked, as frozen -/
theorem sub_all (H : Hp) : Sub H H := fun a u h => .inl h
section
variable {P : Program} {w : World} {K : PySem.W.Frag} {mg : Str → Option Value} {base : Heap} {x qual : Str} {params : Arguments} {scope : Scope} {f : Addr} {fd : FuncData} {N : List Str} {k : Nat} {kws : List (Str × V)}
def drawOf : Sl → Option DrawS
  | .od ks [.int wh, .lst cs, .int n] => if ks = [kWhole, kCells, kCount] then (intsOf cs).map fun ns => ⟨wh, ns, n⟩ else none
  | _ => none
end
/-- a body that hands back own data -/
structure GB (X : Cx) (body : List Stmt) (g : Env → Option Sl) : Prop where
  run : ∃ t : TS, PSs X body t ∧ ∀ (c0 c : C3) (σ : SS) (ρ : Env) (sl : Sl) (E : Ends), StaS X.K W0 c0 c σ ρ () → g ρ = some sl →
    (∀ (v : V) (c' : C3), Ext c0 c' → Okh W0 c' () → SlOk X.K c' sl (some (some v)) → (∀ p, sl.own = true → v = .ref p → c0.H p = none) → E.rt v c'.H) → t E σ c.H
def bRet (f : EF W0 Sl) : Env → Option Sl := fun ρ => (f ρ ()).map (·.1)
def bCons (m : MF W0) (g : Env → Option Sl) : Env → Option Sl := fun ρ => (m ρ ()).bind fun q => match q with
  | (.nx, ρ', _) => g ρ'
  | _ => none
section
variable {X : Cx}
theorem gb_ret {e : Expr} {pos : Pos} {f : EF W0 Sl} (h : GE2 X W0 e f) : GB X [.Return (some e) pos] (bRet f) := by
  obtain ⟨t, p, q⟩ := h.run
  refine ⟨⟨_, pss_one (ps_ret p), fun c0 c σ ρ sl E st hg k => ?_⟩⟩
  simp only [bRet, Option.map_eq_some_iff] at hg
  obtain ⟨⟨sl', u⟩, h1, e⟩ := hg
  have e' : sl' = sl := e
  subst e'
  refine q c σ ρ () sl' u _ st.st h1 fun v c1 e1 o1 r1 f1 => ?_
  refine k v c1 (st.ext.trans e1) o1 r1 fun p o e => ?_
  have := f1 p o e
  cases q : c0.H p with
  | none => rfl
  | some u => exact absurd this (st.ext.there p (by rw [q]; exact Option.some_ne_none _))
theorem gb_cons {a : Stmt} {r : List Stmt} {m : MF W0} {g : Env → Option Sl} (h : GS X W0 a m) (h2 : GB X r g) : GB X (a :: r) (bCons m g) := by
  obtain ⟨t, p, q⟩ := h.run
  obtain ⟨t2, p2, q2⟩ := h2.run
  refine ⟨⟨_, pss_cons p p2, fun c0 c σ ρ sl E st hg k => ?_⟩⟩
  simp only [bCons, Option.bind_eq_some_iff] at hg
  obtain ⟨⟨f1, ρ1, u1⟩, h1, h2⟩ := hg
  refine q c0 c σ ρ () f1 ρ1 u1 _ st h1 ?_
  cases f1 with
  | nx => exact fun c' σ' st' => q2 c0 c' σ' ρ1 sl E st' h2 k
  | rt d => cases h2
  | bk => cases h2
  | ct => cases h2
def bFrz (i : Nat) (g : Env → Option Sl) : Env → Option Sl := fun ρ => g (frzE i ρ)
theorem gb_frz {body : List Stmt} {g : Env → Option Sl} (i : Nat) (h : GB X body g) : GB X body (bFrz i g) := by
  obtain ⟨t, p, q⟩ := h.run
  refine ⟨⟨t, p, fun c0 c σ ρ sl E st hg k => ?_⟩⟩
  obtain ⟨c', e, st'⟩ := st.frz i
  rw [← e]
  exact q c0 c' σ _ sl E st' hg k
end
section
variable {P : Program} {w : World} {K : PySem.W.Frag} {mg : Str → Option Value} {base : Heap} {x qual : Str} {params : Arguments} {body : List Stmt} {scope : Scope} {dvs : List V} {kws : List (Str × V)} {f : Addr} {fd : FuncData} {N : List Str} {k : Nat}
def runB (N : Nat) (g : Env → Option Sl) : List Int → Option DrawS := fun ns => (g (startE N [.rol (ns.map D.int)])).bind drawOf
theorem fn_begun {g : Env → Option Sl} {p0 : Str} (F : FunD K x qual params body scope dvs kws f fd) (S : FnScope N [p0] scope)
    (hb : ∀ (cdv : Value) (A : Around) (outer : List PySem.Env) (s : Shared) (H : Hp) (E : XK), Room k (A.deeper (envOfC qual scope s.heap.objs.size f cdv)) → GB (cxOf CX0 P w K mg base N qual scope f cdv A outer s H E).nox body g) :
    FnOk P w K mg base CX0 (k + 1) f fd [p0] (spB K (runB N.length g)) := by
  refine F.ok S (fun vs H Q E h => h.1) fun cdv A outer s H vs Q E hr h => ?_
  obtain ⟨hl, a, ns, ds, rfl, hS, hf, q⟩ := h
  obtain ⟨t, pt, qt⟩ := (hb cdv A outer s H E hr).run
  refine ⟨t, pt.nox, ?_⟩
  simp only [runB, Option.bind_eq_some_iff] at hf
  obtain ⟨sl, h1, h2⟩ := hf
  let c0 : C3 := ⟨H, nilH, H⟩
  have o0 : Okh W0 c0 () := {
    sub := sub_all H
    subG := fun a u h => by
      have h2 : (none : Option HO) = some u := h
      cases h2
    dis := fun a h => absurd (show nilH a = none from rfl) h
    inv := fun _ => rfl }
  have r0 : Reps K c0.F [.rol (ns.map D.int)] [.ref a] := Reps.cons (Rep.rol_iff.mpr ⟨a, _, rfl, hS, Reps.ints.mpr rfl⟩) Reps.nil
  have st : StaS K W0 c0 c0 (L2.start N [.ref a]) (startE N.length [.rol (ns.map D.int)]) () := ⟨Ext.refl _, ⟨o0, slots_start (c := c0) r0⟩, fun j sj p h o _ => (start_own h o).elim⟩
  refine qt c0 c0 _ _ sl _ st h1 fun v c' e1 o1 r1 f1 => ?_
  unfold drawOf at h2
  split at h2
  · rename_i ks wh cs n
    split at h2
    · rename_i hks
      simp only [Option.map_eq_some_iff] at h2
      obtain ⟨cells, h3, rfl⟩ := h2
      obtain ⟨p, kvs, e, hp, hk, rs, hF, hG⟩ := r1
      cases e
      rw [hks] at hk
      obtain ⟨x1, r1, e1', a1, b1⟩ := Reps.cons_iff.mp rs
      obtain ⟨x2, r2, e2', a2, b2⟩ := Reps.cons_iff.mp b1
      obtain ⟨x3, r3, e3', a3, b3⟩ := Reps.cons_iff.mp b2
      have hn := Reps.nil_iff.mp b3
      subst e2' e3' hn
      match kvs, hk, e1' with
      | [(k1, v1), (k2, v2), (k3, v3)], hk, e1' =>
        simp only [List.map_cons, List.map_nil, List.cons.injEq, and_true] at hk e1'
        obtain ⟨rfl, rfl, rfl⟩ := hk
        obtain ⟨rfl, rfl, rfl⟩ := e1'
        obtain ⟨c, xs, rfl, hc, rc⟩ := Rep.lst_iff.mp a2
        rw [Rep.int_iff.mp a1, Rep.int_iff.mp a3] at hp
        rw [intsOf_eq h3, Reps.ints] at rc
        subst rc
        have hcH := o1.sub.lst hc
        refine q p c c'.H (fun b o h => e1.keep b o h rfl) (f1 p rfl rfl) hp hcH fun e => ?_
        subst e
        rw [hF] at hc; cases hc
      | [], hk, _ => simp at hk
      | [_], hk, _ => simp at hk
      | [_, _], hk, _ => simp at hk
      | _ :: _ :: _ :: _ :: _, hk, _ => simp at hk
    · cases h2
  · cases h2
/-- the law's own promise -/
def spLaw (K : PySem.W.Frag) : Sp := fun vs H Q _ => ∃ (a : Addr) (ns : List Int), vs = [.ref a] ∧ SqL K H a (ns.map V.int) ∧ ns.length ≤ 63 ∧ (∀ z ∈ ns, Builtin.Int.intBits z ≤ 1048576) ∧ ∀ H', Q (.bl true) H'
/-- one reading of a body for all draws' dicts -/
def cTS (K : PySem.W.Frag) (m : (a : Addr) → MF (WD a)) : TS := fun E σ H => ∃ (a : Addr) (c0 c : C3) (ρ : Env) (s : DrawS) (f : Fl) (ρ' : Env) (s' : DrawS), c.H = H ∧ StaS K (WD a) c0 c σ ρ s ∧ m a ρ s = some (f, ρ', s') ∧ EndOk K (WD a) E c0 f ρ' s'
theorem pss_cTS {X : Cx} {body : List Stmt} {m : (a : Addr) → MF (WD a)} (h : ∀ a, GSs X (WD a) body (m a)) : PSs X body (cTS X.K m) := by
  refine ⟨fun pins s σ H E I hw => ?_⟩
  obtain ⟨a, c0, c, ρ, s0, f, ρ', s', rfl, st, hm, k⟩ := hw
  obtain ⟨t, p, q⟩ := (h a).run
  exact p.run pins s σ c.H E I (q c0 c σ ρ s0 f ρ' s' E st hm k)
theorem fn_law {first : Stmt} {rest : List Stmt} {m : (a : Addr) → MF (WD a)} {beg : List Int → Option DrawS} (hbody : body = first :: rest) (F : FunD K x qual params body scope dvs kws f fd) (S : FnScope N ["script"] scope) (hN : 2 ≤ N.length)
    (hfirst : ∀ (cdv : Value) (A : Around) (outer : List PySem.Env) (s : Shared) (H : Hp) (E : XK), Room k (A.deeper (envOfC qual scope s.heap.objs.size f cdv)) → PS (cxOf CX0 P w K mg base N qual scope f cdv A outer s H E).nox first (tAsg (tCall (spB K beg) [] E0 (tCons (tVar 0) tNil)) (gName 1)))
    (hrest : ∀ (cdv : Value) (A : Around) (outer : List PySem.Env) (s : Shared) (H : Hp) (E : XK), Room k (A.deeper (envOfC qual scope s.heap.objs.size f cdv)) → ∀ a, GSs (cxOf CX0 P w K mg base N qual scope f cdv A outer s H E).nox (WD a) rest (m a))
    (main : ∀ ns : List Int, ns.length ≤ 63 → (∀ z ∈ ns, Builtin.Int.intBits z ≤ 1048576) → ∃ s, beg ns = some s ∧ ∀ a, ∃ ρ' s', m a (startE N.length [.rol (ns.map D.int), .obj a]) s = some (.rt (.bl true), ρ', s')) :
    FnOk P w K mg base CX0 (k + 1) f fd ["script"] (spLaw K) := by
  subst hbody
  refine F.ok S (fun vs H Q E h => by obtain ⟨a, ns, rfl, _⟩ := h; rfl) fun cdv A outer s H vs Q E hr h => ?_
  obtain ⟨a, ns, rfl, hS, hlen, hbits, q⟩ := h
  refine ⟨_, PSs.nox (pss_cons (hfirst cdv A outer s H E hr) (pss_cTS (hrest cdv A outer s H E hr))), ?_⟩
  obtain ⟨s0, hb0, hm⟩ := main ns hlen hbits
  have s_0 : (L2.start N [V.ref a])[0]? = some (some (V.ref a)) := rfl
  refine ⟨.ref a, s_0, rfl, a, ns, s0, rfl, hS, hb0, fun p c H' sm hp hpd hcl hcp => ?_⟩
  obtain ⟨ρ', s', hmm⟩ := hm p
  let cc : C3 := ⟨fun b => if b = p then none else H' b, fun b => if b = p then H' p else none, H'⟩
  have Fne : ∀ b, b ≠ p → cc.F b = H' b := fun b hb => if_neg hb
  have ok : Okh (WD p) cc s0 := {
    sub := fun b u h => by
      by_cases e : b = p
      · have h2 : (if b = p then none else H' b) = some u := h
        rw [if_pos e] at h2; cases h2
      · have h2 : cc.F b = some u := h
        rw [Fne b e] at h2
        exact .inl h2
    subG := fun b u h => by
      have h2 : (if b = p then H' p else none) = some u := h
      by_cases e : b = p
      · rw [if_pos e] at h2; subst e; exact h2
      · rw [if_neg e] at h2; cases h2
    dis := fun b h => by
      have h2 : (if b = p then H' p else none) ≠ none := h
      by_cases e : b = p
      · exact if_pos e
      · rw [if_neg e] at h2; exact absurd rfl h2
    inv := ⟨fun b hb => if_neg hb, c, (if_pos rfl).trans hpd, (Fne c hcp).trans hcl⟩ }
  have hS' : SqL K cc.F a (ns.map V.int) := by
    rcases hS with (z | ⟨o, z⟩) | z
    · exact .inl (.inl ((Fne a (ne_of_none z hp)).trans (sm _ _ z)))
    · exact .inl (.inr ⟨o, (Fne a (ne_of_none z hp)).trans (sm _ _ z)⟩)
    · exact .inr z
  have r0 : Reps K cc.F [.rol (ns.map D.int), .obj p] [.ref a, .ref p] := Reps.cons (Rep.rol_iff.mpr ⟨a, _, rfl, hS', Reps.ints.mpr rfl⟩) (Reps.cons (Rep.obj_iff.mpr rfl) Reps.nil)
  have sl := slots_start (N := N) (c := cc) r0
  have eσ : (L2.start N [V.ref a]).set 1 (some (.ref p)) = L2.start N [.ref a, .ref p] := by
    match N, hN with
    | x1 :: x2 :: r, _ =>
      have e1 : (x1 :: x2 :: r).length - [V.ref a].length = r.length + 1 := rfl
      have e2 : (x1 :: x2 :: r).length - [V.ref a, V.ref p].length = r.length := rfl
      unfold L2.start
      rw [e1, e2]
      rfl
  have st : StaS K (WD p) cc cc ((L2.start N [V.ref a]).set 1 (some (.ref p))) (startE N.length [.rol (ns.map D.int), .obj p]) s0 := ⟨Ext.refl _, ⟨ok, by rw [eσ]; exact sl⟩, fun j sj p h o _ => (start_own h o).elim⟩
  exact ⟨p, cc, cc, _, s0, _, ρ', s', rfl, st, hmm, fun c' v e o r => by rw [Rep.bl_iff.mp r]; exact q _⟩
end
end MP
/-! MpH: facts of the head, the end. -/
namespace MP
open PySem PySem.Spec PyProof.Rows L2
theorem ge_globE {X : Cx} {W : Wd} {x : Str} {i : Int} {pos : Pos} (hg : Gl X x) (hm : ∃ t, X.mg x = some (.int i t)) (hd : (x == ("__debug__" : Str)) = false := by decide) : GE X W (.Name x pos) (eC (.int i)) := by
  obtain ⟨t, h⟩ := hm
  exact ge_globI hg h hd
abbrev AlM : Type := He.AlD × Bool
def blOk (bl : List (Str × String)) (K : PySem.W.Frag) : Bool := bl.all fun q => He.eqO (PySem.W.nsIn K mainGlobals q.1) (some (some (.builtin q.2)))
theorem blt_ok {K : PySem.W.Frag} {h : Heap} {mg : Str → Option Value} (X : K.In h) (G : h.Ns mainGlobals mg) {q : Str × String} (c : He.eqO (PySem.W.nsIn K mainGlobals q.1) (some (some (.builtin q.2))) = true) : mg q.1 = some (.builtin q.2) := PySem.W.mg_of X G (He.eqO_ok c)
def obsM (n : Nat) (fa : List He.Fa) (fn : List He.DefD) (bl : List (Str × String)) (al : PySem.W.Frag → Bool) (g : Addr → Option Obj) : AlM := (He.obsD fa fn (He.frG g (He.asD g n)), blOk bl (He.frG g (He.asD g n)) && al (He.frG g (He.asD g n)))
def hookM (n : Nat) (fa : List He.Fa) (fn : List He.DefD) (bl : List (Str × String)) (al : PySem.W.Frag → Bool) : PySem.W.Hook where
  α := AlM
  obs := fun s => obsM n fa fn bl al s.heap.get?
  val := fun _ => (He.valD fn, true)
  says := fun _ h => ∃ K : PySem.W.Frag, K.In h ∧ He.SaysD fa fn K ∧ (blOk bl K && al K) = true
  of := fun _ _ e => ⟨_, He.frG_in, congrArg Prod.fst e, congrArg Prod.snd e⟩
  keeps := fun _ _ _ ⟨K, hK, c⟩ k => ⟨K, PySem.W.Frag.In.keeps hK k, c⟩
/-- the end of a law's row: a head's facts, the script's sizes told -/
theorem walk_end {l : PySem.W.OpenLaw} {n k : Nat} {q : Program} {loose : List Str} {XP : (Str → Option Value) → Heap → Prop} {YP : World → Heap → Prop} {d : DefRec} {x : Str}
    (hn : l.most = some n) (hn2 : n ≤ sizeLine) (hdf : d.params.defaults = []) (hr : Room k callerA)
    (F : ∀ (w : World) (mg : Str → Option Value) (fa : Addr) (h : Heap), YP w h → h.Ns mainGlobals mg → mg d.name = some (.ref fa) →
      ∃ (K : PySem.W.Frag) (fd : FuncData) (sp : Sp), K.In h ∧ (∀ (s : Shared) (u : Value), BindsTo s fd ⟨[u], []⟩ [(x, u)]) ∧
        (∀ (H : Hp) (a : Addr) (ns : List Int), ns.length ≤ n → (∀ z ∈ ns, Builtin.Int.intBits z ≤ 1048576) → SqL K H a (ns.map V.int) → sp [.ref a] H (fun v _ => v = .bl true) fun _ _ _ => False) ∧
        ∀ base : Heap, K.In base → base.Ns mainGlobals mg → FnOk l.prog w K mg base CX0 k fa fd [x] sp) :
    PySem.W.WalkO q loose XP YP l.row.toRowW d [] (fun f vs => PySem.call f vs) := by
  refine Att.attach_callB hn hdf ?_
  intro w s₀ s₁ mg mb fa o pm cd doc a vs ns G Y ho hd hcd hmg hobj hints hlen hbits hg
  obtain ⟨K, fd, sp, KX, hb, hsp, hF⟩ := F w mg fa _ Y G.T.g hmg
  refine law_call KX G.T.g G.T.b G.T.builtins G.T.nolimit hg hobj hints (Nat.le_trans hlen hn2) hr hF hb ?_ ?_
  · exact fun H _ hS => hsp H a ns hlen hbits hS
  · exact fun H e s' z => z
end MP
namespace MP
open PySem PySem.Spec PyProof.Rows L2
def m_is_whole : MF W0 := (mRet (eAnd (eIsi "int" (eVar 0)) (eNot (eIsi "bool" (eVar 0)))))
def f_is_whole : List D → Option D := runP 1 m_is_whole
def m_powered : MF W0 := (mSeq (mSet 2 (eC (.int 1)))
    (mSeq (mForS (sRng1 (aCons (eVar 1) aNil)) (tgN 3) (mSet 2 (eBin mulD (eVar 2) (eVar 0))))
    (mRet (eVar 2))))
def f_powered : List D → Option D := runP 4 m_powered
def m_line_by : MF W0 := (mSeq (mAsg (tgTup 2 (tgCons (tgN 2) (tgCons (tgN 3) tgNil))) (eVar 0))
    (mSeq (mSetO 4 (oL (aCons (eC (.int 0)) (aCons (eC (.int 1)) aNil))))
    (mSeq (mWh (toB (eBin leD (eLenL (lOwn 4)) (eVar 1))) (mApp 4 (eBin subD (eBin mulD (eVar 2) (eIdxL (lOwn 4) (eUn negD (eC (.int 1))))) (eBin mulD (eVar 3) (eIdxL (lOwn 4) (eUn negD (eC (.int 2))))))))
    (mFrz 4 (mRet (eSlL (lOf (eVar 4)) pNo (pSo (eBin addD (eVar 1) (eC (.int 1))))))))))
def f_line_by : List D → Option D := runP 5 m_line_by
def m_steps_by : MF W0 := (mSeq (mSetO 2 (oL (aCons (eTup (aCons (eVar 0) (aCons (eVar 1) aNil))) aNil)))
    (mSeq (mWh (toB (eBin neDD (eBin idxD (eIdxL (lOwn 2) (eUn negD (eC (.int 1)))) (eC (.int 1))) (eC (.int 0)))) (mSeq (mAsg (tgTup 2 (tgCons (tgN 3) (tgCons (tgN 4) tgNil))) (eIdxL (lOwn 2) (eUn negD (eC (.int 1)))))
    (mApp 2 (eTup (aCons (eVar 4) (aCons (eBin modD (eVar 3) (eVar 4)) aNil))))))
    (mFrz 2 (mRet (eVar 2)))))
def f_steps_by : List D → Option D := runP 5 m_steps_by
def m_row_to : MF W0 := (mSeq (mSetO 4 (oL (aCons (eVar 1) (aCons (eVar 2) aNil))))
    (mSeq (mForS (sRng1 (aCons (eVar 3) aNil)) (tgN 5) (mApp 4 (eBin subD (eBin mulD (eBin idxD (eVar 0) (eC (.int 0))) (eIdxL (lOwn 4) (eUn negD (eC (.int 1))))) (eBin mulD (eBin idxD (eVar 0) (eC (.int 1))) (eIdxL (lOwn 4) (eUn negD (eC (.int 2))))))))
    (mFrz 4 (mRet (eSlL (lOf (eVar 4)) pNo (pSo (eBin addD (eVar 3) (eC (.int 1)))))))))
def f_row_to : List D → Option D := runP 6 m_row_to
def m_is_small : MF W0 := (mRet (eBin leD (eB maxD (aCons (eB absD (aCons (eBin idxD (eVar 0) (eC (.int 0))) aNil)) (aCons (eB absD (aCons (eBin idxD (eVar 0) (eC (.int 1))) aNil)) aNil))) (eC (.int 1000000))))
def f_is_small : List D → Option D := runP 1 m_is_small
def m_f_law_begun : Env → Option Sl := (bCons (mParO [1, 2] (o2Cons (oV (eC (.int 0))) (o2Cons (oL aNil) o2Nil))) (bCons (mForS (lOf (eVar 0)) (tgN 3) (mIf (toB (eIsi "int" (eVar 3))) (mSeq (mIf (toB (eBin geD (eVar 3) (eBin powD (eC (.int 10)) (eC (.int 18))))) (mSet 1 (eBin addD (eBin mulD (eVar 1) (eBin addD (eBin subD (eVar 3) (eBin powD (eC (.int 10)) (eC (.int 18)))) (eC (.int 1)))) (eBin subD (eVar 3) (eBin powD (eC (.int 10)) (eC (.int 18)))))) mNext)
    (mApp 2 (eVar 3))) mNext)) (bFrz 2 (bRet (oDisp [kWhole, kCells, kCount] (aCons (eVar 1) (aCons (eVar 2) (aCons (eC (.int 0)) aNil))))))))
def f_f_law_begun : List Int → Option DrawS := runB 4 m_f_law_begun
def m_f_law_mixed (a : Addr) : MF (WD a) := (mSeq (mDrw a 0 (fun s z => { s with count := z }) (eBin addD (eDrw a 0 fun s => .int s.count) (eC (.int 1))))
    (mSeq (mSet 1 (eBin addD (eC (.int 1469598103934665603)) (eBin mulD (eC (.int 97)) (eDrw a 0 fun s => .int s.count))))
    (mSeq (mForS (lOf (eBin addD (eDrw a 0 fun s => .lst (s.cells.map D.int)) (eLst (aCons (eDrw a 0 fun s => .int s.count) aNil)))) (tgN 2) (mSeq (mSet 1 (eBin modD (eB intD (aCons (eBin mulD (eBin addD (eVar 1) (eVar 2)) (eC (.int 1099511628211))) aNil)) (eBin subD (eBin powD (eC (.int 2)) (eC (.int 61))) (eC (.int 1)))))
    (mSet 1 (eBin addD (eVar 1) (eBin fdivD (eVar 1) (eBin powD (eC (.int 2)) (eC (.int 17))))))))
    (mRet (eVar 1)))))
def f_f_law_mixed (a : Addr) : List D → DrawS → Option (D × DrawS) := runW 3 (m_f_law_mixed a)
def m_f_law_is_number : MF W0 := (mRet (eAnd (eIsi "int" (eVar 0)) (eNot (eIsi "bool" (eVar 0)))))
def f_f_law_is_number : List D → Option D := runP 1 m_f_law_is_number
def m_f_law_common : MF W0 := (mSeq (mParO [2, 3] (o2Cons (oV (eB absD (aCons (eVar 0) aNil))) (o2Cons (oV (eB absD (aCons (eVar 1) aNil))) o2Nil)))
    (mSeq (mForS (sRng1 (aCons (eC (.int 20000)) aNil)) (tgN 4) (mSeq (mIf (toB (eBin eqDD (eVar 3) (eC (.int 0)))) (mRet (eVar 2)) mNext)
    (mParO [2, 3] (o2Cons (oV (eVar 3)) (o2Cons (oV (eBin modD (eB intD (aCons (eVar 2) aNil)) (eB intD (aCons (eVar 3) aNil)))) o2Nil)))))
    (mRet (eVar 2))))
def f_f_law_common : List D → Option D := runP 5 m_f_law_common
def m_is_within_bounds : MF W0 := (mRet (eAnd (eCall 1 f_is_whole [] (aCons (eVar 0) aNil)) (eChain leD leD (eVar 1) (eVar 0) (eVar 2))))
def f_is_within_bounds : List D → Option D := runP 3 m_is_within_bounds
def m_member_by : MF W0 := (mRet (eBin idxD (eCall 2 f_line_by [] (aCons (eVar 0) (aCons (eVar 1) aNil))) (eUn negD (eC (.int 1)))))
def f_member_by : List D → Option D := runP 2 m_member_by
def m_mate_by : MF W0 := (mSeq (mSet 2 (eCall 2 f_line_by [] (aCons (eVar 0) (aCons (eBin addD (eVar 1) (eC (.int 1))) aNil))))
    (mRet (eBin subD (eBin mulD (eC (.int 2)) (eBin idxD (eVar 2) (eUn negD (eC (.int 1))))) (eBin mulD (eBin idxD (eVar 0) (eC (.int 0))) (eBin idxD (eVar 2) (eUn negD (eC (.int 2))))))))
def f_mate_by : List D → Option D := runP 3 m_mate_by
def m_need_n : MF W0 := (mIf (tOr2 (tNot1 (toB (eCall 1 f_is_whole [] (aCons (eVar 0) aNil)))) (tNot1 (toB (eChain leD leD (eC (.int 0)) (eVar 0) (eC (.int 300)))))) mNever mNext)
def f_need_n : List D → Option D := runP 1 m_need_n
def m_f_law_take (a : Addr) : MF (WD a) := (mSeq (mIf (toB (eBin ltD (eVar 1) (eC (.int 2)))) (mRet (eC (.int 0))) mNext)
    (mSeq (mIf (toB (eBin gtD (eDrw a 0 fun s => .int s.whole) (eC (.int 0)))) (mSeq (mSet 2 (eBin modD (eB intD (aCons (eDrw a 0 fun s => .int s.whole) aNil)) (eVar 1)))
    (mSeq (mDrw a 0 (fun s z => { s with whole := z }) (eBin fdivD (eDrw a 0 fun s => .int s.whole) (eVar 1)))
    (mRet (eVar 2)))) mNext)
    (mSeq (mSet 2 (eCallW 1 (f_f_law_mixed a) [] (aCons (eVar 0) aNil)))
    (mSeq (mWh (tAnd2 (toB (eBin gtD (eVar 1) (eBin powD (eC (.int 2)) (eC (.int 50))))) (toB (eBin ltD (eVar 2) (eBin mulD (eVar 1) (eVar 1))))) (mSet 2 (eBin addD (eBin mulD (eVar 2) (eBin powD (eC (.int 2)) (eC (.int 61)))) (eCallW 1 (f_f_law_mixed a) [] (aCons (eVar 0) aNil)))))
    (mRet (eBin modD (eB intD (aCons (eBin fdivD (eVar 2) (eC (.int 1024))) aNil)) (eVar 1)))))))
def f_f_law_take (a : Addr) : List D → DrawS → Option (D × DrawS) := runW 3 (m_f_law_take a)
def m_f_law_is_rule : MF W0 := (mSeq (mIf (tOr2 (tNot1 (toB (eIsi "tuple" (eVar 0)))) (tOr2 (toB (eBin neDD (eB lenD (aCons (eVar 0) aNil)) (eC (.int 2)))) (toB (eBin neDD (eLc [3] (tOf (eVar 0)) (tgN 3) (tOr2 (tNot1 (toB (eCall 1 f_f_law_is_number [] (aCons (eVar 3) aNil)))) (tOr2 (toB (eBin eqDD (eVar 3) (eC (.int 0)))) (toB (eBin gtD (eB absD (aCons (eVar 3) aNil)) (eBin powD (eC (.int 10)) (eC (.int 6))))))) (eVar 3)) (eLst aNil))))) (mRet (eC (.bl false))) mNext)
    (mSeq (mAsg (tgTup 2 (tgCons (tgN 1) (tgCons (tgN 2) tgNil))) (eVar 0))
    (mRet (eAnd (eBin eqDD (eCall 2 f_f_law_common [] (aCons (eVar 1) (aCons (eVar 2) aNil))) (eC (.int 1))) (eBin ninDD (eBin mulD (eVar 1) (eVar 1)) (eLst (aCons (eVar 2) (aCons (eBin mulD (eC (.int 2)) (eVar 2)) (aCons (eBin mulD (eC (.int 3)) (eVar 2)) (aCons (eBin mulD (eC (.int 4)) (eVar 2)) aNil))))))))))
def f_f_law_is_rule : List D → Option D := runP 4 m_f_law_is_rule
def m_fault_by : MF W0 := (mSeq (mIf (tOr2 (tNot1 (toB (eIsi "tuple" (eVar 0)))) (toB (eBin neDD (eB lenD (aCons (eVar 0) aNil)) (eC (.int 2))))) (mRet (eC (.str "pair"))) mNext)
    (mSeq (mIf (tNot1 (toB (eB allD (aCons (eLc [3] (tOf (eVar 0)) (tgN 3) tYesE (eAnd (eCall 3 f_is_within_bounds [] (aCons (eVar 3) (aCons (eUn negD (eC (.int 1000000))) (aCons (eC (.int 1000000)) aNil)))) (eBin neDD (eVar 3) (eC (.int 0))))) aNil)))) (mRet (eC (.str "pair"))) mNext)
    (mSeq (mAsg (tgTup 2 (tgCons (tgN 1) (tgCons (tgN 2) tgNil))) (eVar 0))
    (mSeq (mIf (toB (eBin neDD (eB gcdD (aCons (eVar 1) (aCons (eVar 2) aNil))) (eC (.int 1)))) (mRet (eC (.str "common"))) mNext)
    (mRet (eIf (toB (eBin inDD (eBin mulD (eVar 1) (eVar 1)) (eTup (aCons (eVar 2) (aCons (eBin mulD (eC (.int 2)) (eVar 2)) (aCons (eBin mulD (eC (.int 3)) (eVar 2)) (aCons (eBin mulD (eC (.int 4)) (eVar 2)) aNil))))))) (eC (.str "turning")) (eC .non)))))))
def f_fault_by : List D → Option D := runP 4 m_fault_by
def m_need_n_members : MF W0 := (mIf (tNot1 (toB (eCall 3 f_is_within_bounds [] (aCons (eVar 0) (aCons (eVar 1) (aCons (eVar 2) aNil)))))) mNever mNext)
def f_need_n_members : List D → Option D := runP 3 m_need_n_members
def m_within_by : MF W0 := (mRet (eTup (aCons (eCall 2 f_mate_by [] (aCons (eVar 0) (aCons (eVar 1) aNil))) (aCons (eCall 2 f_powered [] (aCons (eBin idxD (eVar 0) (eC (.int 1))) (aCons (eVar 1) aNil))) aNil))))
def f_within_by : List D → Option D := runP 2 m_within_by
def m_need_k : MF W0 := (mIf (tNot1 (toB (eCall 3 f_is_within_bounds [] (aCons (eVar 0) (aCons (eC (.int 1)) (aCons (eC (.int 60)) aNil)))))) mNever mNext)
def f_need_k : List D → Option D := runP 1 m_need_k
def m_f_law_pick (a : Addr) : MF (WD a) := (mRet (eBin idxD (eVar 1) (eCallW 2 (f_f_law_take a) [] (aCons (eVar 0) (aCons (eB lenD (aCons (eVar 1) aNil)) aNil)))))
def f_f_law_pick (a : Addr) : List D → DrawS → Option (D × DrawS) := runW 2 (m_f_law_pick a)
def m_is_rule_of : MF W0 := (mRet (eBin isN (eCall 1 f_fault_by [] (aCons (eVar 0) aNil)) (eC .non)))
def f_is_rule_of : List D → Option D := runP 1 m_is_rule_of
def m_line_within : MF W0 := (mSeq (mSetO 1 (oL aNil))
    (mSeq (mForS (sRng2 (aCons (eC (.int 1)) (aCons (eBin addD (eC (.int 60)) (eC (.int 1))) aNil))) (tgN 2) (mSeq (mSet 3 (eCall 2 f_within_by [] (aCons (eVar 0) (aCons (eVar 2) aNil))))
    (mSeq (mIf (tNot1 (toB (eCall 1 f_is_small [] (aCons (eVar 3) aNil)))) mBk mNext)
    (mApp 1 (eVar 3)))))
    (mFrz 1 (mRet (eVar 1)))))
def f_line_within : List D → Option D := runP 4 m_line_within
def m_f_law_rule (a : Addr) : MF (WD a) := (mSeq (mSet 1 (eLst (aCons (eTup (aCons (eC (.int 1)) (aCons (eBin subD (eC (.int 0)) (eC (.int 1))) aNil))) (aCons (eTup (aCons (eC (.int 3)) (aCons (eC (.int 2)) aNil))) (aCons (eTup (aCons (eC (.int 1)) (aCons (eC (.int 2)) aNil))) (aCons (eTup (aCons (eBin subD (eC (.int 0)) (eC (.int 1))) (aCons (eC (.int 2)) aNil))) (aCons (eTup (aCons (eC (.int 2)) (aCons (eBin subD (eC (.int 0)) (eC (.int 1))) aNil))) (aCons (eTup (aCons (eC (.int 1)) (aCons (eC (.int 3)) aNil))) (aCons (eTup (aCons (eC (.int 4)) (aCons (eC (.int 1)) aNil))) (aCons (eTup (aCons (eC (.int 1)) (aCons (eC (.int 5)) aNil))) (aCons (eTup (aCons (eC (.int 2)) (aCons (eC (.int 3)) aNil))) (aCons (eTup (aCons (eC (.int 3)) (aCons (eBin subD (eC (.int 0)) (eC (.int 1))) aNil))) (aCons (eTup (aCons (eC (.int 5)) (aCons (eC (.int 6)) aNil))) (aCons (eTup (aCons (eC (.int 2)) (aCons (eC (.int 11)) aNil))) (aCons (eTup (aCons (eC (.int 1)) (aCons (eBin subD (eC (.int 0)) (eC (.int 2))) aNil))) aNil)))))))))))))))
    (mSeq (mParO [2, 3] (o2Cons (oV (eCallW 2 (f_f_law_take a) [] (aCons (eVar 0) (aCons (eC (.int 5)) aNil)))) (o2Cons (oV (eCallW 2 (f_f_law_pick a) [] (aCons (eVar 0) (aCons (eVar 1) aNil)))) o2Nil)))
    (mSeq (mSet 4 (eCallW 2 (f_f_law_pick a) [] (aCons (eVar 0) (aCons (eLst (aCons (eC (.int 4)) (aCons (eC (.int 12)) (aCons (eC (.int 40)) (aCons (eC (.int 1000)) (aCons (eBin powD (eC (.int 10)) (eC (.int 6))) aNil)))))) aNil))))
    (mSeq (mForS (sRng1 (aCons (eC (.int 20)) aNil)) (tgN 5) (mSeq (mParO [6, 7] (o2Cons (oV (eBin subD (eCallW 2 (f_f_law_take a) [] (aCons (eVar 0) (aCons (eBin addD (eBin mulD (eC (.int 2)) (eVar 4)) (eC (.int 1))) aNil))) (eVar 4))) (o2Cons (oV (eCallW 2 (f_f_law_pick a) [] (aCons (eVar 0) (aCons (eLst (aCons (eBin subD (eCallW 2 (f_f_law_take a) [] (aCons (eVar 0) (aCons (eBin addD (eBin mulD (eC (.int 2)) (eVar 4)) (eC (.int 1))) aNil))) (eVar 4)) (aCons (eC (.int 1)) (aCons (eBin subD (eC (.int 0)) (eC (.int 1))) aNil)))) aNil)))) o2Nil)))
    (mIf (tAnd2 (toB (eBin gtD (eVar 2) (eC (.int 0)))) (toB (eCall 1 f_f_law_is_rule [] (aCons (eTup (aCons (eVar 6) (aCons (eVar 7) aNil))) aNil)))) (mRet (eTup (aCons (eVar 6) (aCons (eVar 7) aNil)))) mNext)))
    (mRet (eVar 3))))))
def f_f_law_rule (a : Addr) : List D → DrawS → Option (D × DrawS) := runW 8 (m_f_law_rule a)
def m_need_rule : MF W0 := (mSeq (mIf (toB (eCall 1 f_is_rule_of [] (aCons (eVar 0) aNil))) mRetN mNext)
    (mSeq (mIf (toB (eBin eqDD (eVar 1) (eC (.str "one")))) mNever mNext)
    (mSeq (mIf (toB (eBin eqDD (eVar 1) (eC (.str "other")))) mNever mNext)
    mNever)))
def f_need_rule : List D → Option D := runP 2 m_need_rule
def m_member : MF W0 := (mSeq (mExpr (eCall 2 f_need_rule [.str "rule"] (aCons (eVar 0) aNil)))
    (mSeq (mExpr (eCall 3 f_need_n_members [] (aCons (eVar 1) (aCons (eC (.int 0)) (aCons (eC (.int 300)) aNil)))))
    (mRet (eCall 2 f_member_by [] (aCons (eVar 0) (aCons (eVar 1) aNil))))))
def f_member : List D → Option D := runP 2 m_member
def m_mate : MF W0 := (mSeq (mExpr (eCall 2 f_need_rule [.str "rule"] (aCons (eVar 0) aNil)))
    (mSeq (mExpr (eCall 3 f_need_n_members [] (aCons (eVar 1) (aCons (eC (.int 0)) (aCons (eC (.int 300)) aNil)))))
    (mRet (eCall 2 f_mate_by [] (aCons (eVar 0) (aCons (eVar 1) aNil))))))
def f_mate : List D → Option D := runP 2 m_mate
def m_beginning : MF W0 := (mSeq (mExpr (eCall 2 f_need_rule [.str "rule"] (aCons (eVar 0) aNil)))
    (mSeq (mExpr (eCall 3 f_need_n_members [] (aCons (eVar 1) (aCons (eC (.int 0)) (aCons (eC (.int 300)) aNil)))))
    (mRet (eB tupleD (aCons (eCall 2 f_line_by [] (aCons (eVar 0) (aCons (eVar 1) aNil))) aNil)))))
def f_beginning : List D → Option D := runP 2 m_beginning
def m_need_both : MF W0 := (mSeq (mExpr (eCall 2 f_need_rule [.str "rule"] (aCons (eVar 0) aNil)))
    (mSeq (mIf (tNot1 (toB (eCall 3 f_is_within_bounds [] (aCons (eVar 1) (aCons (eC (.int 0)) (aCons (eC (.int 1000000000000000000)) aNil)))))) mNever mNext)
    (mIf (tNot1 (toB (eCall 3 f_is_within_bounds [] (aCons (eVar 2) (aCons (eC (.int 0)) (aCons (eC (.int 1000000000000000000)) aNil)))))) mNever mNext)))
def f_need_both : List D → Option D := runP 3 m_need_both
def m_sum_to : MF W0 := (mSeq (mExpr (eCall 2 f_need_rule [.str "rule"] (aCons (eVar 0) aNil)))
    (mSeq (mExpr (eCall 1 f_need_n [] (aCons (eVar 1) aNil)))
    (mRet (eB sumD (aCons (eCall 4 f_row_to [] (aCons (eVar 0) (aCons (eC (.int 0)) (aCons (eC (.int 1)) (aCons (eVar 1) aNil))))) aNil)))))
def f_sum_to : List D → Option D := runP 2 m_sum_to
def m_squares_to : MF W0 := (mSeq (mExpr (eCall 2 f_need_rule [.str "rule"] (aCons (eVar 0) aNil)))
    (mSeq (mExpr (eCall 1 f_need_n [] (aCons (eVar 1) aNil)))
    (mSeq (mSet 2 (eC (.int 0)))
    (mSeq (mForS (lOf (eCall 4 f_row_to [] (aCons (eVar 0) (aCons (eC (.int 0)) (aCons (eC (.int 1)) (aCons (eVar 1) aNil)))))) (tgN 3) (mSet 2 (eBin subD (eBin mulD (eVar 3) (eVar 3)) (eBin mulD (eBin idxD (eVar 0) (eC (.int 1))) (eVar 2)))))
    (mRet (eVar 2))))))
def f_squares_to : List D → Option D := runP 4 m_squares_to
def m_mates_to : MF W0 := (mSeq (mExpr (eCall 2 f_need_rule [.str "rule"] (aCons (eVar 0) aNil)))
    (mSeq (mExpr (eCall 1 f_need_n [] (aCons (eVar 1) aNil)))
    (mRet (eB sumD (aCons (eCall 4 f_row_to [] (aCons (eVar 0) (aCons (eC (.int 2)) (aCons (eBin idxD (eVar 0) (eC (.int 0))) (aCons (eVar 1) aNil))))) aNil)))))
def f_mates_to : List D → Option D := runP 2 m_mates_to
def m_within_member : MF W0 := (mSeq (mExpr (eCall 2 f_need_rule [.str "rule"] (aCons (eVar 0) aNil)))
    (mSeq (mExpr (eCall 1 f_need_k [] (aCons (eVar 1) aNil)))
    (mSeq (mExpr (eCall 3 f_need_n_members [] (aCons (eVar 2) (aCons (eC (.int 0)) (aCons (eBin fdivD (eC (.int 300)) (eVar 1)) aNil)))))
    (mSeq (mSet 3 (eCall 2 f_line_by [] (aCons (eVar 0) (aCons (eBin mulD (eVar 1) (eB maxD (aCons (eVar 2) (aCons (eC (.int 1)) aNil)))) aNil))))
    (mRet (eBin fdivD (eBin idxD (eVar 3) (eBin mulD (eVar 1) (eVar 2))) (eBin idxD (eVar 3) (eVar 1))))))))
def f_within_member : List D → Option D := runP 4 m_within_member
def m_rules_within : MF W0 := (mSeq (mExpr (eCall 2 f_need_rule [.str "rule"] (aCons (eVar 0) aNil)))
    (mRet (eB tupleD (aCons (eCall 1 f_line_within [] (aCons (eVar 0) aNil)) aNil))))
def f_rules_within : List D → Option D := runP 1 m_rules_within
def m_shared : MF W0 := (mSeq (mExpr (eCall 3 f_need_both [] (aCons (eVar 0) (aCons (eVar 1) (aCons (eVar 2) aNil)))))
    (mSeq (mSet 3 (eBin idxD (eBin idxD (eCall 2 f_steps_by [] (aCons (eVar 1) (aCons (eVar 2) aNil))) (eUn negD (eC (.int 1)))) (eC (.int 0))))
    (mSeq (mIf (toB (eBin gtD (eVar 3) (eC (.int 300)))) mNever mNext)
    (mRet (eB absD (aCons (eCall 2 f_member_by [] (aCons (eVar 0) (aCons (eVar 3) aNil))) aNil))))))
def f_shared : List D → Option D := runP 4 m_shared
def m_f_law_right (a : Addr) : MF (WD a) := (mSeq (mSet 1 (eCallW 1 (f_f_law_rule a) [] (aCons (eVar 0) aNil)))
    (mSeq (mAsg (tgTup 2 (tgCons (tgN 2) (tgCons (tgN 3) tgNil))) (eVar 1))
    (mSeq (mSet 4 (eCallW 2 (f_f_law_take a) [] (aCons (eVar 0) (aCons (eCallW 2 (f_f_law_pick a) [] (aCons (eVar 0) (aCons (eLst (aCons (eC (.int 4)) (aCons (eC (.int 60)) (aCons (eC (.int 299)) aNil)))) aNil))) aNil))))
    (mSeq (mParO [5, 6, 7, 8] (o2Cons (oV (eCall 2 f_beginning [] (aCons (eVar 1) (aCons (eBin addD (eVar 4) (eC (.int 1))) aNil)))) (o2Cons (oV (eC (.int 0))) (o2Cons (oV (eC (.int 0))) (o2Cons (oV (eC (.int 0))) o2Nil)))))
    (mSeq (mForS (sRng1 (aCons (eBin addD (eVar 4) (eC (.int 1))) aNil)) (tgN 9) (mParO [6, 7, 8] (o2Cons (oV (eBin addD (eVar 6) (eBin idxD (eVar 5) (eVar 9)))) (o2Cons (oV (eBin subD (eBin mulD (eBin idxD (eVar 5) (eVar 9)) (eBin idxD (eVar 5) (eVar 9))) (eBin mulD (eVar 3) (eVar 7)))) (o2Cons (oV (eIf (toB (eBin ltD (eVar 4) (eC (.int 70)))) (eBin addD (eVar 8) (eCall 2 f_mate [] (aCons (eVar 1) (aCons (eVar 9) aNil)))) (eC (.int 0)))) o2Nil)))))
    (mSeq (mIf (tOr2 (toB (eBin neDD (eCall 2 f_sum_to [] (aCons (eVar 1) (aCons (eVar 4) aNil))) (eVar 6))) (tOr2 (toB (eBin neDD (eCall 2 f_squares_to [] (aCons (eVar 1) (aCons (eVar 4) aNil))) (eVar 7))) (tAnd2 (toB (eBin ltD (eVar 4) (eC (.int 70)))) (toB (eBin neDD (eCall 2 f_mates_to [] (aCons (eVar 1) (aCons (eVar 4) aNil))) (eVar 8)))))) (mRet (eC (.bl false))) mNext)
    (mSeq (mIf (tOr2 (toB (eBin neDD (eBin mulD (eBin subD (eBin subD (eVar 2) (eVar 3)) (eC (.int 1))) (eVar 6)) (eBin subD (eBin subD (eBin idxD (eVar 5) (eBin addD (eVar 4) (eC (.int 1)))) (eBin mulD (eVar 3) (eBin idxD (eVar 5) (eVar 4)))) (eC (.int 1))))) (tOr2 (toB (eBin neDD (eBin mulD (eVar 2) (eVar 7)) (eBin mulD (eBin idxD (eVar 5) (eVar 4)) (eBin idxD (eVar 5) (eBin addD (eVar 4) (eC (.int 1))))))) (toB (eBin neDD (eBin mulD (eBin subD (eBin subD (eVar 2) (eVar 3)) (eC (.int 1))) (eCall 2 f_mates_to [] (aCons (eVar 1) (aCons (eVar 4) aNil)))) (eBin subD (eBin addD (eBin subD (eCall 2 f_mate [] (aCons (eVar 1) (aCons (eBin addD (eVar 4) (eC (.int 1))) aNil))) (eBin mulD (eVar 3) (eCall 2 f_mate [] (aCons (eVar 1) (aCons (eVar 4) aNil))))) (eVar 2)) (eC (.int 2))))))) (mRet (eC (.bl false))) mNext)
    (mSeq (mSet 10 (eBin addD (eC (.int 1)) (eCallW 2 (f_f_law_take a) [] (aCons (eVar 0) (aCons (eB minD (aCons (eC (.int 5)) (aCons (eB lenD (aCons (eCall 1 f_rules_within [] (aCons (eVar 1) aNil)) aNil)) aNil))) aNil)))))
    (mSeq (mParO [11, 12] (o2Cons (oV (eBin idxD (eCall 1 f_rules_within [] (aCons (eVar 1) aNil)) (eBin subD (eVar 10) (eC (.int 1))))) (o2Cons (oV (eCallW 2 (f_f_law_take a) [] (aCons (eVar 0) (aCons (eBin fdivD (eC (.int 300)) (eVar 10)) aNil)))) o2Nil)))
    (mSeq (mIf (tAnd2 (toB (eBin neDD (eBin mulD (eCall 2 f_sum_to [] (aCons (eVar 11) (aCons (eVar 12) aNil))) (eCall 2 f_member [] (aCons (eVar 1) (aCons (eVar 10) aNil)))) (eB sumD (aCons (eLc [9] (sRng1 (aCons (eBin addD (eB minD (aCons (eVar 12) (aCons (eC (.int 40)) aNil))) (eC (.int 1))) aNil)) (tgN 9) tYesE (eCall 2 f_member [] (aCons (eVar 1) (aCons (eBin mulD (eVar 10) (eVar 9)) aNil)))) aNil)))) (toB (eBin leD (eVar 12) (eC (.int 40))))) (mRet (eC (.bl false))) mNext)
    (mSeq (mIf (toB (eBin neDD (eLc [9] (sRng1 (aCons (eBin addD (eB minD (aCons (eVar 12) (aCons (eC (.int 6)) aNil))) (eC (.int 1))) aNil)) (tgN 9) tYesE (eCall 3 f_within_member [] (aCons (eVar 1) (aCons (eVar 10) (aCons (eVar 9) aNil))))) (eB listD (aCons (eCall 2 f_beginning [] (aCons (eVar 11) (aCons (eB minD (aCons (eVar 12) (aCons (eC (.int 6)) aNil))) aNil))) aNil)))) (mRet (eC (.bl false))) mNext)
    (mRet (eOr (eBin eqDD (eVar 4) (eC (.int 0))) (eAnd (eBin eqDD (eCall 3 f_shared [] (aCons (eVar 1) (aCons (eVar 4) (aCons (eBin addD (eVar 4) (eC (.int 1))) aNil)))) (eC (.int 1))) (eBin eqDD (eBin modD (eB intD (aCons (eBin mulD (eVar 2) (eVar 7)) aNil)) (eB intD (aCons (eIf (toB (eBin neDD (eBin idxD (eVar 5) (eVar 4)) (eC (.int 0)))) (eBin idxD (eVar 5) (eVar 4)) (eC (.int 1))) aNil))) (eC (.int 0)))))))))))))))))
def f_f_law_right (a : Addr) : List D → DrawS → Option (D × DrawS) := runW 13 (m_f_law_right a)
def m_law (a : Addr) : MF (WD a) := (mSeq (mForS (sRng1 (aCons (eBin addD (eC (.int 4)) (eB minD (aCons (eB lenD (aCons (eVar 0) aNil)) (aCons (eC (.int 8)) aNil)))) aNil)) (tgN 2) (mIf (tNot1 (toB (eCallW 1 (f_f_law_right a) [] (aCons (eVar 1) aNil)))) (mRet (eC (.bl false))) mNext))
    (mRet (eAnd (eBin eqDD (eCall 2 f_sum_to [] (aCons (eTup (aCons (eC (.int 1)) (aCons (eUn negD (eC (.int 1))) aNil))) (aCons (eC (.int 4)) aNil))) (eC (.int 7))) (eAnd (eBin eqDD (eCall 2 f_squares_to [] (aCons (eTup (aCons (eC (.int 1)) (aCons (eUn negD (eC (.int 1))) aNil))) (aCons (eC (.int 4)) aNil))) (eC (.int 15))) (eBin eqDD (eCall 2 f_mates_to [] (aCons (eTup (aCons (eC (.int 1)) (aCons (eUn negD (eC (.int 1))) aNil))) (aCons (eC (.int 4)) aNil))) (eC (.int 17)))))))
end MP
/-! Lu: rows of numbers by the last two, in plain Lean. -/
namespace Lu
/-- members -/
def U (p q : Int) : Nat → Int
  | 0 => 0
  | 1 => 1
  | n + 2 => p * U p q (n + 1) - q * U p q n
/-- mates -/
def V (p q : Int) : Nat → Int
  | 0 => 2
  | 1 => p
  | n + 2 => p * V p q (n + 1) - q * V p q n
section
variable (p q : Int)
theorem U0 : U p q 0 = 0 := rfl
theorem U1 : U p q 1 = 1 := rfl
theorem U2 : U p q 2 = p := by simp [U]
theorem U_succ (n : Nat) : U p q (n + 2) = p * U p q (n + 1) - q * U p q n := rfl
theorem V_eq : ∀ n, V p q n = 2 * U p q (n + 1) - p * U p q n
  | 0 => by simp [V, U]
  | 1 => by simp [V, U]; omega
  | n + 2 => by
    have h1 := V_eq (n + 1)
    have h2 := V_eq n
    have e1 := U_succ p q (n + 1)
    have e2 := U_succ p q n
    simp only [V]
    rw [h1, h2]
    grind
/-- one step of the pair by k -/
theorem U_step (k : Nat) : ∀ m, U p q (m + k) = U p q k * U p q (m + 1) + (U p q (k + 1) - p * U p q k) * U p q m ∧ U p q (m + k + 1) = U p q (k + 1) * U p q (m + 1) - q * U p q k * U p q m
  | 0 => by simp [U]
  | m + 1 => by
    obtain ⟨h1, h2⟩ := U_step k m
    have e1 := U_succ p q (m + k)
    have e2 := U_succ p q m
    have a1 : m + 1 + k = m + k + 1 := by omega
    have a2 : m + 1 + k + 1 = m + k + 2 := by omega
    rw [a1, a2] at *
    constructor
    · rw [h2, e2]; grind
    · rw [show m + k + 1 + 1 = m + k + 2 by omega, e1, h1, h2, e2]; grind
theorem U_add (m n : Nat) : U p q (m + n + 1) = U p q (m + 1) * U p q (n + 1) - q * U p q m * U p q n := by
  have h := (U_step p q n m).2
  rw [h]; grind
theorem norm : ∀ n, U p q (n + 1) * U p q (n + 1) - p * U p q n * U p q (n + 1) + q * U p q n * U p q n = q ^ n
  | 0 => by simp [U]
  | n + 1 => by
    have h := norm n
    have e := U_succ p q n
    rw [Int.pow_succ, ← h, show n + 1 + 1 = n + 2 by omega, e]
    grind
/-- V² - D U² = 4 q^n -/
theorem pell (n : Nat) : V p q n * V p q n - (p * p - 4 * q) * (U p q n * U p q n) = 4 * q ^ n := by
  have h := norm p q n
  have e := V_eq p q n
  rw [e, ← h]; grind
theorem U_mul_step (k m : Nat) : U p q (m + k + k) = V p q k * U p q (m + k) - q ^ k * U p q m := by
  obtain ⟨a1, a2⟩ := U_step p q k m
  obtain ⟨b1, _⟩ := U_step p q k (m + k)
  have h := norm p q k
  have e := V_eq p q k
  rw [b1, a2, a1, e, ← h]; grind
theorem U_mul (k : Nat) : ∀ n, U p q (k * n) = U p q k * U (V p q k) (q ^ k) n
  | 0 => by simp [U]
  | 1 => by simp [U]
  | n + 2 => by
    have h1 := U_mul k (n + 1)
    have h2 := U_mul k n
    have e := U_mul_step p q k (k * n)
    have a : k * (n + 2) = k * n + k + k := by rw [Nat.mul_add]; omega
    have b : k * (n + 1) = k * n + k := by rw [Nat.mul_add]; omega
    rw [a, e, ← b, h1, h2, U_succ]
    grind
theorem dvd_mul_index (k n : Nat) : U p q k ∣ U p q (k * n) := ⟨_, U_mul p q k n⟩
theorem U_double (n : Nat) : U p q (n + n) = U p q n * V p q n := by
  have h := (U_step p q n n).1
  rw [h, V_eq]; grind
theorem V_double (n : Nat) : V p q (n + n) = V p q n * V p q n - 2 * q ^ n := by
  have h := norm p q n
  have e1 := (U_step p q n n).1
  have e2 := (U_step p q n n).2
  rw [V_eq, V_eq, e1, e2, ← h]; grind
/-! ### sums -/
def sumU (p q : Int) : Nat → Int
  | 0 => 0
  | n + 1 => sumU p q n + U p q n
def sumV (p q : Int) : Nat → Int
  | 0 => 0
  | n + 1 => sumV p q n + V p q n
def sqU (p q : Int) : Nat → Int
  | 0 => 0
  | n + 1 => U p q n * U p q n - q * sqU p q n
theorem sumU_eq : ∀ n, (p - q - 1) * sumU p q (n + 1) = U p q (n + 1) - q * U p q n - 1
  | 0 => by simp [sumU, U]
  | n + 1 => by
    have h := sumU_eq n
    have e := U_succ p q n
    rw [sumU, Int.mul_add, h, e]
    grind
theorem sumV_eq : ∀ n, (p - q - 1) * sumV p q (n + 1) = V p q (n + 1) - q * V p q n + p - 2
  | 0 => by simp [sumV, V]; omega
  | n + 1 => by
    have h := sumV_eq n
    have e : V p q (n + 2) = p * V p q (n + 1) - q * V p q n := rfl
    rw [sumV, Int.mul_add, h, e]
    grind
theorem sqU_eq : ∀ n, p * sqU p q (n + 1) = U p q n * U p q (n + 1)
  | 0 => by simp [sqU, U]
  | n + 1 => by
    have h := sqU_eq n
    have e := U_succ p q n
    rw [sqU, show n + 1 + 1 = n + 2 by omega, e]
    grind
theorem sum_every (k : Nat) : ∀ n, sumU (V p q k) (q ^ k) n * U p q k = ((List.range n).map fun i => U p q (k * i)).sum
  | 0 => by simp [sumU]
  | n + 1 => by
    have h := sum_every k n
    rw [sumU, Int.add_mul, h, List.range_succ, List.map_append, List.sum_append, List.map_cons, List.map_nil, List.sum_cons, List.sum_nil, U_mul]
    grind
/-! ### common divisors -/
/-- no common divisor but units -/
def Cop (a b : Int) : Prop := Int.gcd a b = 1
theorem cop_iff {a b : Int} : Cop a b ↔ ∀ d : Int, d ∣ a → d ∣ b → d ∣ 1 := by
  unfold Cop
  constructor
  · intro h d ha hb
    have := Int.dvd_coe_gcd ha hb
    rw [h] at this
    exact this
  · intro h
    have h1 := h (Int.gcd a b) (Int.gcd_dvd_left ..) (Int.gcd_dvd_right ..)
    exact Nat.dvd_one.mp (Int.natCast_dvd_natCast.mp (by simpa using h1))
theorem Cop.symm {a b : Int} (h : Cop a b) : Cop b a := by unfold Cop at *; rw [Int.gcd_comm]; exact h
theorem Cop.mul {a b c : Int} (h1 : Cop a c) (h2 : Cop b c) : Cop (a * b) c := by
  unfold Cop at *
  rw [Int.gcd_comm] at *
  unfold Int.gcd at *
  rw [Int.natAbs_mul]
  exact Nat.Coprime.mul_right h1 h2
theorem Cop.pow {a c : Int} (h : Cop a c) : ∀ n, Cop (a ^ n) c
  | 0 => by simp [Cop]
  | n + 1 => by rw [Int.pow_succ]; exact (h.pow n).mul h
theorem Cop.dvd_left {a b c : Int} (h : Cop a b) (hd : a ∣ b * c) : a ∣ c := by
  unfold Cop Int.gcd at h
  have h2 : a.natAbs ∣ b.natAbs * c.natAbs := by
    rw [← Int.natAbs_mul]; exact Int.natAbs_dvd_natAbs.mpr hd
  exact Int.natAbs_dvd_natAbs.mp (Nat.Coprime.dvd_of_dvd_mul_left h h2)
theorem cop_of_dvd {a b c : Int} (h : Cop a b) (hd : c ∣ a) : Cop c b := cop_iff.mpr fun d h1 h2 => cop_iff.mp h d (Int.dvd_trans h1 hd) h2
variable {p q}
theorem cop_q (h : Cop p q) : ∀ n, Cop (U p q (n + 1)) q
  | 0 => by simp [U, Cop]
  | n + 1 => by
    refine cop_iff.mpr fun d h1 h2 => ?_
    rw [show n + 1 + 1 = n + 2 by omega, U_succ] at h1
    have h3 : d ∣ p * U p q (n + 1) := by
      have := Int.dvd_add h1 (Int.dvd_mul_of_dvd_left h2 (c := U p q n))
      rwa [Int.sub_add_cancel] at this
    have hc := (h.mul (cop_q h n))
    exact cop_iff.mp hc d h3 h2
theorem cop_next (h : Cop p q) : ∀ n, Cop (U p q n) (U p q (n + 1))
  | 0 => by simp [U, Cop]
  | n + 1 => by
    refine cop_iff.mpr fun d h1 h2 => ?_
    rw [show n + 1 + 1 = n + 2 by omega, U_succ] at h2
    have h3 : d ∣ q * U p q n := by
      have := Int.dvd_sub (Int.dvd_trans h1 (Int.dvd_mul_left p _)) h2
      rwa [Int.sub_sub_self] at this
    have hq : Cop d q := cop_of_dvd (cop_q h n) h1
    have h4 := hq.dvd_left h3
    exact cop_iff.mp (cop_next h n) d h4 h1
/-- what divides two members divides that of the difference -/
theorem dvd_diff (h : Cop p q) {d : Int} {m n : Nat} (hm : d ∣ U p q m) (hmn : d ∣ U p q (m + n)) : d ∣ U p q n := by
  cases m with
  | zero => simpa using hmn
  | succ m =>
    have e := U_add p q m n
    rw [show m + 1 + n = m + n + 1 by omega, e] at hmn
    have h3 : d ∣ q * U p q m * U p q n := by
      have := Int.dvd_sub (Int.dvd_mul_of_dvd_left hm (c := U p q (n + 1))) hmn
      rwa [Int.sub_sub_self] at this
    have hq : Cop d q := cop_of_dvd (cop_q h m) hm
    have h4 : d ∣ U p q m * U p q n := hq.dvd_left (by rwa [Int.mul_assoc] at h3)
    have hc : Cop d (U p q m) := cop_of_dvd (cop_next h m).symm hm
    exact hc.dvd_left h4
theorem dvd_mod (h : Cop p q) {d : Int} {m : Nat} (hm : d ∣ U p q m) : ∀ (k r : Nat), d ∣ U p q (m * k + r) → d ∣ U p q r
  | 0, r, hr => by simpa using hr
  | k + 1, r, hr => by
    refine dvd_mod h hm k r (dvd_diff h hm (n := m * k + r) ?_)
    rwa [show m + (m * k + r) = m * (k + 1) + r by rw [Nat.mul_add]; omega]
theorem dvd_gcd_index (h : Cop p q) {d : Int} (m n : Nat) (hm : d ∣ U p q m) (hn : d ∣ U p q n) : d ∣ U p q (Nat.gcd m n) := by
  induction m, n using Nat.gcd.induction with
  | H0 n => simpa using hn
  | H1 m n hpos ih =>
    rw [Nat.gcd_rec]
    refine ih ?_ hm
    refine dvd_mod h hm (n / m) (n % m) ?_
    rwa [Nat.div_add_mod]
theorem dvd_index {d : Int} {m n : Nat} (hm : d ∣ U p q m) (h : m ∣ n) : d ∣ U p q n := by
  obtain ⟨k, rfl⟩ := h
  exact Int.dvd_trans hm (dvd_mul_index p q m k)
theorem gcd_U (h : Cop p q) (m n : Nat) : Int.gcd (U p q m) (U p q n) = (U p q (Nat.gcd m n)).natAbs := by
  apply Nat.dvd_antisymm
  · have := dvd_gcd_index h m n (Int.gcd_dvd_left ..) (Int.gcd_dvd_right (a := U p q m) (b := U p q n))
    exact Int.natAbs_dvd_natAbs.mpr this |> fun z => by simpa using z
  · have h1 : U p q (Nat.gcd m n) ∣ U p q m := dvd_index (Int.dvd_refl _) (Nat.gcd_dvd_left m n)
    have h2 : U p q (Nat.gcd m n) ∣ U p q n := dvd_index (Int.dvd_refl _) (Nat.gcd_dvd_right m n)
    have := Int.dvd_coe_gcd h1 h2
    exact Int.natAbs_dvd_natAbs.mpr this |> fun z => by simpa using z
end
/-! ### rules -/
structure Rule (p q : Int) : Prop where
  p0 : p ≠ 0
  q0 : q ≠ 0
  cop : Cop p q
  n1 : p * p ≠ q
  n2 : p * p ≠ 2 * q
  n3 : p * p ≠ 3 * q
  n4 : p * p ≠ 4 * q
section
variable {p q : Int}
/-- growth where q is 1 or -1 and p of size three or more -/
theorem grow (hq : q = 1 ∨ q = -1) (hp : 3 ≤ p ∨ p ≤ -3) : ∀ n, (U p q (n + 1)).natAbs > (U p q n).natAbs
  | 0 => by simp [U]
  | n + 1 => by
    have h := grow hq hp n
    have e := U_succ p q n
    rw [show n + 1 + 1 = n + 2 by omega, e]
    generalize U p q (n + 1) = x at *
    generalize U p q n = y at *
    have h3 : (p * x).natAbs ≥ 3 * x.natAbs := by
      rw [Int.natAbs_mul]
      exact Nat.mul_le_mul_right _ (by omega)
    generalize p * x = z at *
    rcases hq with rfl | rfl <;> omega
/-- small rules of q 1 or -1: p is 1, 2, -1, -2 and q is -1: members grow, signs apart -/
theorem grow_small (hp : p = 1 ∨ p = 2) : ∀ n, 0 < U p (-1) (n + 1) ∧ 0 ≤ U p (-1) n
  | 0 => by simp [U]
  | n + 1 => by
    obtain ⟨h1, h2⟩ := grow_small hp n
    have e := U_succ p (-1) n
    rw [show n + 1 + 1 = n + 2 by omega, e]
    rcases hp with rfl | rfl <;> omega
theorem U_neg (p q : Int) : ∀ n, U (-p) q n = (if n % 2 = 1 then U p q n else -U p q n)
  | 0 => by simp [U]
  | 1 => by simp [U]
  | n + 2 => by
    have h1 := U_neg p q (n + 1)
    have h2 := U_neg p q n
    rw [U_succ, U_succ, h1, h2]
    by_cases e : n % 2 = 1
    · have e1 : ¬ (n + 1) % 2 = 1 := by omega
      have e2 : (n + 2) % 2 = 1 := by omega
      rw [if_pos e, if_neg e1, if_pos e2]; grind
    · have e1 : (n + 1) % 2 = 1 := by omega
      have e2 : ¬ (n + 2) % 2 = 1 := by omega
      rw [if_neg e, if_pos e1, if_neg e2]; grind
/-- no member but that at 0 is 0 -/
theorem U_ne (R : Rule p q) {n : Nat} (hn : 0 < n) : U p q n ≠ 0 := by
  intro h0
  -- the neighbours are units
  have g1 := gcd_U R.cop n (n + 1)
  rw [h0] at g1
  have gg : Nat.gcd n (n + 1) = 1 := by
    rw [Nat.gcd_comm]
    simp
  rw [gg, U1] at g1
  have u1 : (U p q (n + 1)).natAbs = 1 := by simpa using g1
  obtain ⟨m, rfl⟩ : ∃ m, n = m + 1 := ⟨n - 1, by omega⟩
  have e := U_succ p q m
  rw [show m + 1 + 1 = m + 2 by omega] at u1
  rw [e, h0] at u1
  have u2 : (q * U p q m).natAbs = 1 := by simpa using u1
  rw [Int.natAbs_mul] at u2
  have hq1 : q.natAbs = 1 := Nat.eq_one_of_mul_eq_one_right u2
  have hq : q = 1 ∨ q = -1 := by omega
  by_cases hp : 3 ≤ p ∨ p ≤ -3
  · have h := grow hq hp m
    rw [h0] at h
    simp at h
  · have hp2 : p = 1 ∨ p = 2 ∨ p = -1 ∨ p = -2 := by
      have := R.p0
      omega
    rcases hq with rfl | rfl
    · rcases hp2 with rfl | rfl | rfl | rfl
      · exact R.n1 rfl
      · exact R.n4 rfl
      · exact R.n1 rfl
      · exact R.n4 rfl
    · rcases hp2 with rfl | rfl | rfl | rfl
      · have := (grow_small (p := 1) (.inl rfl) m).1; omega
      · have := (grow_small (p := 2) (.inr rfl) m).1; omega
      · have := (grow_small (p := 1) (.inl rfl) m).1
        have e := U_neg 1 (-1) (m + 1)
        rw [h0] at e
        split at e <;> omega
      · have := (grow_small (p := 2) (.inr rfl) m).1
        have e := U_neg 2 (-1) (m + 1)
        rw [h0] at e
        split at e <;> omega
theorem disc_ne (R : Rule p q) : p * p - 4 * q ≠ 0 := fun h => R.n4 (by omega)
theorem cop_V (R : Rule p q) (n : Nat) : Cop (V p q n) q ∨ n = 0 := by
  cases n with
  | zero => exact .inr rfl
  | succ n =>
    refine .inl ?_
    induction n with
    | zero => exact R.cop
    | succ n ih =>
      refine cop_iff.mpr fun d h1 h2 => ?_
      have e : V p q (n + 1 + 1) = p * V p q (n + 1) - q * V p q n := rfl
      rw [e] at h1
      have h3 : d ∣ p * V p q (n + 1) := by
        have := Int.dvd_add h1 (Int.dvd_mul_of_dvd_left h2 (c := V p q n))
        rwa [Int.sub_add_cancel] at this
      exact cop_iff.mp (R.cop.mul ih) d h3 h2
theorem unit_of_pow {q : Int} {k : Nat} (hk : 0 < k) (h : (q ^ k).natAbs = 1) : q = 1 ∨ q = -1 := by
  obtain ⟨m, rfl⟩ : ∃ m, k = m + 1 := ⟨k - 1, by omega⟩
  rw [Int.pow_succ, Int.natAbs_mul] at h
  have := Nat.eq_one_of_mul_eq_one_left h
  omega
theorem pow_unit {q : Int} (h : q = 1 ∨ q = -1) : ∀ k : Nat, q ^ k = 1 ∨ q ^ k = -1
  | 0 => .inl (by simp)
  | k + 1 => by
    rw [Int.pow_succ]
    rcases pow_unit h k with e | e <;> rcases h with rfl | rfl <;> rw [e] <;> simp
/-- a square that is a small number times q^k: then q is 1 or -1 -/
theorem sq_unit {v c q : Int} {k : Nat} (hk : 0 < k) (hc : Cop v q) (h : v * v = c * q ^ k) : q = 1 ∨ q = -1 := by
  have h1 : Cop (v * v) (q ^ k) := ((hc.mul hc).symm.pow k).symm
  have h2 : (q ^ k) ∣ v * v := ⟨c, by rw [h, Int.mul_comm]⟩
  have h3 := cop_iff.mp h1 (q ^ k) h2 (Int.dvd_refl _)
  have h4 := Int.natAbs_dvd_natAbs.mpr h3
  exact unit_of_pow hk (Nat.dvd_one.mp (by simpa using h4))
theorem mul_small {a b c : Int} (h : a * (b * b) = c) (hb : b ≠ 0) (hc : c ≠ 0) : a.natAbs ≤ c.natAbs ∧ (b * b).natAbs ≤ c.natAbs := by
  have e : a.natAbs * (b * b).natAbs = c.natAbs := by rw [← Int.natAbs_mul, h]
  have hb2 : 0 < (b * b).natAbs := Int.natAbs_pos.mpr (Int.mul_ne_zero hb hb)
  have ha : 0 < a.natAbs := by
    refine Nat.pos_of_ne_zero fun z => hc ?_
    rw [z, Nat.zero_mul] at e
    omega
  constructor
  · rw [← e]; exact Nat.le_mul_of_pos_right _ hb2
  · rw [← e]; exact Nat.le_mul_of_pos_left _ ha
theorem sq_cases {b : Int} (h : (b * b).natAbs ≤ 4) : b * b = 0 ∨ b * b = 1 ∨ b * b = 4 := by
  have h1 : b.natAbs ≤ 2 := by
    refine Nat.le_of_not_lt fun z => ?_
    rw [Int.natAbs_mul] at h
    have := Nat.mul_le_mul z z
    omega
  have : b = 0 ∨ b = 1 ∨ b = -1 ∨ b = 2 ∨ b = -2 := by omega
  rcases this with rfl | rfl | rfl | rfl | rfl <;> simp
theorem psq (p : Int) (hp : p ≠ 0) (h : p * p ≤ 12) : p * p = 1 ∨ p * p = 4 ∨ p * p = 9 := by
  have h1 : p.natAbs ≤ 3 := by
    refine Nat.le_of_not_lt fun z => ?_
    have h2 := Nat.mul_le_mul z z
    rw [← Int.natAbs_mul] at h2
    have h3 : 0 ≤ p * p := by
      rcases Int.le_total 0 p with h | h
      · exact Int.mul_nonneg h h
      · exact Int.mul_nonneg_of_nonpos_of_nonpos h h
    omega
  have : p = 1 ∨ p = -1 ∨ p = 2 ∨ p = -2 ∨ p = 3 ∨ p = -3 := by omega
  rcases this with rfl | rfl | rfl | rfl | rfl | rfl <;> simp
/-- a row within is a rule's, but for its size -/
theorem within_rule (R : Rule p q) {k : Nat} (hk : 0 < k) : Rule (V p q k) (q ^ k) := by
  have hc : Cop (V p q k) q := (cop_V R k).resolve_right (by omega)
  have hu := U_ne R hk
  have hD := disc_ne R
  have pl := pell p q k
  -- V² = c q^k with c of 0 to 4 is no way
  have no : ∀ c : Int, 0 ≤ c → c ≤ 4 → V p q k * V p q k = c * q ^ k → False := by
    intro c h0 h4 h
    have hq := sq_unit hk hc h
    have hpw := pow_unit hq k
    rw [h] at pl
    have hmul : (p * p - 4 * q) * (U p q k * U p q k) = (c - 4) * q ^ k := by
      have e : (c - 4) * q ^ k = c * q ^ k - 4 * q ^ k := by rw [Int.sub_mul]
      rw [e]; omega
    by_cases hc4 : c = 4
    · subst hc4
      have : (p * p - 4 * q) * (U p q k * U p q k) = 0 := by rw [hmul]; simp
      rcases Int.mul_eq_zero.mp this with z | z
      · exact hD z
      · exact hu (by rcases Int.mul_eq_zero.mp z with w | w <;> exact w)
    · have hne : (c - 4) * q ^ k ≠ 0 := by
        rcases hpw with e | e <;> rw [e] <;> omega
      obtain ⟨b1, b2⟩ := mul_small hmul hu hne
      have b3 : ((c - 4) * q ^ k).natAbs ≤ 4 := by
        rcases hpw with e | e <;> rw [e] <;> omega
      have hs := sq_cases (b := U p q k) (by omega)
      have hp0 := R.p0
      have h1 := R.n1
      have h2 := R.n2
      have h3 := R.n3
      have h44 := R.n4
      have hsq : p * p ≤ 12 := by
        have : (p * p - 4 * q).natAbs ≤ 4 := by omega
        rcases hq with e | e <;> subst e <;> omega
      have hps := psq p hp0 hsq
      have hvs : V p q k * V p q k = c ∨ V p q k * V p q k = -c := by
        rcases hpw with e | e <;> rw [h, e] <;> omega
      have hv4 : (V p q k * V p q k).natAbs ≤ 4 := by omega
      have hvc := sq_cases hv4
      rcases hpw with e | e <;> rcases hq with e2 | e2 <;> subst e2 <;> rw [e] at hmul h <;> rcases hs with s | s | s <;> rw [s] at hmul <;> rcases hps with t | t | t <;> rw [t] at hmul h1 h2 h3 h44 <;> rcases hvc with u | u | u <;> rw [u] at h <;> omega
  refine ⟨fun h => no 0 (by omega) (by omega) (by rw [h]; simp), ?_, (hc.symm.pow k).symm, fun h => no 1 (by omega) (by omega) (by rw [h]; simp), fun h => no 2 (by omega) (by omega) h, fun h => no 3 (by omega) (by omega) h, fun h => no 4 (by omega) (by omega) h⟩
  exact Int.pow_ne_zero R.q0
end
end Lu
/-! Ev: reading the mirrors. -/
namespace MP
open PySem PySem.Spec PyProof.Rows L2
open Classical in
noncomputable def rng1D : List D → Option (List D)
  | [.int j] => @ite _ (-(2 ^ 62) ≤ j ∧ j < 2 ^ 62) (propDecidable _) (some (rngD 0 j.toNat)) none
  | _ => none
open Classical in
noncomputable def rng2D : List D → Option (List D)
  | [.int i, .int j] => @ite _ (-(2 ^ 62) ≤ i ∧ i < 2 ^ 62 ∧ -(2 ^ 62) ≤ j ∧ j < 2 ^ 62) (propDecidable _) (some (rngD i (j - i).toNat)) none
  | _ => none
theorem rng1_int {j : Int} (h1 : -1000000000000000000 ≤ j) (h2 : j ≤ 1000000000000000000) : rng1D [.int j] = some (rngD 0 j.toNat) := by
  unfold rng1D
  simp only
  rw [if_pos (by omega)]
theorem rng1_nat {n : Nat} (h2 : n ≤ 1000000000000000000) : rng1D [.int n] = some (rngD 0 n) := by
  rw [rng1_int (by omega) (by omega)]; rfl
theorem rng2_int {i j : Int} (h1 : -1000000000000000000 ≤ i) (h2 : i ≤ 1000000000000000000) (h3 : -1000000000000000000 ≤ j) (h4 : j ≤ 1000000000000000000) : rng2D [.int i, .int j] = some (rngD i (j - i).toNat) := by
  unfold rng2D
  simp only
  rw [if_pos (by omega)]
section
variable {W : Wd} {ρ : Env} {s : W.S}
@[simp] theorem v_var {i : Nat} : eVar (W := W) i ρ s = match ρ[i]? with
  | some (.v d) => some (d, s)
  | _ => none := rfl
@[simp] theorem v_c {d : D} : eC (W := W) d ρ s = some (d, s) := rfl
@[simp] theorem v_bin {g : D → D → Option D} {fa fb : EF W D} : eBin g fa fb ρ s = (fa ρ s).bind fun r => (fb ρ r.2).bind fun q => (g r.1 q.1).map fun d => (d, q.2) := rfl
@[simp] theorem v_toB {f : EF W D} : toB f ρ s = (f ρ s).bind fun r => match r.1 with
  | .bl b => some (b, r.2)
  | _ => none := by unfold toB; congr 1
@[simp] theorem v_and2 {f g : EF W Bool} : tAnd2 f g ρ s = (f ρ s).bind fun r => if r.1 = true then g ρ r.2 else some (false, r.2) := rfl
@[simp] theorem v_or2 {f g : EF W Bool} : tOr2 f g ρ s = (f ρ s).bind fun r => if r.1 = true then some (true, r.2) else g ρ r.2 := rfl
@[simp] theorem v_not1 {f : EF W Bool} : tNot1 f ρ s = (f ρ s).map fun r => (!r.1, r.2) := rfl
@[simp] theorem v_and {f g : EF W D} : eAnd f g ρ s = (toB f ρ s).bind fun r => if r.1 = true then g ρ r.2 else some (.bl false, r.2) := rfl
@[simp] theorem v_or {f g : EF W D} : eOr f g ρ s = (toB f ρ s).bind fun r => if r.1 = true then some (.bl true, r.2) else g ρ r.2 := rfl
@[simp] theorem v_not {f : EF W D} : eNot f ρ s = (toB f ρ s).map fun r => (.bl (!r.1), r.2) := rfl
@[simp] theorem v_if {t : EF W Bool} {f g : EF W D} : eIf t f g ρ s = (t ρ s).bind fun r => if r.1 = true then f ρ r.2 else g ρ r.2 := rfl
@[simp] theorem v_anil : aNil (W := W) ρ s = some ([], s) := rfl
@[simp] theorem v_acons {f : EF W D} {g : EF W (List D)} : aCons f g ρ s = (f ρ s).bind fun r => (g ρ r.2).map fun q => (r.1 :: q.1, q.2) := rfl
@[simp] theorem v_tup {f : EF W (List D)} : eTup f ρ s = (f ρ s).bind fun r => if r.1.length ≤ sizeLine then some (.tup r.1, r.2) else none := rfl
@[simp] theorem v_lst {f : EF W (List D)} : eLst f ρ s = (f ρ s).bind fun r => if r.1.length ≤ sizeLine then some (.lst r.1, r.2) else none := rfl
@[simp] theorem v_lof {f : EF W D} : lOf f ρ s = (f ρ s).bind fun r => match r.1 with
  | .lst ds => some (ds, r.2)
  | .rol ds => some (ds, r.2)
  | _ => none := by unfold lOf; congr 1
@[simp] theorem v_tof {f : EF W D} : tOf f ρ s = (f ρ s).bind fun r => match r.1 with
  | .tup ds => some (ds, r.2)
  | _ => none := by unfold tOf; congr 1
@[simp] theorem v_lown {i : Nat} : lOwn (W := W) i ρ s = match ρ[i]? with
  | some (.ol ds) => some (ds, s)
  | some (.v (.lst ds)) => some (ds, s)
  | _ => none := rfl
@[simp] theorem v_un {g : D → Option D} {f : EF W D} : eUn g f ρ s = (f ρ s).bind fun r => (g r.1).map fun d => (d, r.2) := rfl
@[simp] theorem v_call {n : Nat} {fn : List D → Option D} {dvs : List D} {fa : EF W (List D)} : eCall n fn dvs fa ρ s = (fa ρ s).bind fun r => if (r.1 ++ dvs).length = n then (fn (r.1 ++ dvs)).map fun d => (d, r.2) else none := rfl
@[simp] theorem v_callW {n : Nat} {fn : List D → W.S → Option (D × W.S)} {dvs : List D} {fa : EF W (List D)} : eCallW n fn dvs fa ρ s = (fa ρ s).bind fun r => if (r.1 ++ dvs).length = n then fn (r.1 ++ dvs) r.2 else none := rfl
@[simp] theorem v_b {g : List D → Option D} {fa : EF W (List D)} : eB g fa ρ s = (fa ρ s).bind fun r => (g r.1).map fun d => (d, r.2) := rfl
@[simp] theorem v_isi {T : String} {f : EF W D} : eIsi T f ρ s = (f ρ s).bind fun r => (isiD T r.1).map fun d => (d, r.2) := rfl
@[simp] theorem v_idxl {fa : EF W (List D)} {fb : EF W D} : eIdxL fa fb ρ s = (fa ρ s).bind fun r => (fb ρ r.2).bind fun q => match q.1 with
  | .int i => (atI r.1 i).map fun d => (d, q.2)
  | _ => none := by unfold eIdxL; congr 1
@[simp] theorem v_lenl {fa : EF W (List D)} : eLenL fa ρ s = (fa ρ s).map fun r => (.int r.1.length, r.2) := rfl
@[simp] theorem v_pno : pNo (W := W) ρ s = some (none, s) := rfl
@[simp] theorem v_pso {f : EF W D} : pSo f ρ s = (f ρ s).bind fun r => match r.1 with
  | .int i => some (some i, r.2)
  | _ => none := by unfold pSo; congr 1
@[simp] theorem v_sll {fa : EF W (List D)} {fl fh : EF W (Option Int)} : eSlL fa fl fh ρ s = (fa ρ s).bind fun r => (fl ρ r.2).bind fun l => (fh ρ l.2).map fun h => (.lst (cutD r.1 l.1 h.1), h.2) := rfl
@[simp] theorem v_next : mNext (W := W) ρ s = some (.nx, ρ, s) := rfl
@[simp] theorem v_bk : mBk (W := W) ρ s = some (.bk, ρ, s) := rfl
@[simp] theorem v_ct : mCt (W := W) ρ s = some (.ct, ρ, s) := rfl
@[simp] theorem v_never : mNever (W := W) ρ s = none := rfl
@[simp] theorem v_retn : mRetN (W := W) ρ s = some (.rt .non, ρ, s) := rfl
@[simp] theorem v_ret {f : EF W D} : mRet f ρ s = (f ρ s).map fun r => (.rt r.1, ρ, r.2) := rfl
@[simp] theorem v_expr {f : EF W D} : mExpr f ρ s = (f ρ s).map fun r => (.nx, ρ, r.2) := rfl
@[simp] theorem v_mif {t : EF W Bool} {m n : MF W} : mIf t m n ρ s = (t ρ s).bind fun r => if r.1 = true then m ρ r.2 else n ρ r.2 := rfl
@[simp] theorem v_set {i : Nat} {f : EF W D} : mSet i f ρ s = (f ρ s).map fun r => (.nx, ρ.set i (.v r.1), r.2) := rfl
@[simp] theorem v_seto {i : Nat} {f : EF W Sl} : mSetO i f ρ s = (f ρ s).map fun r => (.nx, ρ.set i r.1, r.2) := rfl
@[simp] theorem v_tgn {i : Nat} {d : D} : tgN i d ρ = some (ρ.set i (.v d)) := rfl
@[simp] theorem v_tgnil {ds : List D} : tgNil ds ρ = if ds.length = 0 then some ρ else none := rfl
@[simp] theorem v_tgcons {g : D → Env → Option Env} {h : List D → Env → Option Env} {d : D} {ds : List D} : tgCons g h (d :: ds) ρ = (g d ρ).bind fun ρ' => h ds ρ' := rfl
@[simp] theorem v_asg {g : D → Env → Option Env} {f : EF W D} : mAsg g f ρ s = (f ρ s).bind fun r => (g r.1 ρ).map fun ρ' => (.nx, ρ', r.2) := rfl
@[simp] theorem v_frz {i : Nat} {m : MF W} : mFrz i m ρ s = m (frzE i ρ) s := rfl
@[simp] theorem v_ov {f : EF W D} : oV f ρ s = (f ρ s).map fun r => (.v r.1, r.2) := rfl
@[simp] theorem v_ol {f : EF W (List D)} : oL f ρ s = (f ρ s).bind fun r => if r.1.length ≤ sizeLine then some (.ol r.1, r.2) else none := rfl
@[simp] theorem v_o2nil : o2Nil (W := W) ρ s = some ([], s) := rfl
@[simp] theorem v_o2cons {f : EF W Sl} {g : EF W (List Sl)} : o2Cons f g ρ s = (f ρ s).bind fun r => (g ρ r.2).map fun q => (r.1 :: q.1, q.2) := rfl
@[simp] theorem v_paro {is : List Nat} {f : EF W (List Sl)} : mParO is f ρ s = (f ρ s).bind fun r => (setsE is r.1 ρ).map fun ρ' => (.nx, ρ', r.2) := rfl
@[simp] theorem v_app {i : Nat} {f : EF W D} : mApp i f ρ s = (f ρ s).bind fun r => match ρ[i]? with
  | some (.ol ds) => if ds.length < sizeLine then some (.nx, ρ.set i (.ol (ds ++ [r.1])), r.2) else none
  | _ => none := by unfold mApp; congr 1
@[simp] theorem v_rng1 {f : EF W (List D)} : sRng1 f ρ s = (f ρ s).bind fun r => (rng1D r.1).map fun ds => (ds, r.2) := by
  refine congrArg (Option.bind (f ρ s)) (funext fun r => ?_)
  rcases r with ⟨ds, s'⟩
  rcases ds with _ | ⟨d, _ | ⟨d2, ds⟩⟩
  · rfl
  · cases d <;> try rfl
    rename_i j
    show (if -(2 ^ 62) ≤ j ∧ j < 2 ^ 62 then some (rngD 0 j.toNat, s') else none) = Option.map (fun ds => (ds, s')) (@ite _ (-(2 ^ 62) ≤ j ∧ j < 2 ^ 62) (Classical.propDecidable _) (some (rngD 0 j.toNat)) none)
    split <;> rename_i c <;> simp [c]
  · cases d <;> rfl
@[simp] theorem v_rng2 {f : EF W (List D)} : sRng2 f ρ s = (f ρ s).bind fun r => (rng2D r.1).map fun ds => (ds, r.2) := by
  refine congrArg (Option.bind (f ρ s)) (funext fun r => ?_)
  rcases r with ⟨ds, s'⟩
  rcases ds with _ | ⟨d, _ | ⟨d2, _ | ⟨d3, ds⟩⟩⟩
  · rfl
  · cases d <;> rfl
  · cases d <;> try rfl
    cases d2 <;> try rfl
    rename_i i j
    show (if -(2 ^ 62) ≤ i ∧ i < 2 ^ 62 ∧ -(2 ^ 62) ≤ j ∧ j < 2 ^ 62 then some (rngD i (j - i).toNat, s') else none) = Option.map (fun ds => (ds, s')) (@ite _ (-(2 ^ 62) ≤ i ∧ i < 2 ^ 62 ∧ -(2 ^ 62) ≤ j ∧ j < 2 ^ 62) (Classical.propDecidable _) (some (rngD i (j - i).toNat)) none)
    split <;> rename_i c <;> simp [c]
  · cases d <;> try rfl
    cases d2 <;> rfl
@[simp] theorem v_fors {src : EF W (List D)} {g : D → Env → Option Env} {b : MF W} : mForS src g b ρ s = (src ρ s).bind fun r => mFor g b r.1 ρ r.2 := rfl
@[simp] theorem v_yes : tYesE (W := W) ρ s = some (true, s) := rfl
@[simp] theorem v_llc {vs : List Nat} {src : EF W (List D)} {g : D → Env → Option Env} {tt : EF W Bool} {te : EF W D} : lLc vs src g tt te ρ s = (src ρ s).bind fun r => if r.1.length < sizeLine then lcGo vs g tt te ρ r.1 r.2 else none := rfl
@[simp] theorem v_lc {vs : List Nat} {src : EF W (List D)} {g : D → Env → Option Env} {tt : EF W Bool} {te : EF W D} : eLc vs src g tt te ρ s = (lLc vs src g tt te ρ s).map fun r => (.lst r.1, r.2) := rfl
end
@[simp] theorem v_seq {W : Wd} {m n : MF W} {ρ : Env} {s : W.S} : mSeq m n ρ s = (m ρ s).bind fun r => match r with
  | (.nx, ρ', s') => n ρ' s'
  | (.rt d, ρ', s') => some (.rt d, ρ', s')
  | (.bk, ρ', s') => some (.bk, ρ', s')
  | (.ct, ρ', s') => some (.ct, ρ', s') := by
  unfold mSeq; congr 1; funext r; obtain ⟨f, a, b⟩ := r; cases f <;> rfl
@[simp] theorem v_chain {W : Wd} {g g' : D → D → Option D} {fa fb fc : EF W D} {ρ : Env} {s : W.S} {x y z : D} {s1 s2 s3 : W.S} {b : Bool} (h1 : fa ρ s = some (x, s1)) (h2 : fb ρ s1 = some (y, s2)) (h3 : g x y = some (.bl b)) (h4 : fc ρ s2 = some (z, s3)) :
    eChain g g' fa fb fc ρ s = if b = true then (g' y z).map fun d => (d, s3) else some (.bl false, s2) := by
  unfold eChain
  simp [h1, h2, h3, h4]
  cases b <;> simp
@[simp] theorem v_tup2 {n : Nat} {g : List D → Env → Option Env} {ds : List D} {ρ : Env} : tgTup n g (.tup ds) ρ = if ds.length = n then g ds ρ else none := rfl
@[simp] theorem szl : sizeLine = 16777216 := by decide
@[simp] theorem i_add {a b : Int} : addD (.int a) (.int b) = some (.int (a + b)) := rfl
@[simp] theorem i_sub {a b : Int} : subD (.int a) (.int b) = some (.int (a - b)) := rfl
@[simp] theorem i_neg {a : Int} : negD (.int a) = some (.int (-a)) := rfl
@[simp] theorem i_cmp {p : Int → Int → Bool} {a b : Int} : cmpI p (.int a) (.int b) = some (.bl (p a b)) := rfl
@[simp] theorem i_int {a : Int} : intD [.int a] = some (.int a) := rfl
@[simp] theorem i_abs {a : Int} : absD [.int a] = some (.int (a.natAbs : Int)) := by unfold absD; simp only; congr 2; split <;> omega
@[simp] theorem i_min {a b : Int} : minD [.int a, .int b] = some (.int (min a b)) := by unfold minD; simp only; congr 2; split <;> omega
@[simp] theorem i_max {a b : Int} : maxD [.int a, .int b] = some (.int (max a b)) := by unfold maxD; simp only; congr 2; split <;> omega
@[simp] theorem i_gcd {a b : Int} : gcdD [.int a, .int b] = some (.int (Int.gcd a b : Nat)) := rfl
theorem i_mul {a b : Int} (h : IntMulOk a b) : mulD (.int a) (.int b) = some (.int (a * b)) := by show (if _ then _ else _) = _; rw [if_pos h]
theorem i_mulL {a b : Int} (h1 : -(2 ^ 64) < a) (h2 : a < 2 ^ 64) : mulD (.int a) (.int b) = some (.int (a * b)) := i_mul (mulOk_left h1 h2)
theorem i_mulR {a b : Int} (h1 : -(2 ^ 64) < b) (h2 : b < 2 ^ 64) : mulD (.int a) (.int b) = some (.int (a * b)) := i_mul (mulOk_right h1 h2)
theorem i_div {a b : Int} (h : DivOk b) : fdivD (.int a) (.int b) = some (.int (a.fdiv b)) := by show (if _ then _ else _) = _; rw [if_pos h]
theorem i_mod {a b : Int} (h : b ≠ 0) : modD (.int a) (.int b) = some (.int (a.fmod b)) := by show (if _ then _ else _) = _; rw [if_pos h]
theorem i_pow {a b : Int} (h : 0 ≤ b ∧ b ≤ 1000000 ∧ a.natAbs < 2 ^ 64) : powD (.int a) (.int b) = some (.int (a ^ b.toNat)) := by show (if _ then _ else _) = _; rw [if_pos h]
@[simp] theorem i_isint {a : Int} : isiD "int" (.int a) = some (.bl true) := by
  have e : kitB "int" "int" = some true := by decide +kernel
  simp [isiD, tyName, e]
@[simp] theorem i_isbool {a : Int} : isiD "bool" (.int a) = some (.bl false) := by
  have e : kitB "int" "bool" = some false := by decide +kernel
  simp [isiD, tyName, e]
@[simp] theorem i_istup {ds : List D} : isiD "tuple" (.tup ds) = some (.bl true) := by
  have e : kitB "tuple" "tuple" = some true := by decide +kernel
  simp [isiD, tyName, e]
@[simp] theorem i_len {ds : List D} : lenD [.tup ds] = some (.int ds.length) := rfl
@[simp] theorem i_lenl {ds : List D} : lenD [.lst ds] = some (.int ds.length) := rfl
@[simp] theorem i_lenr {ds : List D} : lenD [.rol ds] = some (.int ds.length) := rfl
@[simp] theorem i_idt {ds : List D} {i : Int} : idxD (.tup ds) (.int i) = atI ds i := rfl
@[simp] theorem i_idl {ds : List D} {i : Int} : idxD (.lst ds) (.int i) = atI ds i := rfl
theorem shaped_int (i : Int) : SeqAt.shaped (.int i) = true := by unfold SeqAt.shaped; simp [PyData.canLay0, PyData.depth]
@[simp] theorem i_eqD {a b : Int} : eqD (.int a) (.int b) = some (decide (a = b)) := by
  simp only [eqD, pyD, Option.bind_some, shaped_int, and_self, if_true]
  congr 1
@[simp] theorem i_eqDD {a b : Int} : eqDD (.int a) (.int b) = some (.bl (decide (a = b))) := by simp [eqDD]
@[simp] theorem i_neDD {a b : Int} : neDD (.int a) (.int b) = some (.bl (!decide (a = b))) := by simp [neDD]
@[simp] theorem i_tuple {ds : List D} : tupleD [.lst ds] = some (.tup ds) := rfl
@[simp] theorem i_list {ds : List D} : listD [.tup ds] = some (.lst ds) := rfl
theorem i_sum {ns : List Int} : sumD [.lst (ns.map D.int)] = some (.int ns.sum) := by
  simp [sumD, lst1, intsOf_map]
/-! loops -/
theorem mFor_inv {W : Wd} {g : D → Env → Option Env} {b : MF W} (I : Nat → Env → W.S → Prop) (Q : Option (Fl × Env × W.S) → Prop) : ∀ (ds : List D) (n : Nat) (ρ : Env) (s : W.S), I n ρ s →
    (∀ i ρ s d, ds[i]? = some d → I (n + i) ρ s → ∃ ρ1 f ρ' s', g d ρ = some ρ1 ∧ b ρ1 s = some (f, ρ', s') ∧ (match f with
      | .nx => I (n + i + 1) ρ' s'
      | .ct => I (n + i + 1) ρ' s'
      | .bk => Q (some (.nx, ρ', s'))
      | .rt d => Q (some (.rt d, ρ', s')))) → (∀ ρ s, I (n + ds.length) ρ s → Q (some (.nx, ρ, s))) → Q (mFor g b ds ρ s)
  | [], n, ρ, s, h, _, e => e ρ s h
  | d :: ds, n, ρ, s, h, st, e => by
    obtain ⟨ρ1, f, ρ', s', h1, h2, h3⟩ := st 0 ρ s d rfl h
    rw [mFor, h1, Option.bind_some, h2, Option.bind_some]
    have go : I (n + 0 + 1) ρ' s' → Q (mFor g b ds ρ' s') := fun hi => mFor_inv I Q ds (n + 1) ρ' s' hi (fun i ρ s d hd hI => by
      have z := st (i + 1) ρ s d hd (by rw [show n + (i + 1) = n + 1 + i by omega]; exact hI)
      rw [show n + (i + 1) + 1 = n + 1 + i + 1 by omega] at z
      exact z) (fun ρ s hI => e ρ s (by rw [List.length_cons, show n + (ds.length + 1) = n + 1 + ds.length by omega]; exact hI))
    cases f with
    | nx => exact go h3
    | ct => exact go h3
    | bk => exact h3
    | rt d => exact h3
/-- a for that runs to its end, along a trace -/
theorem mFor_run {W : Wd} {g : D → Env → Option Env} {b : MF W} (I : Nat → Env → W.S → Prop) {ds : List D} {ρ : Env} {s : W.S} (h0 : I 0 ρ s)
    (st : ∀ i ρ s d, ds[i]? = some d → I i ρ s → ∃ ρ1 ρ' s', g d ρ = some ρ1 ∧ b ρ1 s = some (.nx, ρ', s') ∧ I (i + 1) ρ' s') : ∃ ρ' s', mFor g b ds ρ s = some (.nx, ρ', s') ∧ I ds.length ρ' s' := by
  refine mFor_inv I (fun r => ∃ ρ' s', r = some (.nx, ρ', s') ∧ I ds.length ρ' s') ds 0 ρ s h0 (fun i ρ s d hd hI => ?_) (fun ρ s hI => ⟨ρ, s, rfl, by rw [Nat.zero_add] at hI; exact hI⟩)
  rw [Nat.zero_add] at hI
  obtain ⟨ρ1, ρ', s', h1, h2, h3⟩ := st i ρ s d hd hI
  exact ⟨ρ1, .nx, ρ', s', h1, h2, by rw [Nat.zero_add]; exact h3⟩
/-- a for over 0, 1, .. -/
theorem mRng_run {W : Wd} {g : D → Env → Option Env} {b : MF W} (I : Nat → Env → W.S → Prop) {n : Nat} {lo : Int} {ρ : Env} {s : W.S} (h0 : I 0 ρ s)
    (st : ∀ i ρ s, i < n → I i ρ s → ∃ ρ1 ρ' s', g (.int (lo + i)) ρ = some ρ1 ∧ b ρ1 s = some (.nx, ρ', s') ∧ I (i + 1) ρ' s') : ∃ ρ' s', mFor g b (rngD lo n) ρ s = some (.nx, ρ', s') ∧ I n ρ' s' := by
  obtain ⟨ρ', s', h1, h2⟩ := mFor_run (g := g) (b := b) I h0 (ds := rngD lo n) (fun i ρ s d hd hI => by
    have hi : i < n := by
      have := (List.getElem?_eq_some_iff.mp hd).1
      rwa [rngD_length] at this
    rw [rngD_get hi] at hd
    cases hd
    exact st i ρ s hi hI)
  rw [rngD_length] at h2
  exact ⟨ρ', s', h1, h2⟩
theorem mWhile_run {W : Wd} {t : EF W Bool} {b : MF W} (I : Nat → Env → W.S → Prop) (Q : Env → W.S → Prop)
    (st : ∀ m ρ s, I m ρ s → (∃ s1, t ρ s = some (false, s1) ∧ Q ρ s1) ∨ ∃ s1 ρ' s' m', t ρ s = some (true, s1) ∧ b ρ s1 = some (.nx, ρ', s') ∧ m' < m ∧ I m' ρ' s') :
    ∀ (N m : Nat) (ρ : Env) (s : W.S), m < N → I m ρ s → ∃ ρ' s', mWhile t b N ρ s = some (.nx, ρ', s') ∧ Q ρ' s'
  | 0, m, _, _, h, _ => absurd h (Nat.not_lt_zero m)
  | N + 1, m, ρ, s, h, hI => by
    rcases st m ρ s hI with ⟨s1, h1, h2⟩ | ⟨s1, ρ', s', m', h1, h2, h3, h4⟩
    · exact ⟨ρ, s1, by rw [mWhile, h1]; rfl, h2⟩
    · obtain ⟨ρ2, s2, h5, h6⟩ := mWhile_run I Q st N m' ρ' s' (by omega) h4
      exact ⟨ρ2, s2, by rw [mWhile, h1, Option.bind_some, if_pos rfl, h2, Option.bind_some]; exact h5, h6⟩
theorem mWh_run {W : Wd} {t : EF W Bool} {b : MF W} (I : Nat → Env → W.S → Prop) (Q : Env → W.S → Prop) {m : Nat} {ρ : Env} {s : W.S} (hm : m < 2 ^ 100) (h : I m ρ s)
    (st : ∀ m ρ s, I m ρ s → (∃ s1, t ρ s = some (false, s1) ∧ Q ρ s1) ∨ ∃ s1 ρ' s' m', t ρ s = some (true, s1) ∧ b ρ s1 = some (.nx, ρ', s') ∧ m' < m ∧ I m' ρ' s') :
    ∃ ρ' s', mWh t b ρ s = some (.nx, ρ', s') ∧ Q ρ' s' := mWhile_run I Q st bigN m ρ s hm h
/-- a comprehension that takes all -/
theorem lcGo_run {W : Wd} {vs : List Nat} {g : D → Env → Option Env} {tt : EF W Bool} {te : EF W D} {ρ : Env} {s : W.S} : ∀ {ds es : List D}, ds.length = es.length →
    (∀ (i : Nat) (d e : D), ds[i]? = some d → es[i]? = some e → ∃ ρ1, g d (wipeE ρ vs) = some ρ1 ∧ tt ρ1 s = some (true, s) ∧ te ρ1 s = some (e, s)) → lcGo vs g tt te ρ ds s = some (es, s)
  | [], [], _, _ => rfl
  | [], _ :: _, h, _ => by cases h
  | _ :: _, [], h, _ => by cases h
  | d :: ds, e :: es, h, st => by
    obtain ⟨ρ1, h1, h2, h3⟩ := st 0 d e rfl rfl
    rw [lcGo, h1, Option.bind_some, h2, Option.bind_some, if_pos rfl, h3, Option.bind_some, lcGo_run (by simpa using h) (fun i d e hd he => st (i + 1) d e hd he)]
    rfl
theorem lcGo_rng {W : Wd} {vs : List Nat} {g : D → Env → Option Env} {tt : EF W Bool} {te : EF W D} {ρ : Env} {s : W.S} {n : Nat} {lo : Int} (f : Nat → D)
    (st : ∀ i, i < n → ∃ ρ1, g (.int (lo + i)) (wipeE ρ vs) = some ρ1 ∧ tt ρ1 s = some (true, s) ∧ te ρ1 s = some (f i, s)) : lcGo vs g tt te ρ (rngD lo n) s = some ((List.range n).map f, s) := by
  refine lcGo_run (by simp [rngD_length]) fun i d e hd he => ?_
  have hi : i < n := by
    have := (List.getElem?_eq_some_iff.mp hd).1
    rwa [rngD_length] at this
  rw [rngD_get hi] at hd
  simp [hi] at he
  cases hd
  subst he
  exact st i hi
theorem atI_neg {α : Type} {xs : List α} {k : Nat} {v : α} (hk : 0 < k) (hk2 : k ≤ xs.length) (h : xs[xs.length - k]? = some v) : atI xs (-(k : Int)) = some v := by
  unfold atI ixN
  rw [if_neg (by omega)]
  have e : ∀ P : Prop, [Decidable P] → P → (if P then some ((-(k : Int) + xs.length).toNat) else none) = some (xs.length - k) := fun P _ hp => by rw [if_pos hp]; congr 1; omega
  first
    | rw [if_pos (by omega)]; simp only [Option.bind_some]; rw [← h]; congr 1; omega
    | simp_all
end MP
/-! Sp1: what the small defs say. -/
namespace MP
open PySem PySem.Spec PyProof.Rows L2
abbrev Rl (p q : Int) : D := .tup [.int p, .int q]
/-- a rule of the program: both parts within a million -/
structure Small (p q : Int) : Prop where
  pl : -1000000 ≤ p
  ph : p ≤ 1000000
  ql : -1000000 ≤ q
  qh : q ≤ 1000000
theorem is_whole_int (i : Int) : f_is_whole [.int i] = some (.bl true) := by
  simp -implicitDefEqProofs [f_is_whole, m_is_whole, runP, resD, startE]
theorem bounds_int (i l h : Int) : f_is_within_bounds [.int i, .int l, .int h] = some (.bl (decide (l ≤ i ∧ i ≤ h))) := by
  have e : ∀ (ρ : Env) (s : W0.S), ρ[0]? = some (.v (.int i)) → ρ[1]? = some (.v (.int l)) → ρ[2]? = some (.v (.int h)) → eChain (W := W0) leD leD (eVar 1) (eVar 0) (eVar 2) ρ s = some (.bl (decide (l ≤ i ∧ i ≤ h)), s) := fun ρ s h0 h1 h2 => by
    rw [v_chain (x := .int l) (y := .int i) (z := .int h) (s1 := s) (s2 := s) (s3 := s) (b := decide (l ≤ i)) (by simp [h1]) (by simp [h0]) (by simp) (by simp [h2])]
    by_cases c : l ≤ i <;> simp [c]
  simp -implicitDefEqProofs [f_is_within_bounds, m_is_within_bounds, runP, resD, startE, is_whole_int, e]
theorem inV_int (i : Int) (ns : List Int) : inV (.int i) (ns.map V.int) = decide (i ∈ ns) := by
  induction ns with
  | nil => simp [inV]
  | cons n ns ih =>
    have h1 : inV (.int i) (V.int n :: ns.map V.int) = (n == i || inV (.int i) (ns.map V.int)) := rfl
    rw [List.map_cons, h1, ih]
    by_cases h : i = n
    · subst h; simp
    · have h2 : ¬ n = i := fun e => h e.symm
      simp [h, h2]
theorem fault_rule {p q : Int} (R : Lu.Rule p q) (S : Small p q) : f_fault_by [Rl p q] = some .non := by
  have h1 := S.pl; have h2 := S.ph; have h3 := S.ql; have h4 := S.qh
  have c : Int.gcd p q = 1 := R.cop
  have m2 : mulD (.int 2) (.int q) = some (.int (2 * q)) := i_mulL (by decide) (by decide)
  have m3 : mulD (.int 3) (.int q) = some (.int (3 * q)) := i_mulL (by decide) (by decide)
  have m4 : mulD (.int 4) (.int q) = some (.int (4 * q)) := i_mulL (by decide) (by decide)
  have mp : mulD (.int p) (.int p) = some (.int (p * p)) := i_mulL (by omega) (by omega)
  have e : inV (.int (p * p)) [.int q, .int (2 * q), .int (3 * q), .int (4 * q)] = false := by
    have := inV_int (p * p) [q, 2 * q, 3 * q, 4 * q]
    simp only [List.map] at this
    rw [this]
    simp [R.n1, R.n2, R.n3, R.n4]
  simp -implicitDefEqProofs [f_fault_by, m_fault_by, runP, resD, startE, bounds_int, lcGo, wipeE, allD, lst1, blsOf, h1, h2, h3, h4, R.p0, R.q0, c, m2, m3, m4, mp, inDD, inD, flatD, flatDs, seqOf, e]
theorem is_rule_rule {p q : Int} (R : Lu.Rule p q) (S : Small p q) : f_is_rule_of [Rl p q] = some (.bl true) := by
  simp -implicitDefEqProofs [f_is_rule_of, m_is_rule_of, runP, resD, startE, fault_rule R S, isN, isNon]
theorem need_rule_rule {p q : Int} (R : Lu.Rule p q) (S : Small p q) (x : Str) : f_need_rule [Rl p q, .str x] = some .non := by
  simp -implicitDefEqProofs [f_need_rule, m_need_rule, runP, resD, startE, is_rule_rule R S]
theorem need_n_ok {n l h : Int} (h1 : l ≤ n) (h2 : n ≤ h) : f_need_n_members [.int n, .int l, .int h] = some .non := by
  simp -implicitDefEqProofs [f_need_n_members, m_need_n_members, runP, resD, startE, bounds_int, h1, h2]
/-! the row -/
def rowD (a : Nat → Int) (n : Nat) : List D := (List.range n).map fun i => D.int (a i)
theorem rowD_len (a : Nat → Int) (n : Nat) : (rowD a n).length = n := by simp [rowD]
theorem rowD_get {a : Nat → Int} {n i : Nat} (h : i < n) : (rowD a n)[i]? = some (.int (a i)) := by simp [rowD, h]
theorem rowD_succ (a : Nat → Int) (n : Nat) : rowD a (n + 1) = rowD a n ++ [.int (a n)] := by simp [rowD, List.range_succ]
theorem rowD_at {a : Nat → Int} {n i : Nat} (h : i < n) : atI (rowD a n) (i : Int) = some (.int (a i)) := L2.atI_nat (rowD_get h)
theorem rowD_neg {a : Nat → Int} {n k : Nat} (h0 : 0 < k) (h : k ≤ n) : atI (rowD a n) (-(k : Int)) = some (.int (a (n - k))) := atI_neg h0 (by rw [rowD_len]; exact h) (by rw [rowD_len]; exact rowD_get (by omega))
theorem rowD_cut (a : Nat → Int) {n m : Nat} (h : n ≤ m) : cutD (rowD a m) none (some (n : Int)) = rowD a n := by
  have e : HT.sIx (rowD a m).length 0 none = 0 := rfl
  have e2 : HT.sIx (rowD a m).length (rowD a m).length (some (n : Int)) = n := by
    rw [rowD_len]
    have := HT.sIx_nat m m n
    rw [this]; omega
  unfold cutD
  rw [e, e2]
  simp only [List.drop_zero, Nat.sub_zero]
  apply List.ext_getElem?
  intro i
  rw [List.getElem?_take]
  by_cases hi : i < n
  · rw [if_pos hi, rowD_get hi, rowD_get (by omega)]
  · rw [if_neg hi]
    symm
    exact List.getElem?_eq_none_iff.mpr (by rw [rowD_len]; omega)
theorem rowD_map (a : Nat → Int) (n : Nat) : rowD a n = ((List.range n).map a).map D.int := by simp [rowD]
theorem powered_step {q : Int} {i : Nat} (h1 : -(2 ^ 64) < q) (h2 : q < 2 ^ 64) : mulD (.int (q ^ i)) (.int q) = some (.int (q ^ (i + 1))) := by rw [i_mulR h1 h2, Int.pow_succ]
theorem powered_loop {q : Int} {k : Nat} (h1 : -(2 ^ 64) < q) (h2 : q < 2 ^ 64) : ∃ x s', mFor (W := W0) (tgN 3) (mSet 2 (eBin mulD (eVar 2) (eVar 0))) (rngD 0 k) [.v (.int q), .v (.int k), .v (.int 1), .u] () = some (.nx, [.v (.int q), .v (.int k), .v (.int (q ^ k)), x], s') := by
  obtain ⟨ρ', s', h, x, rfl⟩ := mRng_run (W := W0) (g := tgN 3) (b := mSet 2 (eBin mulD (eVar 2) (eVar 0))) (n := k) (lo := 0) (ρ := [.v (.int q), .v (.int k), .v (.int 1), .u]) (s := ()) (fun i ρ s => ∃ x, ρ = [.v (.int q), .v (.int k), .v (.int (q ^ i)), x]) ⟨.u, by rw [Int.pow_zero]⟩
    (fun i ρ s hi hI => by
      obtain ⟨x, rfl⟩ := hI
      refine ⟨[.v (.int q), .v (.int k), .v (.int (q ^ i)), .v (.int (0 + i))], [.v (.int q), .v (.int k), .v (.int (q ^ (i + 1))), .v (.int (0 + i))], s, rfl, ?_, .v (.int (0 + i)), rfl⟩
      simp [powered_step h1 h2])
  exact ⟨x, s', h⟩
theorem powered_int {q : Int} {k : Nat} (h1 : -(2 ^ 64) < q) (h2 : q < 2 ^ 64) (hk : k ≤ 1000000) : f_powered [.int q, .int k] = some (.int (q ^ k)) := by
  obtain ⟨x, s', h⟩ := powered_loop (k := k) h1 h2
  have hk0 := rng1_nat (n := k) (by omega)
  simp -implicitDefEqProofs [f_powered, m_powered, runP, resD, startE, h, hk0]
theorem line_by_rule {p q : Int} (S : Small p q) {n : Nat} (hn : n ≤ 1000000) : f_line_by [Rl p q, .int n] = some (.lst (rowD (Lu.U p q) (n + 1))) := by
  have h1 := S.pl; have h2 := S.ph; have h3 := S.ql; have h4 := S.qh
  obtain ⟨ρ', s', h, m, rfl, hm, hm2⟩ := mWh_run (W := W0) (t := toB (eBin leD (eLenL (lOwn 4)) (eVar 1))) (b := mApp 4 (eBin subD (eBin mulD (eVar 2) (eIdxL (lOwn 4) (eUn negD (eC (.int 1))))) (eBin mulD (eVar 3) (eIdxL (lOwn 4) (eUn negD (eC (.int 2)))))))
    (fun k ρ s => ∃ m : Nat, k = n + 2 - m ∧ 2 ≤ m ∧ m ≤ n + 2 ∧ ρ = [.v (Rl p q), .v (.int n), .v (.int p), .v (.int q), .ol (rowD (Lu.U p q) m)]) (fun ρ s => ∃ m : Nat, ρ = [.v (Rl p q), .v (.int n), .v (.int p), .v (.int q), .ol (rowD (Lu.U p q) m)] ∧ n + 1 ≤ m ∧ m ≤ n + 2)
    (m := n) (s := ()) (ρ := [.v (Rl p q), .v (.int n), .v (.int p), .v (.int q), .ol [.int 0, .int 1]]) (by omega) ⟨2, by omega, by omega, by omega, rfl⟩ (fun k ρ s hI => by
      obtain ⟨m, rfl, hm, hmn, rfl⟩ := hI
      by_cases c : m ≤ n
      · right
        have x1 := rowD_neg (a := Lu.U p q) (n := m) (k := 1) (by omega) (by omega)
        have x2 := rowD_neg (a := Lu.U p q) (n := m) (k := 2) (by omega) (by omega)
        have e1 := i_mulL (a := p) (b := Lu.U p q (m - 1)) (by omega) (by omega)
        have e2 := i_mulL (a := q) (b := Lu.U p q (m - 2)) (by omega) (by omega)
        have e3 : p * Lu.U p q (m - 1) - q * Lu.U p q (m - 2) = Lu.U p q m := by
          obtain ⟨j, rfl⟩ : ∃ j, m = j + 2 := ⟨m - 2, by omega⟩
          rw [Lu.U_succ]; rfl
        refine ⟨(), _, (), n + 2 - (m + 1), ?_, ?_, ?_, m + 1, rfl, by omega, by omega, rfl⟩
        · simp [rowD_len]; omega
        · simp at x1 x2
          simp [rowD_len, x1, x2, e1, e2, e3, rowD_succ]
          omega
        · omega
      · left
        refine ⟨(), ?_, m, rfl, by omega, by omega⟩
        simp [rowD_len]; omega)
  simp -implicitDefEqProofs [f_line_by, m_line_by, runP, resD, startE, h, frzE, Sl.frz]
  exact rowD_cut (Lu.U p q) (n := n + 1) hm
theorem member_by_rule {p q : Int} (S : Small p q) {n : Nat} (hn : n ≤ 1000000) : f_member_by [Rl p q, .int n] = some (.int (Lu.U p q n)) := by
  have x1 := rowD_neg (a := Lu.U p q) (n := n + 1) (k := 1) (by omega) (by omega)
  simp at x1
  simp -implicitDefEqProofs [f_member_by, m_member_by, runP, resD, startE, line_by_rule S hn, x1]
theorem mate_by_rule {p q : Int} (S : Small p q) {n : Nat} (hn : n < 1000000) : f_mate_by [Rl p q, .int n] = some (.int (Lu.V p q n)) := by
  have h1 := S.pl; have h2 := S.ph; have h3 := S.ql; have h4 := S.qh
  have x1 := rowD_neg (a := Lu.U p q) (n := n + 2) (k := 1) (by omega) (by omega)
  have x2 := rowD_neg (a := Lu.U p q) (n := n + 2) (k := 2) (by omega) (by omega)
  have x3 := L2.atI_nat (xs := [D.int p, .int q]) (j := 0) rfl
  have e1 := i_mulL (a := 2) (b := Lu.U p q (n + 1)) (by omega) (by omega)
  have e2 := i_mulL (a := p) (b := Lu.U p q n) (by omega) (by omega)
  have l := line_by_rule S (n := n + 1) (by omega)
  simp at x1 x2 x3 l
  simp -implicitDefEqProofs [f_mate_by, m_mate_by, runP, resD, startE, l, x1, x2, x3, e1, e2, Lu.V_eq]
end MP
/-! Sp2: members, sums, within. -/
namespace MP
open PySem PySem.Spec PyProof.Rows L2
theorem U_size {p q : Int} (S : Small p q) : ∀ n, (Lu.U p q n).natAbs ≤ 2 ^ (21 * n) ∧ (Lu.U p q (n + 1)).natAbs ≤ 2 ^ (21 * (n + 1))
  | 0 => ⟨by simp [Lu.U], by simp [Lu.U]⟩
  | n + 1 => by
    have ih := U_size S n
    refine ⟨ih.2, ?_⟩
    rw [Lu.U_succ]
    have h1 := S.pl; have h2 := S.ph; have h3 := S.ql; have h4 := S.qh
    have a1 : (p * Lu.U p q (n + 1)).natAbs ≤ 1000000 * 2 ^ (21 * (n + 1)) := by
      rw [Int.natAbs_mul]; exact Nat.mul_le_mul (by omega) ih.2
    have a2 : (q * Lu.U p q n).natAbs ≤ 1000000 * 2 ^ (21 * n) := by
      rw [Int.natAbs_mul]; exact Nat.mul_le_mul (by omega) ih.1
    have a3 : 2 ^ (21 * (n + 1)) = 2097152 * 2 ^ (21 * n) := by rw [show 21 * (n + 1) = 21 * n + 21 by omega, Nat.pow_add, Nat.mul_comm]
    have a4 : 2 ^ (21 * (n + 1 + 1)) = 2097152 * 2 ^ (21 * (n + 1)) := by rw [show 21 * (n + 1 + 1) = 21 * (n + 1) + 21 by omega, Nat.pow_add, Nat.mul_comm]
    rw [a4]
    have a5 := Int.natAbs_sub_le (p * Lu.U p q (n + 1)) (q * Lu.U p q n)
    omega
theorem U_lt {p q : Int} (S : Small p q) {n : Nat} (hn : n ≤ 301) : (Lu.U p q n).natAbs < 2 ^ 6400 := by
  have h := (U_size S n).1
  have h2 : 2 ^ (21 * n) ≤ 2 ^ 6399 := Nat.pow_le_pow_right (by decide) (by omega)
  have h3 : 2 ^ 6399 < 2 ^ 6400 := Nat.pow_lt_pow_right (by decide) (by decide)
  omega
theorem U_mulOk {p q : Int} (S : Small p q) {m n : Nat} (hm : m ≤ 301) (hn : n ≤ 301) : IntMulOk (Lu.U p q m) (Lu.U p q n) := mulOk_of (U_lt S hm) (U_lt S hn) (by decide) (by decide) (by decide)
theorem need_sums {n : Nat} (hn : n ≤ 300) : f_need_n [.int n] = some .non := by
  generalize hz : (n : Int) = z
  have h0 : 0 ≤ z := by omega
  have h1 : z ≤ 300 := by omega
  have e : ∀ (ρ : Env) (s : W0.S), ρ[0]? = some (.v (.int z)) → eChain (W := W0) leD leD (eC (.int 0)) (eVar 0) (eC (.int 300)) ρ s = some (.bl true, s) := fun ρ s h => by
    rw [v_chain (x := .int 0) (y := .int z) (z := .int 300) (s1 := s) (s2 := s) (s3 := s) (b := true) (by simp) (by simp [h]) (by simp [h0]) (by simp)]
    simp [h1]
  simp -implicitDefEqProofs [f_need_n, m_need_n, runP, resD, startE, is_whole_int, e]
section
variable {p q : Int} (R : Lu.Rule p q) (S : Small p q)
include R S
theorem member_rule {n : Nat} (hn : n ≤ 300) : f_member [Rl p q, .int n] = some (.int (Lu.U p q n)) := by
  have e1 := need_n_ok (n := n) (l := 0) (h := 300) (by omega) (by omega)
  simp -implicitDefEqProofs [f_member, m_member, runP, resD, startE, need_rule_rule R S, e1, member_by_rule S (n := n) (by omega)]
theorem mate_rule {n : Nat} (hn : n ≤ 300) : f_mate [Rl p q, .int n] = some (.int (Lu.V p q n)) := by
  have e1 := need_n_ok (n := n) (l := 0) (h := 300) (by omega) (by omega)
  simp -implicitDefEqProofs [f_mate, m_mate, runP, resD, startE, need_rule_rule R S, e1, mate_by_rule S (n := n) (by omega)]
theorem beginning_rule {n : Nat} (hn : n ≤ 300) : f_beginning [Rl p q, .int n] = some (.tup (rowD (Lu.U p q) (n + 1))) := by
  have e1 := need_n_ok (n := n) (l := 0) (h := 300) (by omega) (by omega)
  simp -implicitDefEqProofs [f_beginning, m_beginning, runP, resD, startE, need_rule_rule R S, e1, line_by_rule S (n := n) (by omega)]
omit R in
theorem row_step {a : Nat → Int} (ha : ∀ i, a (i + 2) = p * a (i + 1) - q * a i) {n : Nat} (hn : n ≤ 300) : ∃ x s', mFor (W := W0) (tgN 5) (mApp 4 (eBin subD (eBin mulD (eBin idxD (eVar 0) (eC (.int 0))) (eIdxL (lOwn 4) (eUn negD (eC (.int 1))))) (eBin mulD (eBin idxD (eVar 0) (eC (.int 1))) (eIdxL (lOwn 4) (eUn negD (eC (.int 2))))))) (rngD 0 n)
    [.v (Rl p q), .v (.int (a 0)), .v (.int (a 1)), .v (.int n), .ol [.int (a 0), .int (a 1)], .u] () = some (.nx, [.v (Rl p q), .v (.int (a 0)), .v (.int (a 1)), .v (.int n), .ol (rowD a (n + 2)), x], s') := by
  have h1 := S.pl; have h2 := S.ph; have h3 := S.ql; have h4 := S.qh
  obtain ⟨ρ', s', h, x, rfl⟩ := mRng_run (W := W0) (g := tgN 5) (b := mApp 4 (eBin subD (eBin mulD (eBin idxD (eVar 0) (eC (.int 0))) (eIdxL (lOwn 4) (eUn negD (eC (.int 1))))) (eBin mulD (eBin idxD (eVar 0) (eC (.int 1))) (eIdxL (lOwn 4) (eUn negD (eC (.int 2)))))))
    (n := n) (lo := 0) (ρ := [.v (Rl p q), .v (.int (a 0)), .v (.int (a 1)), .v (.int n), .ol [.int (a 0), .int (a 1)], .u]) (s := ()) (fun i ρ s => ∃ x, ρ = [.v (Rl p q), .v (.int (a 0)), .v (.int (a 1)), .v (.int n), .ol (rowD a (i + 2)), x]) ⟨.u, rfl⟩
    (fun i ρ s hi hI => by
      obtain ⟨x, rfl⟩ := hI
      refine ⟨[.v (Rl p q), .v (.int (a 0)), .v (.int (a 1)), .v (.int n), .ol (rowD a (i + 2)), .v (.int (0 + i))], [.v (Rl p q), .v (.int (a 0)), .v (.int (a 1)), .v (.int n), .ol (rowD a (i + 1 + 2)), .v (.int (0 + i))], s, rfl, ?_, .v (.int (0 + i)), rfl⟩
      have x1 := rowD_neg (a := a) (n := i + 2) (k := 1) (by omega) (by omega)
      have x2 := rowD_neg (a := a) (n := i + 2) (k := 2) (by omega) (by omega)
      have y1 := L2.atI_nat (xs := [D.int p, .int q]) (j := 0) rfl
      have y2 := L2.atI_nat (xs := [D.int p, .int q]) (j := 1) rfl
      have e1 := i_mulL (a := p) (b := a (i + 1)) (by omega) (by omega)
      have e2 := i_mulL (a := q) (b := a i) (by omega) (by omega)
      simp at x1 x2 y1 y2
      have e3 : (rowD a (i + 2)).length < 16777216 := by rw [rowD_len]; omega
      simp [x1, x2, y1, y2, e1, e2, e3, ← ha, rowD_succ a (i + 2)])
  exact ⟨x, s', h⟩
omit R in
theorem row_to_rule {a : Nat → Int} (ha : ∀ i, a (i + 2) = p * a (i + 1) - q * a i) {n : Nat} (hn : n ≤ 300) : f_row_to [Rl p q, .int (a 0), .int (a 1), .int n] = some (.lst (rowD a (n + 1))) := by
  obtain ⟨x, s', h⟩ := row_step S ha hn
  have hk0 := rng1_nat (n := n) (by omega)
  have c := rowD_cut a (n := n + 1) (m := n + 2) (by omega)
  simp at c
  simp -implicitDefEqProofs [f_row_to, m_row_to, runP, resD, startE, hk0, h, frzE, Sl.frz, c]
omit S R in
theorem sum_row (a s : Nat → Int) (h0 : s 0 = 0) (hs : ∀ n, s (n + 1) = s n + a n) : ∀ n, sumD [.lst (rowD a n)] = some (.int (s n)) := fun n => by
  have e : ∀ n, ((List.range n).map a).sum = s n := fun n => by
    induction n with
    | zero => simp [h0]
    | succ n ih => rw [List.range_succ, List.map_append, List.sum_append, ih, hs]; simp
  rw [rowD_map, i_sum, e]
theorem sum_to_rule {n : Nat} (hn : n ≤ 300) : f_sum_to [Rl p q, .int n] = some (.int (Lu.sumU p q (n + 1))) := by
  have e := row_to_rule S (a := Lu.U p q) (fun i => rfl) hn
  rw [Lu.U0, Lu.U1] at e
  simp -implicitDefEqProofs [f_sum_to, m_sum_to, runP, resD, startE, need_rule_rule R S, need_sums hn, e, sum_row (Lu.U p q) (Lu.sumU p q) rfl (fun _ => rfl)]
theorem mates_to_rule {n : Nat} (hn : n ≤ 300) : f_mates_to [Rl p q, .int n] = some (.int (Lu.sumV p q (n + 1))) := by
  have e := row_to_rule S (a := Lu.V p q) (fun i => rfl) hn
  have v0 : Lu.V p q 0 = 2 := rfl
  have v1 : Lu.V p q 1 = p := rfl
  rw [v0, v1] at e
  have y1 := L2.atI_nat (xs := [D.int p, .int q]) (j := 0) rfl
  simp at y1
  simp -implicitDefEqProofs [f_mates_to, m_mates_to, runP, resD, startE, need_rule_rule R S, need_sums hn, e, y1, sum_row (Lu.V p q) (Lu.sumV p q) rfl (fun _ => rfl)]
theorem squares_to_rule {n : Nat} (hn : n ≤ 300) : f_squares_to [Rl p q, .int n] = some (.int (Lu.sqU p q (n + 1))) := by
  have h1 := S.pl; have h2 := S.ph; have h3 := S.ql; have h4 := S.qh
  have e := row_to_rule S (a := Lu.U p q) (fun i => rfl) hn
  rw [Lu.U0, Lu.U1] at e
  obtain ⟨ρ', s', h, x, hρ⟩ := mFor_run (W := W0) (g := tgN 3) (b := mSet 2 (eBin subD (eBin mulD (eVar 3) (eVar 3)) (eBin mulD (eBin idxD (eVar 0) (eC (.int 1))) (eVar 2)))) (ds := rowD (Lu.U p q) (n + 1)) (ρ := [.v (Rl p q), .v (.int n), .v (.int 0), .u]) (s := ())
    (fun i ρ s => ∃ x, ρ = [.v (Rl p q), .v (.int n), .v (.int (Lu.sqU p q i)), x]) ⟨.u, rfl⟩ (fun i ρ s d hd hI => by
      obtain ⟨x, rfl⟩ := hI
      have hi : i < n + 1 := by
        have := (List.getElem?_eq_some_iff.mp hd).1
        rwa [rowD_len] at this
      rw [rowD_get hi] at hd
      cases hd
      refine ⟨[.v (Rl p q), .v (.int n), .v (.int (Lu.sqU p q i)), .v (.int (Lu.U p q i))], [.v (Rl p q), .v (.int n), .v (.int (Lu.sqU p q (i + 1))), .v (.int (Lu.U p q i))], s, rfl, ?_, .v (.int (Lu.U p q i)), rfl⟩
      have y2 := L2.atI_nat (xs := [D.int p, .int q]) (j := 1) rfl
      have e1 := i_mul (U_mulOk S (m := i) (n := i) (by omega) (by omega))
      have e2 := i_mulL (a := q) (b := Lu.sqU p q i) (by omega) (by omega)
      simp at y2
      simp [y2, e1, e2, Lu.sqU])
  rw [rowD_len] at hρ
  subst hρ
  simp -implicitDefEqProofs [f_squares_to, m_squares_to, runP, resD, startE, need_rule_rule R S, need_sums hn, e, h]
end
end MP
/-! Sp3: within, shared. -/
namespace MP
open PySem PySem.Spec PyProof.Rows L2
section
variable {p q : Int} (R : Lu.Rule p q) (S : Small p q)
include S
theorem within_by_rule {k : Nat} (hk : k ≤ 60) : f_within_by [Rl p q, .int k] = some (Rl (Lu.V p q k) (q ^ k)) := by
  have h1 := S.pl; have h2 := S.ph; have h3 := S.ql; have h4 := S.qh
  have y2 := L2.atI_nat (xs := [D.int p, .int q]) (j := 1) rfl
  simp at y2
  have e1 := powered_int (q := q) (k := k) (by omega) (by omega) (by omega)
  have e2 := mate_by_rule S (n := k) (by omega)
  simp -implicitDefEqProofs [f_within_by, m_within_by, runP, resD, startE, y2, e1, e2]
omit S in
theorem is_small_rule (a b : Int) : f_is_small [Rl a b] = some (.bl (decide (max (a.natAbs : Int) (b.natAbs : Int) ≤ 1000000))) := by
  have y1 := L2.atI_nat (xs := [D.int a, .int b]) (j := 0) rfl
  have y2 := L2.atI_nat (xs := [D.int a, .int b]) (j := 1) rfl
  simp at y1 y2
  have e1 := i_abs (a := a)
  simp -implicitDefEqProofs [f_is_small, m_is_small, runP, resD, startE, y1, y2, e1]
omit S in
theorem small_iff {a b : Int} : max (a.natAbs : Int) (b.natAbs : Int) ≤ 1000000 ↔ Small a b := ⟨fun h => ⟨by omega, by omega, by omega, by omega⟩, fun h => by
  have h1 := h.pl; have h2 := h.ph; have h3 := h.ql; have h4 := h.qh
  omega⟩
/-- the rules within, the first m -/
def wD (p q : Int) (m : Nat) : List D := (List.range m).map fun i => Rl (Lu.V p q (i + 1)) (q ^ (i + 1))
omit S in
theorem wD_len (m : Nat) : (wD p q m).length = m := by simp [wD]
omit S in
theorem wD_get {m i : Nat} (h : i < m) : (wD p q m)[i]? = some (Rl (Lu.V p q (i + 1)) (q ^ (i + 1))) := by simp [wD, h]
omit S in
theorem wD_succ (m : Nat) : wD p q (m + 1) = wD p q m ++ [Rl (Lu.V p q (m + 1)) (q ^ (m + 1))] := by simp [wD, List.range_succ]
def bdW : MF W0 := (mSeq (mSet 3 (eCall 2 f_within_by [] (aCons (eVar 0) (aCons (eVar 2) aNil))))
    (mSeq (mIf (tNot1 (toB (eCall 1 f_is_small [] (aCons (eVar 3) aNil)))) mBk mNext)
    (mApp 1 (eVar 3))))
theorem line_within_loop : ∃ (m : Nat) (x y : Sl) (s' : W0.S), mFor (tgN 2) bdW (rngD 1 60) [.v (Rl p q), .ol [], .u, .u] () = some (.nx, [.v (Rl p q), .ol (wD p q m), x, y], s') ∧ 1 ≤ m ∧ m ≤ 60 ∧ ∀ j, j < m → Small (Lu.V p q (j + 1)) (q ^ (j + 1)) := by
  refine mFor_inv (W := W0) (fun i ρ s => i ≤ 60 ∧ (∃ x y, ρ = [.v (Rl p q), .ol (wD p q i), x, y]) ∧ ∀ j, j < i → Small (Lu.V p q (j + 1)) (q ^ (j + 1)))
    (fun r => ∃ (m : Nat) (x y : Sl) (s' : W0.S), r = some (.nx, [.v (Rl p q), .ol (wD p q m), x, y], s') ∧ 1 ≤ m ∧ m ≤ 60 ∧ ∀ j, j < m → Small (Lu.V p q (j + 1)) (q ^ (j + 1))) (rngD 1 60) 0 _ () ⟨by omega, ⟨.u, .u, rfl⟩, fun j h => by omega⟩ (fun i ρ s d hd hI => ?_) (fun ρ s hI => ?_)
  · rw [Nat.zero_add] at hI ⊢
    obtain ⟨hi0, ⟨x, y, rfl⟩, hs⟩ := hI
    have hi : i < 60 := by
      have := (List.getElem?_eq_some_iff.mp hd).1
      rwa [rngD_length] at this
    rw [rngD_get hi] at hd
    cases hd
    have e0 : (1 : Int) + (i : Int) = ((i + 1 : Nat) : Int) := by omega
    rw [e0]
    have e1 := within_by_rule S (k := i + 1) (by omega)
    have e2 := is_small_rule (Lu.V p q (i + 1)) (q ^ (i + 1))
    by_cases c : Small (Lu.V p q (i + 1)) (q ^ (i + 1))
    · rw [decide_eq_true (small_iff.mpr c)] at e2
      refine ⟨[.v (Rl p q), .ol (wD p q i), .v (.int ((i + 1 : Nat) : Int)), y], .nx, [.v (Rl p q), .ol (wD p q (i + 1)), .v (.int ((i + 1 : Nat) : Int)), .v (Rl (Lu.V p q (i + 1)) (q ^ (i + 1)))], s, rfl, ?_, by omega, ⟨_, _, rfl⟩, fun j hj => ?_⟩
      · have e3 : (wD p q i).length < 16777216 := by rw [wD_len]; omega
        simp -implicitDefEqProofs only [bdW, v_seq, v_set, v_call, v_acons, v_var, v_anil, List.getElem?_cons_zero, List.getElem?_cons_succ, Option.bind_some, Option.map_some, List.append_nil, List.length_cons, List.length_nil, Nat.zero_add, Nat.reduceAdd, if_true, e1, e2, v_mif, v_not1, v_toB, Bool.not_true, List.set_cons_succ, List.set_cons_zero, v_next, v_app, szl, e3, wD_succ, Bool.false_eq_true, if_false]
      · by_cases e : j = i
        · subst e; exact c
        · exact hs j (by omega)
    · rw [decide_eq_false (fun z => c (small_iff.mp z))] at e2
      refine ⟨[.v (Rl p q), .ol (wD p q i), .v (.int ((i + 1 : Nat) : Int)), y], .bk, [.v (Rl p q), .ol (wD p q i), .v (.int ((i + 1 : Nat) : Int)), .v (Rl (Lu.V p q (i + 1)) (q ^ (i + 1)))], s, rfl, ?_, i, _, _, s, rfl, ?_, by omega, hs⟩
      · simp -implicitDefEqProofs only [bdW, v_seq, v_set, v_call, v_acons, v_var, v_anil, List.getElem?_cons_zero, List.getElem?_cons_succ, Option.bind_some, Option.map_some, List.append_nil, List.length_cons, List.length_nil, Nat.zero_add, Nat.reduceAdd, if_true, e1, e2, v_mif, v_not1, v_toB, Bool.not_false, List.set_cons_succ, List.set_cons_zero, v_bk]
      · apply Decidable.byContradiction
        intro z
        have e : i = 0 := by omega
        subst e
        apply c
        have v1 : Lu.V p q (0 + 1) = p := rfl
        rw [v1, Int.pow_succ, Int.pow_zero, Int.one_mul]
        exact S
  · rw [rngD_length, Nat.zero_add] at hI
    obtain ⟨_, ⟨x, y, rfl⟩, hs⟩ := hI
    exact ⟨60, x, y, s, rfl, by omega, by omega, hs⟩
theorem line_within_rule : ∃ m : Nat, f_line_within [Rl p q] = some (.lst (wD p q m)) ∧ 1 ≤ m ∧ m ≤ 60 ∧ ∀ j, j < m → Small (Lu.V p q (j + 1)) (q ^ (j + 1)) := by
  obtain ⟨m, x, y, s', h, h1, h2, h3⟩ := line_within_loop S
  refine ⟨m, ?_, h1, h2, h3⟩
  have hk0 := rng2_int (i := 1) (j := 61) (by decide) (by decide) (by decide) (by decide)
  have hk : ((61 : Int) - 1).toNat = 60 := by decide
  rw [hk] at hk0
  simp -implicitDefEqProofs [f_line_within, m_line_within, runP, resD, startE, hk0]
  have h' := h
  unfold bdW at h'
  simp -implicitDefEqProofs only [h', Option.bind_some, Option.map_some, frzE, Sl.frz, List.getElem?_cons_zero, List.getElem?_cons_succ, List.set_cons_succ, List.set_cons_zero, v_frz, v_ret, v_var, Function.comp]
include R
theorem rules_within_rule : ∃ m : Nat, f_rules_within [Rl p q] = some (.tup (wD p q m)) ∧ 1 ≤ m ∧ m ≤ 60 ∧ ∀ j, j < m → Small (Lu.V p q (j + 1)) (q ^ (j + 1)) := by
  obtain ⟨m, h, h1⟩ := line_within_rule S
  exact ⟨m, by simp -implicitDefEqProofs [f_rules_within, m_rules_within, runP, resD, startE, need_rule_rule R S, h], h1⟩
theorem within_member_rule {k n : Nat} (hk : 1 ≤ k) (hk2 : k ≤ 60) (hn : k * n ≤ 300) : f_within_member [Rl p q, .int k, .int n] = some (.int (Lu.U (Lu.V p q k) (q ^ k) n)) := by
  have e0 : DivOk (k : Int) := divOk_of (n := 7) (by omega) (by omega) (by decide) (by decide)
  have e1 := i_div (a := 300) e0
  have e2 : f_need_k [.int k] = some .non := by
    have z := bounds_int k 1 60
    rw [decide_eq_true (by omega)] at z
    simp -implicitDefEqProofs [f_need_k, m_need_k, runP, resD, startE, z]
  have hd : (n : Int) ≤ Int.fdiv 300 k := by
    rw [Int.fdiv_eq_ediv_of_nonneg _ (by omega)]
    have h : n * k ≤ 300 := by rw [Nat.mul_comm]; exact hn
    rw [show ((300 : Int) / (k : Int)) = ((300 / k : Nat) : Int) by rfl]
    have := (Nat.le_div_iff_mul_le (show 0 < k by omega)).mpr h
    omega
  have e3 := need_n_ok (n := n) (l := 0) (h := Int.fdiv 300 k) (by omega) hd
  have em : max (n : Int) 1 = ((max n 1 : Nat) : Int) := by omega
  have e4 := i_mulL (a := (k : Int)) (b := (max n 1 : Nat)) (by omega) (by omega)
  have e4' : (k : Int) * ((max n 1 : Nat) : Int) = ((k * max n 1 : Nat) : Int) := by rw [Int.natCast_mul]
  rw [e4'] at e4
  have hmax : k * max n 1 ≤ 300 := by
    by_cases c : n = 0
    · subst c; simp; omega
    · rw [show max n 1 = n by omega]; exact hn
  have e5 := line_by_rule S (n := k * max n 1) (by omega)
  have e6 := i_mulL (a := (k : Int)) (b := (n : Int)) (by omega) (by omega)
  rw [show (k : Int) * (n : Int) = ((k * n : Nat) : Int) by rw [Int.natCast_mul]] at e6
  have l1 : k * n ≤ k * max n 1 := Nat.mul_le_mul_left _ (by omega)
  have l2 : k ≤ k * max n 1 := Nat.le_mul_of_pos_right _ (by omega)
  have e7 := rowD_at (a := Lu.U p q) (n := k * max n 1 + 1) (i := k * n) (by omega)
  have e8 := rowD_at (a := Lu.U p q) (n := k * max n 1 + 1) (i := k) (by omega)
  have hne := Lu.U_ne R (n := k) (by omega)
  have e9 := i_div (a := Lu.U p q (k * n)) (b := Lu.U p q k) (divOk_of (n := 6400) hne (U_lt S (by omega)) (by decide) (by decide))
  have e10 : (Lu.U p q (k * n)).fdiv (Lu.U p q k) = Lu.U (Lu.V p q k) (q ^ k) n := by
    rw [Lu.U_mul]
    exact Int.mul_fdiv_cancel_left _ hne
  rw [e10] at e9
  simp -implicitDefEqProofs only [f_within_member, m_within_member, runP, resD, startE, List.map_cons, List.map_nil, List.length_cons, List.length_nil, Nat.zero_add, Nat.reduceAdd, Nat.reduceSub, List.replicate_succ, List.replicate_zero, List.cons_append, List.nil_append, v_seq, v_expr, v_set, v_ret, v_call, v_b, v_bin, v_c, v_acons, v_var, v_anil, List.getElem?_cons_zero, List.getElem?_cons_succ, Option.bind_some, Option.map_some, List.append_nil, if_true, need_rule_rule R S, e1, e2, e3, e4, e5, e6, e7, e8, e9, i_max, em, List.set_cons_succ, List.set_cons_zero, i_idl]
end
/-! Euclid's steps -/
def bdE : MF W0 := (mSeq (mAsg (tgTup 2 (tgCons (tgN 3) (tgCons (tgN 4) tgNil))) (eIdxL (lOwn 2) (eUn negD (eC (.int 1)))))
    (mApp 2 (eTup (aCons (eVar 4) (aCons (eBin modD (eVar 3) (eVar 4)) aNil)))))
theorem steps_loop {m n : Nat} (hn : n ≤ 1000000) : ∃ (L : List D) (a b : Sl) (s' : W0.S), mWh (W := W0) (toB (eBin neDD (eBin idxD (eIdxL (lOwn 2) (eUn negD (eC (.int 1)))) (eC (.int 1))) (eC (.int 0)))) bdE [.v (.int m), .v (.int n), .ol [Rl m n], .u, .u] () =
    some (.nx, [.v (.int m), .v (.int n), .ol (L ++ [Rl ((Nat.gcd m n : Nat) : Int) 0]), a, b], s') := by
  obtain ⟨ρ', s', h, L, a, b, rfl⟩ := mWh_run (W := W0) (t := toB (eBin neDD (eBin idxD (eIdxL (lOwn 2) (eUn negD (eC (.int 1)))) (eC (.int 1))) (eC (.int 0)))) (b := bdE)
    (fun k ρ s => ∃ (L : List D) (x y : Nat) (a b : Sl), ρ = [.v (.int m), .v (.int n), .ol (L ++ [Rl (x : Int) (y : Int)]), a, b] ∧ Nat.gcd x y = Nat.gcd m n ∧ k = y ∧ L.length + y ≤ n)
    (fun ρ s => ∃ (L : List D) (a b : Sl), ρ = [.v (.int m), .v (.int n), .ol (L ++ [Rl ((Nat.gcd m n : Nat) : Int) 0]), a, b])
    (m := n) (s := ()) (ρ := [.v (.int m), .v (.int n), .ol [Rl m n], .u, .u]) (by omega) ⟨[], m, n, .u, .u, rfl, rfl, rfl, by simp⟩ (fun k ρ s hI => by
      obtain ⟨L, x, y, a, b, rfl, hg, rfl, hl⟩ := hI
      have e1 := L2.atI_last L (Rl (x : Int) (k : Int))
      have e2 : atI [D.int (x : Int), .int (k : Int)] 1 = some (.int (k : Int)) := L2.atI_nat (xs := [D.int (x : Int), .int (k : Int)]) (j := 1) rfl
      by_cases c : k = 0
      · subst c
        left
        have e3 : Nat.gcd m n = x := by rw [← hg]; simp
        have e1' : atI (L ++ [Rl (x : Int) 0]) (-1) = some (Rl (x : Int) 0) := e1
        have e2' : atI [D.int (x : Int), .int 0] 1 = some (.int 0) := e2
        refine ⟨s, ?_, L, a, b, by rw [e3]; rfl⟩
        simp -implicitDefEqProofs only [v_toB, v_bin, v_idxl, v_lown, v_un, v_c, i_neg, List.getElem?_cons_zero, List.getElem?_cons_succ, Option.bind_some, Option.map_some, e1', e2', i_idt, i_neDD, Int.natCast_zero, decide_true, Bool.not_true]
      · right
        have e4 : (k : Int) ≠ 0 := by omega
        have e5 := i_mod (a := (x : Int)) (b := (k : Int)) e4
        have e6 : (x : Int).fmod (k : Int) = ((x % k : Nat) : Int) := by rw [Int.fmod_eq_emod_of_nonneg _ (by omega)]; rfl
        rw [e6] at e5
        have e7 : x % k < k := Nat.mod_lt _ (by omega)
        have e8 : (L ++ [Rl (x : Int) (k : Int)]).length < 16777216 := by simp; omega
        refine ⟨s, [.v (.int m), .v (.int n), .ol ((L ++ [Rl (x : Int) (k : Int)]) ++ [Rl (k : Int) ((x % k : Nat) : Int)]), .v (.int x), .v (.int k)], s, x % k, ?_, ?_, e7, L ++ [Rl (x : Int) (k : Int)], k, x % k, _, _, rfl, ?_, rfl, ?_⟩
        · simp -implicitDefEqProofs only [v_toB, v_bin, v_idxl, v_lown, v_un, v_c, i_neg, List.getElem?_cons_zero, List.getElem?_cons_succ, Option.bind_some, Option.map_some, e1, e2, i_idt, i_neDD, e4, decide_false, Bool.not_false]
        · simp -implicitDefEqProofs only [bdE, v_seq, v_asg, v_tup2, v_tgcons, v_tgn, v_tgnil, v_app, v_tup, v_acons, v_anil, v_var, v_bin, v_idxl, v_lown, v_un, v_c, i_neg, List.getElem?_cons_zero, List.getElem?_cons_succ, Option.bind_some, Option.map_some, e1, e5, List.length_cons, List.length_nil, Nat.zero_add, Nat.reduceAdd, if_true, List.set_cons_succ, List.set_cons_zero, szl, Nat.reduceLeDiff, e8]
        · rw [← hg, Nat.gcd_comm x k, Nat.gcd_rec k x, Nat.gcd_comm]
        · simp; omega)
  exact ⟨L, a, b, s', h⟩
theorem steps_by_nat {m n : Nat} (hn : n ≤ 1000000) : ∃ L : List D, f_steps_by [.int m, .int n] = some (.lst (L ++ [Rl ((Nat.gcd m n : Nat) : Int) 0])) := by
  obtain ⟨L, a, b, s', h⟩ := steps_loop (m := m) hn
  refine ⟨L, ?_⟩
  unfold bdE at h
  simp -implicitDefEqProofs only [f_steps_by, m_steps_by, runP, resD, startE, List.map_cons, List.map_nil, List.length_cons, List.length_nil, Nat.zero_add, Nat.reduceAdd, Nat.reduceSub, List.replicate_succ, List.replicate_zero, List.cons_append, List.nil_append, v_seq, v_seto, v_ol, v_tup, v_acons, v_anil, v_var, List.getElem?_cons_zero, List.getElem?_cons_succ, Option.bind_some, Option.map_some, szl, Nat.reduceLeDiff, if_true, List.set_cons_succ, List.set_cons_zero, h, v_frz, frzE, Sl.frz, v_ret]
section
variable {p q : Int} (R : Lu.Rule p q) (S : Small p q)
include R S
theorem need_both_rule {m n : Nat} (hm : m ≤ 1000000) (hn : n ≤ 1000000) : f_need_both [Rl p q, .int m, .int n] = some .non := by
  have z1 := bounds_int m 0 1000000000000000000
  have z2 := bounds_int n 0 1000000000000000000
  rw [decide_eq_true (by omega)] at z1 z2
  simp -implicitDefEqProofs [f_need_both, m_need_both, runP, resD, startE, need_rule_rule R S, z1, z2]
theorem shared_rule {m n : Nat} (hm : m ≤ 1000000) (hn : n ≤ 1000000) (hg : Nat.gcd m n ≤ 300) : f_shared [Rl p q, .int m, .int n] = some (.int ((Lu.U p q (Nat.gcd m n)).natAbs : Int)) := by
  obtain ⟨L, h⟩ := steps_by_nat (m := m) hn
  have e1 := L2.atI_last L (Rl ((Nat.gcd m n : Nat) : Int) 0)
  have e2 : atI [D.int ((Nat.gcd m n : Nat) : Int), .int 0] 0 = some (.int ((Nat.gcd m n : Nat) : Int)) := L2.atI_nat (xs := [D.int ((Nat.gcd m n : Nat) : Int), .int 0]) (j := 0) rfl
  have e3 : decide ((300 : Int) < ((Nat.gcd m n : Nat) : Int)) = false := decide_eq_false (by omega)
  have e4 := member_by_rule S (n := Nat.gcd m n) (by omega)
  simp -implicitDefEqProofs only [f_shared, m_shared, runP, resD, startE, List.map_cons, List.map_nil, List.length_cons, List.length_nil, Nat.zero_add, Nat.reduceAdd, Nat.reduceSub, List.replicate_succ, List.replicate_zero, List.cons_append, List.nil_append, v_seq, v_expr, v_set, v_ret, v_call, v_b, v_bin, v_un, i_neg, v_c, v_acons, v_var, v_anil, List.getElem?_cons_zero, List.getElem?_cons_succ, Option.bind_some, Option.map_some, List.append_nil, if_true, need_both_rule R S hm hn, h, i_idl, i_idt, e1, e2, e4, v_mif, v_toB, i_cmp, e3, Bool.false_eq_true, if_false, v_next, List.set_cons_succ, List.set_cons_zero, i_abs]
end
end MP
/-! Sp4: the draws. -/
namespace MP
open PySem PySem.Spec PyProof.Rows L2
structure Good (s : DrawS) : Prop where
  few : s.cells.length ≤ 63
  pos : 0 ≤ s.whole
theorem v_eDrw {a : Addr} {i : Nat} {g : DrawS → D} {ρ : Env} {s : DrawS} (h : ρ[i]? = some (.v (.obj a))) : eDrw a i g ρ s = some (g s, s) := by
  unfold eDrw isDraw
  rw [h]
  simp
theorem v_mDrw {a : Addr} {i : Nat} {u : DrawS → Int → DrawS} {f : EF (WD a) D} {ρ : Env} {s s' : DrawS} {z : Int} (h : ρ[i]? = some (.v (.obj a))) (hf : f ρ s = some (.int z, s')) : mDrw a i u f ρ s = some (.nx, ρ, u s' z) := by
  unfold mDrw
  rw [hf]
  unfold isDraw
  simp [h]
theorem log2_size (n : Nat) : n < 2 ^ (n.log2 + 1) := by
  by_cases h : n = 0
  · subst h; decide
  · exact Nat.lt_log2_self
theorem size_of_bits {z : Int} {k : Nat} (h : Builtin.Int.intBits z ≤ k) : z.natAbs < 2 ^ k := by
  unfold Builtin.Int.intBits at h
  split at h
  · rename_i c
    have : z = 0 := by simpa using c
    subst this
    exact Nat.pow_pos (by decide)
  · exact Nat.lt_of_lt_of_le (log2_size _) (Nat.pow_le_pow_right (by decide) h)
theorem grow_bits {K e : Nat} {w z t : Int} (hw0 : 0 ≤ w) (hw : w.natAbs < 2 ^ e) (hz : z.natAbs < 2 ^ K) (ht : 1 ≤ t) (h : t ≤ z) :
    0 ≤ w * (z - t + 1) + (z - t) ∧ (w * (z - t + 1) + (z - t)).natAbs < 2 ^ (e + K) := by
  have h1 : 0 ≤ w * (z - t + 1) := Int.mul_nonneg hw0 (by omega)
  have h2 : 0 ≤ w * (z - t + 1) + (z - t) := by omega
  refine ⟨h2, ?_⟩
  have e1 : w * (z - t + 1) + (z - t) + 1 = (w + 1) * (z - t + 1) := by grind
  have e2 : (w * (z - t + 1) + (z - t)).natAbs + 1 = (w + 1).natAbs * (z - t + 1).natAbs := by
    rw [← Int.natAbs_mul, ← e1]; omega
  have h3 : (w + 1).natAbs * (z - t + 1).natAbs ≤ 2 ^ e * 2 ^ K := Nat.mul_le_mul (by omega) (by omega)
  rw [← Nat.pow_add] at h3
  omega
def bdB : MF W0 := (mIf (toB (eIsi "int" (eVar 3))) (mSeq (mIf (toB (eBin geD (eVar 3) (eBin powD (eC (.int 10)) (eC (.int 18))))) (mSet 1 (eBin addD (eBin mulD (eVar 1) (eBin addD (eBin subD (eVar 3) (eBin powD (eC (.int 10)) (eC (.int 18)))) (eC (.int 1)))) (eBin subD (eVar 3) (eBin powD (eC (.int 10)) (eC (.int 18)))))) mNext)
    (mApp 2 (eVar 3))) mNext)
theorem begun_loop {ns : List Int} {K : Nat} (hK : 0 < K) (hK2 : K * 64 + K + 2 ≤ 134000000) (hl : ns.length ≤ 63) (hz : ∀ z ∈ ns, z.natAbs < 2 ^ K) (r : Sl) :
    ∃ (w : Int) (x : Sl) (s' : W0.S), mFor (tgN 3) bdB (ns.map D.int) [r, .v (.int 0), .ol [], .u] () = some (.nx, [r, .v (.int w), .ol (ns.map D.int), x], s') ∧ 0 ≤ w := by
  obtain ⟨ρ', s', h, w, x, hρ, hw, _⟩ := mFor_run (W := W0) (g := tgN 3) (b := bdB) (ds := ns.map D.int) (ρ := [r, .v (.int 0), .ol [], .u]) (s := ())
    (fun i ρ s => ∃ (w : Int) (x : Sl), ρ = [r, .v (.int w), .ol ((ns.take i).map D.int), x] ∧ 0 ≤ w ∧ w.natAbs < 2 ^ (K * i)) ⟨0, .u, by simp, by omega, by simp⟩ (fun i ρ s d hd hI => by
      obtain ⟨w, x, rfl, hw, hw2⟩ := hI
      have hi : i < ns.length := by
        have := (List.getElem?_eq_some_iff.mp hd).1
        rwa [List.length_map] at this
      rw [List.getElem?_map, List.getElem?_eq_getElem hi] at hd
      have hmem : ns[i] ∈ ns := List.getElem_mem hi
      have ht : (ns.take (i + 1)).map D.int = (ns.take i).map D.int ++ [.int ns[i]] := by
        rw [List.take_succ_eq_append_getElem hi, List.map_append]; rfl
      revert hd hmem ht
      generalize ns[i] = z
      intro hd hmem ht
      cases hd
      have hzb := hz z hmem
      have e10 : powD (.int 10) (.int 18) = some (.int 1000000000000000000) := by
        rw [i_pow (by decide)]; rfl
      have hlen : ((ns.take i).map D.int).length < 16777216 := by
        rw [List.length_map, List.length_take]; omega
      by_cases c : 1000000000000000000 ≤ z
      · have g := grow_bits (K := K) (e := K * i) hw hw2 hzb (t := 1000000000000000000) (by decide) c
        have h1 : w.natAbs < 2 ^ (K * i + 1) := Nat.lt_of_lt_of_le hw2 (Nat.pow_le_pow_right (by decide) (by omega))
        have h2 : (z - 1000000000000000000 + 1).natAbs < 2 ^ K := by omega
        have h4 : K * i ≤ K * 62 := Nat.mul_le_mul_left _ (by omega)
        have h3 := i_mul (mulOk_of h1 h2 (by omega) hK (by omega))
        refine ⟨[r, .v (.int w), .ol ((ns.take i).map D.int), .v (.int z)], [r, .v (.int (w * (z - 1000000000000000000 + 1) + (z - 1000000000000000000))), .ol ((ns.take i).map D.int ++ [.int z]), .v (.int z)], s, rfl, ?_, _, _, by rw [ht], g.1, ?_⟩
        · simp -implicitDefEqProofs only [bdB, v_mif, v_toB, v_isi, v_var, List.getElem?_cons_zero, List.getElem?_cons_succ, Option.bind_some, Option.map_some, i_isint, if_true, v_seq, v_bin, v_c, e10, i_cmp, decide_eq_true c, v_set, i_sub, i_add, h3, List.set_cons_succ, List.set_cons_zero, v_app, szl, hlen]
        · rw [Nat.mul_add, Nat.mul_one]; exact g.2
      · refine ⟨[r, .v (.int w), .ol ((ns.take i).map D.int), .v (.int z)], [r, .v (.int w), .ol ((ns.take i).map D.int ++ [.int z]), .v (.int z)], s, rfl, ?_, _, _, by rw [ht], hw, ?_⟩
        · simp -implicitDefEqProofs only [bdB, v_mif, v_toB, v_isi, v_var, List.getElem?_cons_zero, List.getElem?_cons_succ, Option.bind_some, Option.map_some, i_isint, if_true, v_seq, v_bin, v_c, e10, i_cmp, decide_eq_false c, Bool.false_eq_true, if_false, v_next, List.set_cons_succ, List.set_cons_zero, v_app, szl, hlen]
        · exact Nat.lt_of_lt_of_le hw2 (Nat.pow_le_pow_right (by decide) (Nat.mul_le_mul_left _ (by omega))))
  subst hρ
  rw [List.length_map, List.take_length] at h
  exact ⟨w, x, s', h, hw⟩
theorem begun_rule {ns : List Int} (hl : ns.length ≤ 63) (hz : ∀ z ∈ ns, Builtin.Int.intBits z ≤ 1048576) : ∃ s, f_f_law_begun ns = some s ∧ Good s := by
  obtain ⟨w, x, s', h, hw⟩ := begun_loop (K := 1048576) (by decide) (by decide) hl (fun z hm => size_of_bits (hz z hm)) (.v (.rol (ns.map D.int)))
  refine ⟨⟨w, ns, 0⟩, ?_, hl, hw⟩
  unfold bdB at h
  simp -implicitDefEqProofs only [f_f_law_begun, m_f_law_begun, runB, startE, List.map_cons, List.map_nil, List.length_cons, List.length_nil, Nat.zero_add, Nat.reduceAdd, Nat.reduceSub, List.replicate_succ, List.replicate_zero, List.cons_append, List.nil_append, bCons, v_paro, v_o2cons, v_o2nil, v_ov, v_ol, v_c, v_anil, szl, Nat.zero_le, if_true, Option.bind_some, Option.map_some, setsE, List.set_cons_succ, List.set_cons_zero, v_fors, v_lof, v_var, List.getElem?_cons_zero, List.getElem?_cons_succ, h, bFrz, frzE, Sl.frz, bRet, oDisp, v_acons, drawOf, intsOf_map]
theorem take_next {a : Addr} {s : DrawS} (h : Good s) : ∃ z, 0 ≤ z ∧ z < 4611686018427387904 ∧ f_f_law_mixed a [.obj a] s = some (.int z, { s with count := s.count + 1 }) := by
  obtain ⟨cells, hc⟩ : ∃ cells, cells = s.cells ++ [s.count + 1] := ⟨_, rfl⟩
  have hl : 0 < cells.length := by rw [hc]; simp
  obtain ⟨ρ', s', hr, z, x, rfl, rfl, hz⟩ := mFor_run (W := WD a) (g := tgN 2) (b := (mSeq (mSet 1 (eBin modD (eB intD (aCons (eBin mulD (eBin addD (eVar 1) (eVar 2)) (eC (.int 1099511628211))) aNil)) (eBin subD (eBin powD (eC (.int 2)) (eC (.int 61))) (eC (.int 1)))))
    (mSet 1 (eBin addD (eVar 1) (eBin fdivD (eVar 1) (eBin powD (eC (.int 2)) (eC (.int 17)))))))) (ds := cells.map D.int) (ρ := [.v (.obj a), .v (.int (1469598103934665603 + 97 * (s.count + 1))), .u]) (s := ({ s with count := s.count + 1 } : DrawS))
    (fun i ρ t => ∃ (z : Int) (x : Sl), ρ = [.v (.obj a), .v (.int z), x] ∧ t = ({ s with count := s.count + 1 } : DrawS) ∧ (0 < i → 0 ≤ z ∧ z < 4611686018427387904)) ⟨_, _, rfl, rfl, fun h => absurd h (by decide)⟩ (fun i ρ t d hd hI => by
      obtain ⟨z, x, rfl, rfl, _⟩ := hI
      have hi : i < cells.length := by
        have := (List.getElem?_eq_some_iff.mp hd).1
        rwa [List.length_map] at this
      rw [List.getElem?_map, List.getElem?_eq_getElem hi] at hd
      revert hd
      generalize cells[i] = y
      intro hd
      cases hd
      have e1 := i_mulR (a := z + y) (b := 1099511628211) (by decide) (by decide)
      have p61 : powD (.int 2) (.int 61) = some (.int 2305843009213693952) := by rw [i_pow (by decide)]; rfl
      have p17 : powD (.int 2) (.int 17) = some (.int 131072) := by rw [i_pow (by decide)]; rfl
      have e2 := i_mod (a := (z + y) * 1099511628211) (b := 2305843009213693951) (by decide)
      have e61 : (2305843009213693952 : Int) - 1 = 2305843009213693951 := by decide
      have m1 := Int.fmod_nonneg_of_pos ((z + y) * 1099511628211) (b := 2305843009213693951) (by decide)
      have m2 := Int.fmod_lt_of_pos ((z + y) * 1099511628211) (b := 2305843009213693951) (by decide)
      revert e2 m1 m2
      generalize Int.fmod ((z + y) * 1099511628211) 2305843009213693951 = u
      intro e2 m1 m2
      have e3 := i_div (a := u) (b := 131072) (by decide)
      have e4 : u.fdiv 131072 = u / 131072 := Int.fdiv_eq_ediv_of_nonneg _ (by decide)
      rw [e4] at e3
      refine ⟨[.v (.obj a), .v (.int z), .v (.int y)], [.v (.obj a), .v (.int (u + u / 131072)), .v (.int y)], _, rfl, ?_, _, _, rfl, rfl, fun _ => by omega⟩
      simp -implicitDefEqProofs only [v_seq, v_set, v_bin, v_b, v_acons, v_anil, v_var, v_c, List.getElem?_cons_zero, List.getElem?_cons_succ, Option.bind_some, Option.map_some, i_add, e1, i_int, p61, p17, i_sub, e61, e2, e3, List.set_cons_succ, List.set_cons_zero])
  rw [List.length_map] at hz
  refine ⟨z, (hz hl).1, (hz hl).2, ?_⟩
  have e1 := i_mulL (a := 97) (b := s.count + 1) (by decide) (by decide)
  have e2 : addD (.lst (s.cells.map D.int)) (.lst [.int (s.count + 1)]) = some (.lst (cells.map D.int)) := by
    show (if _ then _ else _) = _
    rw [if_pos (by rw [szl, List.length_map]; have := h.few; simp; omega), hc, List.map_append]
    rfl
  have d1 : mDrw a 0 (fun s z => { s with count := z }) (eBin addD (eDrw a 0 fun s => .int s.count) (eC (.int 1))) [.v (.obj a), .u, .u] s = some (.nx, [.v (.obj a), .u, .u], { s with count := s.count + 1 }) :=
    v_mDrw rfl (by rw [v_bin, v_eDrw rfl]; rfl)
  have d2 : ∀ (y x : Sl) (t : DrawS), eDrw a 0 (fun s => .int s.count) [.v (.obj a), y, x] t = some (.int t.count, t) := fun y x t => v_eDrw rfl
  have d3 : ∀ (y x : Sl) (t : DrawS), eDrw a 0 (fun s => .lst (s.cells.map D.int)) [.v (.obj a), y, x] t = some (.lst (t.cells.map D.int), t) := fun y x t => v_eDrw rfl
  simp -implicitDefEqProofs only [f_f_law_mixed, m_f_law_mixed, runW, resD, startE, List.map_cons, List.map_nil, List.length_cons, List.length_nil, Nat.zero_add, Nat.reduceAdd, Nat.reduceSub, List.replicate_succ, List.replicate_zero, List.cons_append, List.nil_append, v_seq, d1, d2, d3, Option.bind_some, v_set, v_bin, v_c, e1, i_add, Option.map_some, List.set_cons_succ, List.set_cons_zero, v_fors, v_lof, v_lst, v_acons, v_anil, szl, Nat.reduceLeDiff, if_true, e2, hr, v_ret, v_var, List.getElem?_cons_zero, List.getElem?_cons_succ]
theorem mWh_no {W : Wd} {t : EF W Bool} {b : MF W} {ρ : Env} {s s1 : W.S} (h : t ρ s = some (false, s1)) : mWh t b ρ s = some (.nx, ρ, s1) := by
  obtain ⟨ρ', s', h1, h2, h3⟩ := mWh_run (t := t) (b := b) (fun m ρ' s' => ρ' = ρ ∧ s' = s) (fun ρ' s' => ρ' = ρ ∧ s' = s1) (m := 0) (by decide) ⟨rfl, rfl⟩ (fun m ρ' s' hI => by
    obtain ⟨rfl, rfl⟩ := hI
    exact .inl ⟨s1, h, rfl, rfl⟩)
  rw [h1, h2, h3]
theorem take_ok {a : Addr} {s : DrawS} {n : Int} (h : Good s) (hn : n ≤ 1125899906842624) : ∃ r s', f_f_law_take a [.obj a, .int n] s = some (.int r, s') ∧ Good s' ∧ 0 ≤ r ∧ (r < n ∨ r = 0) := by
  have d2 : ∀ (y x : Sl) (t : DrawS), eDrw a 0 (fun s => .int s.whole) [.v (.obj a), y, x] t = some (.int t.whole, t) := fun y x t => v_eDrw rfl
  by_cases c : n < 2
  · refine ⟨0, s, ?_, h, by omega, .inr rfl⟩
    simp -implicitDefEqProofs only [f_f_law_take, m_f_law_take, runW, resD, startE, List.map_cons, List.map_nil, List.length_cons, List.length_nil, Nat.zero_add, Nat.reduceAdd, Nat.reduceSub, List.replicate_succ, List.replicate_zero, List.cons_append, List.nil_append, v_seq, v_mif, v_toB, v_bin, v_var, v_c, List.getElem?_cons_zero, List.getElem?_cons_succ, Option.bind_some, Option.map_some, i_cmp, decide_eq_true c, if_true, v_ret]
  · have m1 := Int.fmod_nonneg_of_pos s.whole (b := n) (by omega)
    have m2 := Int.fmod_lt_of_pos s.whole (b := n) (by omega)
    by_cases c2 : 0 < s.whole
    · have e1 := i_mod (a := s.whole) (b := n) (by omega)
      have e2 := i_div (a := s.whole) (b := n) (divOk_of (n := 51) (by omega) (by omega) (by decide) (by decide))
      refine ⟨s.whole.fmod n, { s with whole := s.whole.fdiv n }, ?_, ⟨h.few, ?_⟩, m1, .inl m2⟩
      · have d1 : ∀ y x : Sl, mDrw a 0 (fun s z => { s with whole := z }) (eBin fdivD (eDrw a 0 fun s => .int s.whole) (eVar 1)) [.v (.obj a), .v (.int n), x] s = some (.nx, [.v (.obj a), .v (.int n), x], { s with whole := s.whole.fdiv n }) := fun y x =>
          v_mDrw rfl (by rw [v_bin, v_eDrw rfl]; simp -implicitDefEqProofs only [v_var, List.getElem?_cons_zero, List.getElem?_cons_succ, Option.bind_some, Option.map_some, e2])
        simp -implicitDefEqProofs only [f_f_law_take, m_f_law_take, runW, resD, startE, List.map_cons, List.map_nil, List.length_cons, List.length_nil, Nat.zero_add, Nat.reduceAdd, Nat.reduceSub, List.replicate_succ, List.replicate_zero, List.cons_append, List.nil_append, v_seq, v_mif, v_toB, v_bin, v_var, v_c, List.getElem?_cons_zero, List.getElem?_cons_succ, Option.bind_some, Option.map_some, i_cmp, decide_eq_false c, Bool.false_eq_true, if_false, v_next, d2, decide_eq_true c2, if_true, v_ret, v_set, v_b, v_acons, v_anil, i_int, e1, List.set_cons_succ, List.set_cons_zero, d1 .u]
      · show 0 ≤ s.whole.fdiv n
        rw [Int.fdiv_eq_ediv_of_nonneg _ (by omega)]
        exact Int.ediv_nonneg h.pos (by omega)
    · obtain ⟨z, hz0, hz1, hz⟩ := take_next (a := a) h
      have p50 : powD (.int 2) (.int 50) = some (.int 1125899906842624) := by rw [i_pow (by decide)]; rfl
      have w : ∀ (b : MF (WD a)) (s1 : DrawS), mWh (tAnd2 (toB (eBin gtD (eVar 1) (eBin powD (eC (.int 2)) (eC (.int 50))))) (toB (eBin ltD (eVar 2) (eBin mulD (eVar 1) (eVar 1))))) b [.v (.obj a), .v (.int n), .v (.int z)] s1 = some (.nx, [.v (.obj a), .v (.int n), .v (.int z)], s1) := fun b s1 => by
        have c3 : ¬ (1125899906842624 < n) := by omega
        refine mWh_no ?_
        simp -implicitDefEqProofs only [v_and2, v_toB, v_bin, v_var, v_c, List.getElem?_cons_zero, List.getElem?_cons_succ, Option.bind_some, Option.map_some, p50, i_cmp, decide_eq_false c3, Bool.false_eq_true, if_false]
      have e1 := i_div (a := z) (b := 1024) (by decide)
      have e2 := i_mod (a := z.fdiv 1024) (b := n) (by omega)
      refine ⟨(z.fdiv 1024).fmod n, { s with count := s.count + 1 }, ?_, ⟨h.few, h.pos⟩, Int.fmod_nonneg_of_pos _ (by omega), .inl (Int.fmod_lt_of_pos _ (by omega))⟩
      simp -implicitDefEqProofs only [f_f_law_take, m_f_law_take, runW, resD, startE, List.map_cons, List.map_nil, List.length_cons, List.length_nil, Nat.zero_add, Nat.reduceAdd, Nat.reduceSub, List.replicate_succ, List.replicate_zero, List.cons_append, List.nil_append, v_seq, v_mif, v_toB, v_bin, v_var, v_c, List.getElem?_cons_zero, List.getElem?_cons_succ, Option.bind_some, Option.map_some, i_cmp, decide_eq_false c, Bool.false_eq_true, if_false, v_next, d2, decide_eq_false c2, v_ret, v_set, v_b, v_acons, v_anil, i_int, e1, e2, v_callW, List.append_nil, if_true, hz, w, List.set_cons_succ, List.set_cons_zero]
theorem pick_ok {a : Addr} {s : DrawS} {ds : List D} (h : Good s) (h1 : 0 < ds.length) (h2 : ds.length ≤ 1000000) : ∃ (d : D) (s' : DrawS), d ∈ ds ∧ f_f_law_pick a [.obj a, .lst ds] s = some (d, s') ∧ Good s' := by
  obtain ⟨r, s', e, g, r0, r1⟩ := take_ok (a := a) (n := ds.length) h (by omega)
  obtain ⟨j, rfl⟩ : ∃ j : Nat, r = j := ⟨r.toNat, by omega⟩
  have hj : j < ds.length := by omega
  have e2 := L2.atI_nat (List.getElem?_eq_getElem hj)
  refine ⟨ds[j], s', List.getElem_mem hj, ?_, g⟩
  simp -implicitDefEqProofs only [f_f_law_pick, m_f_law_pick, runW, resD, startE, List.map_cons, List.map_nil, List.length_cons, List.length_nil, Nat.zero_add, Nat.reduceAdd, Nat.reduceSub, List.replicate_succ, List.replicate_zero, List.cons_append, List.nil_append, v_ret, v_bin, v_var, v_callW, v_acons, v_anil, v_b, i_lenl, List.getElem?_cons_zero, List.getElem?_cons_succ, Option.bind_some, Option.map_some, List.append_nil, if_true, e, i_idl, e2]
end MP
/-! Sp5: the drawn rule. -/
namespace MP
open PySem PySem.Spec PyProof.Rows L2
theorem is_number_int (i : Int) : f_f_law_is_number [.int i] = some (.bl true) := by
  simp -implicitDefEqProofs [f_f_law_is_number, m_f_law_is_number, runP, resD, startE]
/-! gcd in 20000 laps -/
theorem gcd_lap {x y i : Nat} (hy : y ≠ 0) (h : y ≤ x ∨ i = 0) (hb : x * y * 2 ^ (i - 1) ≤ 1000000000000) : x % y ≤ y ∧ y * (x % y) * 2 ^ (i + 1 - 1) ≤ 1000000000000 := by
  have h1 : x % y < y := Nat.mod_lt _ (by omega)
  refine ⟨by omega, ?_⟩
  by_cases c : i = 0
  · subst c
    have h2 : x % y ≤ x := Nat.mod_le _ _
    have h3 : y * (x % y) ≤ y * x := Nat.mul_le_mul_left _ h2
    rw [Nat.mul_comm y x] at h3
    simp at hb ⊢
    omega
  · obtain ⟨j, rfl⟩ : ∃ j, i = j + 1 := ⟨i - 1, by omega⟩
    have h2 : 2 * (x % y) ≤ x := by
      have e := Nat.div_add_mod x y
      have d : 1 ≤ x / y := Nat.div_pos (by omega) (by omega)
      have : y * 1 ≤ y * (x / y) := Nat.mul_le_mul_left _ d
      omega
    have h3 : y * (2 * (x % y)) ≤ y * x := Nat.mul_le_mul_left _ h2
    have e1 : y * (x % y) * 2 ^ (j + 1 + 1 - 1) = y * (2 * (x % y)) * 2 ^ (j + 1 - 1) := by
      rw [show j + 1 + 1 - 1 = j + 1 by omega, show j + 1 - 1 = j by omega, Nat.pow_succ]
      grind
    rw [e1]
    refine Nat.le_trans (Nat.mul_le_mul_right _ h3) ?_
    rw [Nat.mul_comm y x]; exact hb
def bdC : MF W0 := (mSeq (mIf (toB (eBin eqDD (eVar 3) (eC (.int 0)))) (mRet (eVar 2)) mNext)
    (mParO [2, 3] (o2Cons (oV (eVar 3)) (o2Cons (oV (eBin modD (eB intD (aCons (eVar 2) aNil)) (eB intD (aCons (eVar 3) aNil)))) o2Nil))))
theorem common_loop {p q : Int} (hp : p.natAbs ≤ 1000000) (hq : q.natAbs ≤ 1000000) : (∃ ρ' s', mFor (tgN 4) bdC (rngD 0 20000) [.v (.int p), .v (.int q), .v (.int p.natAbs), .v (.int q.natAbs), .u] () = some (.rt (.int (Int.gcd p q : Nat)), ρ', s')) ∨
    (∃ y t s', mFor (tgN 4) bdC (rngD 0 20000) [.v (.int p), .v (.int q), .v (.int p.natAbs), .v (.int q.natAbs), .u] () = some (.nx, [.v (.int p), .v (.int q), .v (.int (Int.gcd p q : Nat)), y, t], s')) := by
  refine mFor_inv (W := W0) (fun i ρ s => ∃ (x y : Nat) (t : Sl), ρ = [.v (.int p), .v (.int q), .v (.int x), .v (.int y), t] ∧ Nat.gcd x y = Int.gcd p q ∧ (y ≤ x ∨ i = 0) ∧ x * y * 2 ^ (i - 1) ≤ 1000000000000)
    (fun r => (∃ ρ' s', r = some (.rt (.int (Int.gcd p q : Nat)), ρ', s')) ∨ (∃ y t s', r = some (.nx, [.v (.int p), .v (.int q), .v (.int (Int.gcd p q : Nat)), y, t], s'))) (rngD 0 20000) 0 _ () ⟨_, _, _, rfl, rfl, .inr rfl, ?_⟩ (fun i ρ s d hd hI => ?_) (fun ρ s hI => ?_)
  · simp
    exact Nat.mul_le_mul hp hq
  · rw [Nat.zero_add] at hI ⊢
    obtain ⟨x, y, t, rfl, hg, ho, hb⟩ := hI
    by_cases c : y = 0
    · subst c
      rw [Nat.gcd_zero_right] at hg
      refine ⟨[.v (.int p), .v (.int q), .v (.int x), .v (.int 0), .v d], .rt (.int x), [.v (.int p), .v (.int q), .v (.int x), .v (.int 0), .v d], s, rfl, ?_, .inl ⟨_, s, by rw [hg]⟩⟩
      simp -implicitDefEqProofs only [bdC, v_seq, v_mif, v_toB, v_bin, v_var, v_c, List.getElem?_cons_zero, List.getElem?_cons_succ, Option.bind_some, Option.map_some, i_eqDD, decide_true, if_true, v_ret]
    · have g := gcd_lap c ho hb
      have e1 := i_mod (a := (x : Int)) (b := (y : Int)) (by omega)
      have e2 : (x : Int).fmod (y : Int) = ((x % y : Nat) : Int) := by rw [Int.fmod_eq_emod_of_nonneg _ (by omega)]; rfl
      rw [e2] at e1
      have e3 : decide ((y : Int) = 0) = false := decide_eq_false (by omega)
      refine ⟨[.v (.int p), .v (.int q), .v (.int x), .v (.int y), .v d], .nx, [.v (.int p), .v (.int q), .v (.int y), .v (.int ((x % y : Nat) : Int)), .v d], s, rfl, ?_, y, x % y, _, rfl, ?_, .inl g.1, g.2⟩
      · simp -implicitDefEqProofs only [bdC, v_seq, v_mif, v_toB, v_bin, v_var, v_c, List.getElem?_cons_zero, List.getElem?_cons_succ, Option.bind_some, Option.map_some, i_eqDD, e3, Bool.false_eq_true, if_false, v_next, v_paro, v_o2cons, v_o2nil, v_ov, v_b, v_acons, v_anil, i_int, e1, setsE, List.set_cons_succ, List.set_cons_zero]
      · rw [← hg, Nat.gcd_comm x y, Nat.gcd_rec y x, Nat.gcd_comm]
  · rw [rngD_length, Nat.zero_add] at hI
    obtain ⟨x, y, t, rfl, hg, ho, hb⟩ := hI
    have hy : y = 0 := by
      apply Decidable.byContradiction
      intro c
      have h1 : 1 * 1 ≤ x * y := Nat.mul_le_mul (by omega) (by omega)
      have h2 : 1 * 2 ^ 40 ≤ x * y * 2 ^ (20000 - 1) := Nat.mul_le_mul h1 (Nat.pow_le_pow_right (by decide) (by decide))
      have h3 : (1000000000000 : Nat) < 1 * 2 ^ 40 := by decide
      omega
    subst hy
    rw [Nat.gcd_zero_right] at hg
    exact .inr ⟨_, t, s, by rw [hg]⟩
theorem common_ok {p q : Int} (hp : p.natAbs ≤ 1000000) (hq : q.natAbs ≤ 1000000) : f_f_law_common [.int p, .int q] = some (.int (Int.gcd p q : Nat)) := by
  have hk : rng1D [.int 20000] = some (rngD 0 20000) := rng1_nat (n := 20000) (by decide)
  have h := common_loop hp hq
  unfold bdC at h
  rcases h with ⟨ρ', s', h⟩ | ⟨y, t, s', h⟩
  all_goals
    simp -implicitDefEqProofs only [f_f_law_common, m_f_law_common, runP, resD, startE, List.map_cons, List.map_nil, List.length_cons, List.length_nil, Nat.zero_add, Nat.reduceAdd, Nat.reduceSub, List.replicate_succ, List.replicate_zero, List.cons_append, List.nil_append, v_seq, v_paro, v_o2cons, v_o2nil, v_ov, v_b, v_acons, v_anil, v_var, v_c, List.getElem?_cons_zero, List.getElem?_cons_succ, Option.bind_some, Option.map_some, i_abs, setsE, List.set_cons_succ, List.set_cons_zero, v_fors, v_rng1, hk, h, v_ret]
theorem e_l0 : neDD (.lst []) (.lst []) = some (.bl false) := by kernel_rfl
theorem e_l1 : neDD (.lst [.int 0]) (.lst []) = some (.bl true) := by kernel_rfl
theorem e_l2 : neDD (.lst [.int 0, .int 0]) (.lst []) = some (.bl true) := by kernel_rfl
theorem law_is_rule_ok {p q : Int} (hp : p.natAbs ≤ 1000000) (hq : q.natAbs ≤ 1000000) : ∃ b, f_f_law_is_rule [Rl p q] = some (.bl b) ∧ (b = true → Lu.Rule p q) := by
  have p6 : powD (.int 10) (.int 6) = some (.int 1000000) := by rw [i_pow (by decide)]; rfl
  have z1 : ∀ x : Int, x.natAbs ≤ 1000000 → decide ((1000000 : Int) < (x.natAbs : Int)) = false := fun x h => decide_eq_false (by omega)
  have zp := z1 p hp
  have zq := z1 q hq
  by_cases c1 : p = 0
  · refine ⟨false, ?_, fun h => nomatch h⟩
    by_cases c2 : q = 0
    · subst c1; subst c2
      simp -implicitDefEqProofs [f_f_law_is_rule, m_f_law_is_rule, runP, resD, startE, lcGo, wipeE, is_number_int, e_l2]
    · subst c1
      simp -implicitDefEqProofs [f_f_law_is_rule, m_f_law_is_rule, runP, resD, startE, lcGo, wipeE, is_number_int, e_l1, c2, p6, show ¬ ((1000000 : Int) < (q.natAbs : Int)) by omega]
  · by_cases c2 : q = 0
    · refine ⟨false, ?_, fun h => nomatch h⟩
      subst c2
      simp -implicitDefEqProofs [f_f_law_is_rule, m_f_law_is_rule, runP, resD, startE, lcGo, wipeE, is_number_int, e_l1, c1, p6, show ¬ ((1000000 : Int) < (p.natAbs : Int)) by omega]
    · have m2 : mulD (.int 2) (.int q) = some (.int (2 * q)) := i_mulL (by decide) (by decide)
      have m3 : mulD (.int 3) (.int q) = some (.int (3 * q)) := i_mulL (by decide) (by decide)
      have m4 : mulD (.int 4) (.int q) = some (.int (4 * q)) := i_mulL (by decide) (by decide)
      have mp : mulD (.int p) (.int p) = some (.int (p * p)) := i_mulL (by omega) (by omega)
      have e := inV_int (p * p) [q, 2 * q, 3 * q, 4 * q]
      simp only [List.map] at e
      refine ⟨decide (Int.gcd p q = 1) && !decide (p * p ∈ [q, 2 * q, 3 * q, 4 * q]), ?_, fun h => ?_⟩
      · have eg : decide (((Int.gcd p q : Nat) : Int) = 1) = decide (Int.gcd p q = 1) := decide_eq_decide.mpr (by omega)
        by_cases c3 : Int.gcd p q = 1
        · simp -implicitDefEqProofs [f_f_law_is_rule, m_f_law_is_rule, runP, resD, startE, lcGo, wipeE, is_number_int, e_l0, c1, c2, p6, show ¬ ((1000000 : Int) < (p.natAbs : Int)) by omega, show ¬ ((1000000 : Int) < (q.natAbs : Int)) by omega, common_ok hp hq, m2, m3, m4, mp, ninDD, inD, flatD, flatDs, seqOf, e, c3]
        · simp -implicitDefEqProofs [f_f_law_is_rule, m_f_law_is_rule, runP, resD, startE, lcGo, wipeE, is_number_int, e_l0, c1, c2, p6, show ¬ ((1000000 : Int) < (p.natAbs : Int)) by omega, show ¬ ((1000000 : Int) < (q.natAbs : Int)) by omega, common_ok hp hq, eg, c3]
      · rw [Bool.and_eq_true] at h
        have h2 : ¬ (p * p ∈ [q, 2 * q, 3 * q, 4 * q]) := by simpa using h.2
        simp at h2
        exact ⟨c1, c2, (of_decide_eq_true h.1 : Int.gcd p q = 1), h2.1, h2.2.1, h2.2.2.1, h2.2.2.2⟩
end MP
/-! Sp6: the drawn rule. -/
namespace MP
open PySem PySem.Spec PyProof.Rows L2
abbrev knownD : List D := [Rl 1 (-1), Rl 3 2, Rl 1 2, Rl (-1) 2, Rl 2 (-1), Rl 1 3, Rl 4 1, Rl 1 5, Rl 2 3, Rl 3 (-1), Rl 5 6, Rl 2 11, Rl 1 (-2)]
structure IsRule (d : D) : Prop where
  ex : ∃ p q, d = Rl p q ∧ Lu.Rule p q ∧ Small p q
theorem known_ok : ∀ d ∈ knownD, IsRule d := by
  intro d hd
  simp only [knownD, List.mem_cons, List.not_mem_nil, or_false] at hd
  rcases hd with rfl | rfl | rfl | rfl | rfl | rfl | rfl | rfl | rfl | rfl | rfl | rfl | rfl <;>
    exact ⟨_, _, rfl, ⟨by decide, by decide, by unfold Lu.Cop; decide, by decide, by decide, by decide, by decide⟩, ⟨by decide, by decide, by decide, by decide⟩⟩
def bdR (a : Addr) : MF (WD a) := (mSeq (mParO [6, 7] (o2Cons (oV (eBin subD (eCallW 2 (f_f_law_take a) [] (aCons (eVar 0) (aCons (eBin addD (eBin mulD (eC (.int 2)) (eVar 4)) (eC (.int 1))) aNil))) (eVar 4))) (o2Cons (oV (eCallW 2 (f_f_law_pick a) [] (aCons (eVar 0) (aCons (eLst (aCons (eBin subD (eCallW 2 (f_f_law_take a) [] (aCons (eVar 0) (aCons (eBin addD (eBin mulD (eC (.int 2)) (eVar 4)) (eC (.int 1))) aNil))) (eVar 4)) (aCons (eC (.int 1)) (aCons (eBin subD (eC (.int 0)) (eC (.int 1))) aNil)))) aNil)))) o2Nil)))
    (mIf (tAnd2 (toB (eBin gtD (eVar 2) (eC (.int 0)))) (toB (eCall 1 f_f_law_is_rule [] (aCons (eTup (aCons (eVar 6) (aCons (eVar 7) aNil))) aNil)))) (mRet (eTup (aCons (eVar 6) (aCons (eVar 7) aNil)))) mNext))
theorem rule_loop {a : Addr} {s : DrawS} (h : Good s) (way top : Int) (f : D) (ht : 4 ≤ top) (ht2 : top ≤ 1000000) :
    (∃ d ρ' s', mFor (tgN 5) (bdR a) (rngD 0 20) [.v (.obj a), .v (.lst knownD), .v (.int way), .v f, .v (.int top), .u, .u, .u] s = some (.rt d, ρ', s') ∧ IsRule d ∧ Good s') ∨
    (∃ x y z s', mFor (tgN 5) (bdR a) (rngD 0 20) [.v (.obj a), .v (.lst knownD), .v (.int way), .v f, .v (.int top), .u, .u, .u] s = some (.nx, [.v (.obj a), .v (.lst knownD), .v (.int way), .v f, .v (.int top), x, y, z], s') ∧ Good s') := by
  refine mFor_inv (W := WD a) (fun i ρ s => Good s ∧ ∃ x y z, ρ = [.v (.obj a), .v (.lst knownD), .v (.int way), .v f, .v (.int top), x, y, z])
    (fun r => (∃ d ρ' s', r = some (.rt d, ρ', s') ∧ IsRule d ∧ Good s') ∨ (∃ x y z s', r = some (.nx, [.v (.obj a), .v (.lst knownD), .v (.int way), .v f, .v (.int top), x, y, z], s') ∧ Good s')) (rngD 0 20) 0 _ s ⟨h, _, _, _, rfl⟩ (fun i ρ s d hd hI => ?_) (fun ρ s hI => ?_)
  · obtain ⟨h, x, y, z, rfl⟩ := hI
    obtain ⟨r1, s1, e1, g1, b1, c1⟩ := take_ok (a := a) (n := 2 * top + 1) h (by omega)
    obtain ⟨r2, s2, e2, g2, b2, c2⟩ := take_ok (a := a) (n := 2 * top + 1) g1 (by omega)
    obtain ⟨d3, s3, m3, e3, g3⟩ := pick_ok (a := a) (ds := [.int (r2 - top), .int 1, .int (-1)]) g2 (by simp) (by simp)
    have e4 : ∃ q : Int, d3 = .int q ∧ q.natAbs ≤ 1000000 := by
      simp only [List.mem_cons, List.not_mem_nil, or_false] at m3
      rcases m3 with rfl | rfl | rfl
      · exact ⟨_, rfl, by omega⟩
      · exact ⟨_, rfl, by decide⟩
      · exact ⟨_, rfl, by decide⟩
    obtain ⟨q, rfl, hq⟩ := e4
    have hp : (r1 - top).natAbs ≤ 1000000 := by omega
    obtain ⟨b, e5, hb⟩ := law_is_rule_ok hp hq
    have e6 := i_mulL (a := 2) (b := top) (by decide) (by decide)
    have e7 : (0 : Int) - 1 = -1 := by decide
    by_cases w : 0 < way ∧ b = true
    · obtain ⟨w1, rfl⟩ := w
      refine ⟨[.v (.obj a), .v (.lst knownD), .v (.int way), .v f, .v (.int top), .v d, y, z], .rt (Rl (r1 - top) q), [.v (.obj a), .v (.lst knownD), .v (.int way), .v f, .v (.int top), .v d, .v (.int (r1 - top)), .v (.int q)], s3, rfl, ?_, .inl ⟨_, _, _, rfl, ⟨_, _, rfl, hb rfl, ⟨by omega, by omega, by omega, by omega⟩⟩, g3⟩⟩
      simp -implicitDefEqProofs only [bdR, v_seq, v_paro, v_o2cons, v_o2nil, v_ov, v_bin, v_callW, v_acons, v_anil, v_var, v_c, List.getElem?_cons_zero, List.getElem?_cons_succ, Option.bind_some, Option.map_some, e6, i_add, List.append_nil, List.length_cons, List.length_nil, Nat.zero_add, Nat.reduceAdd, if_true, e1, i_sub, v_lst, e2, e3, e7, szl, Nat.reduceLeDiff, setsE, List.set_cons_succ, List.set_cons_zero, v_mif, v_and2, v_toB, i_cmp, decide_eq_true w1, v_call, v_tup, e5, v_ret]
    · refine ⟨[.v (.obj a), .v (.lst knownD), .v (.int way), .v f, .v (.int top), .v d, y, z], .nx, [.v (.obj a), .v (.lst knownD), .v (.int way), .v f, .v (.int top), .v d, .v (.int (r1 - top)), .v (.int q)], s3, rfl, ?_, g3, _, _, _, rfl⟩
      by_cases w1 : 0 < way
      · have eb : b = false := by cases b with
          | false => rfl
          | true => exact absurd ⟨w1, rfl⟩ w
        subst eb
        simp -implicitDefEqProofs only [bdR, v_seq, v_paro, v_o2cons, v_o2nil, v_ov, v_bin, v_callW, v_acons, v_anil, v_var, v_c, List.getElem?_cons_zero, List.getElem?_cons_succ, Option.bind_some, Option.map_some, e6, i_add, List.append_nil, List.length_cons, List.length_nil, Nat.zero_add, Nat.reduceAdd, if_true, e1, i_sub, v_lst, e2, e3, e7, szl, Nat.reduceLeDiff, setsE, List.set_cons_succ, List.set_cons_zero, v_mif, v_and2, v_toB, i_cmp, decide_eq_true w1, v_call, v_tup, e5, Bool.false_eq_true, if_false, v_next]
      · simp -implicitDefEqProofs only [bdR, v_seq, v_paro, v_o2cons, v_o2nil, v_ov, v_bin, v_callW, v_acons, v_anil, v_var, v_c, List.getElem?_cons_zero, List.getElem?_cons_succ, Option.bind_some, Option.map_some, e6, i_add, List.append_nil, List.length_cons, List.length_nil, Nat.zero_add, Nat.reduceAdd, if_true, e1, i_sub, v_lst, e2, e3, e7, szl, Nat.reduceLeDiff, setsE, List.set_cons_succ, List.set_cons_zero, v_mif, v_and2, v_toB, i_cmp, decide_eq_false w1, Bool.false_eq_true, if_false, v_next]
  · obtain ⟨h, x, y, z, rfl⟩ := hI
    exact .inr ⟨x, y, z, s, rfl, h⟩
theorem rule_ok {a : Addr} {s : DrawS} (h : Good s) : ∃ (p q : Int) (s' : DrawS), f_f_law_rule a [.obj a] s = some (Rl p q, s') ∧ Lu.Rule p q ∧ Small p q ∧ Good s' := by
  obtain ⟨way, s1, e1, g1, _⟩ := take_ok (a := a) (n := 5) h (by decide)
  obtain ⟨d, s2, m2, e2, g2⟩ := pick_ok (a := a) (ds := knownD) g1 (by simp) (by simp)
  obtain ⟨p0, q0, rfl, R0, S0⟩ := (known_ok d m2).ex
  obtain ⟨t, s3, m3, e3, g3⟩ := pick_ok (a := a) (ds := [.int 4, .int 12, .int 40, .int 1000, .int 1000000]) g2 (by simp) (by simp)
  have e4 : ∃ top : Int, t = .int top ∧ 4 ≤ top ∧ top ≤ 1000000 := by
    simp only [List.mem_cons, List.not_mem_nil, or_false] at m3
    rcases m3 with rfl | rfl | rfl | rfl | rfl <;> exact ⟨_, rfl, by decide, by decide⟩
  obtain ⟨top, rfl, t1, t2⟩ := e4
  have p6 : powD (.int 10) (.int 6) = some (.int 1000000) := by rw [i_pow (by decide)]; rfl
  have s01 : (0 : Int) - 1 = -1 := by decide
  have s02 : (0 : Int) - 2 = -2 := by decide
  have hk : rng1D [.int 20] = some (rngD 0 20) := rng1_nat (n := 20) (by decide)
  have hl := rule_loop (a := a) g3 way top (Rl p0 q0) t1 t2
  unfold bdR at hl
  rcases hl with ⟨d, ρ', s', hl, hd, g⟩ | ⟨x, y, z, s', hl, g⟩
  · obtain ⟨p, q, rfl, R, S⟩ := hd.ex
    refine ⟨p, q, s', ?_, R, S, g⟩
    simp -implicitDefEqProofs only [f_f_law_rule, m_f_law_rule, runW, resD, startE, List.map_cons, List.map_nil, List.length_cons, List.length_nil, Nat.zero_add, Nat.reduceAdd, Nat.reduceSub, List.replicate_succ, List.replicate_zero, List.cons_append, List.nil_append, v_seq, v_set, v_lst, v_tup, v_acons, v_anil, v_c, v_bin, i_sub, s01, s02, Option.bind_some, Option.map_some, szl, Nat.reduceLeDiff, if_true, v_paro, v_o2cons, v_o2nil, v_ov, v_callW, v_var, List.getElem?_cons_zero, List.getElem?_cons_succ, List.append_nil, List.set_cons_succ, List.set_cons_zero, e1, e2, setsE, p6, e3, v_fors, v_rng1, hk, hl]
  · refine ⟨p0, q0, s', ?_, R0, S0, g⟩
    simp -implicitDefEqProofs only [f_f_law_rule, m_f_law_rule, runW, resD, startE, List.map_cons, List.map_nil, List.length_cons, List.length_nil, Nat.zero_add, Nat.reduceAdd, Nat.reduceSub, List.replicate_succ, List.replicate_zero, List.cons_append, List.nil_append, v_seq, v_set, v_lst, v_tup, v_acons, v_anil, v_c, v_bin, i_sub, s01, s02, Option.bind_some, Option.map_some, szl, Nat.reduceLeDiff, if_true, v_paro, v_o2cons, v_o2nil, v_ov, v_callW, v_var, List.getElem?_cons_zero, List.getElem?_cons_succ, List.append_nil, List.set_cons_succ, List.set_cons_zero, e1, e2, setsE, p6, e3, v_fors, v_rng1, hk, hl, v_ret]
end MP
/-! Sp7: the law. -/
namespace MP
open PySem PySem.Spec PyProof.Rows L2
theorem pyDs_ints : ∀ ns : List Int, pyDs (ns.map D.int) = some (ns.map PyData.int)
  | [] => rfl
  | n :: ns => by rw [List.map_cons, pyDs, pyDs_ints ns]; rfl
theorem depthAll_ints : ∀ ns : List Int, PyData.depthAll (ns.map PyData.int) = 0
  | [] => by simp [PyData.depthAll]
  | n :: ns => by rw [List.map_cons, PyData.depthAll, depthAll_ints ns]; simp [PyData.depth]
theorem canLay_ints : ∀ ns : List Int, PyData.canLayAll0 (ns.map PyData.int) = true
  | [] => by simp [PyData.canLayAll0]
  | n :: ns => by rw [List.map_cons, PyData.canLayAll0, canLay_ints ns]; simp [PyData.canLay0]
theorem eqD_ints (ns : List Int) : neDD (.lst (ns.map D.int)) (.lst (ns.map D.int)) = some (.bl false) := by
  have c : PyData.canLay0 (.list (ns.map PyData.int)) = true := by rw [PyData.canLay0]; exact canLay_ints ns
  have h : SeqAt.shaped (.list (ns.map PyData.int)) = true := by
    unfold SeqAt.shaped
    rw [c, PyData.depth, depthAll_ints]
    decide
  have e := SeqAt.eqv_refl (.list (ns.map PyData.int)) c
  have ep : pyD (.lst (ns.map D.int)) = some (.list (ns.map PyData.int)) := by rw [pyD, pyDs_ints]; rfl
  simp only [neDD, eqD, ep, Option.bind_some, h, and_self, if_true, e, Option.map_some, Bool.not_true]
section
variable {p q : Int} (R : Lu.Rule p q) (S : Small p q)
include S in
theorem sumU_size : ∀ n, n ≤ 302 → (Lu.sumU p q n).natAbs ≤ n * 2 ^ 6400
  | 0, _ => by simp [Lu.sumU]
  | n + 1, h => by
    have ih := sumU_size n (by omega)
    have h1 := U_lt S (n := n) (by omega)
    rw [Lu.sumU, Nat.add_mul, Nat.one_mul]
    have := Int.natAbs_add_le (Lu.sumU p q n) (Lu.U p q n)
    omega
/-- the loop's third number -/
def mtU (p q : Int) (n i : Nat) : Int := if n < 70 then Lu.sumV p q i else 0
include R S in
theorem law_loop {a : Addr} {n : Nat} (hn : n ≤ 298) (s : DrawS) : ∃ (x : Sl), mFor (W := WD a) (tgN 9) (mParO [6, 7, 8] (o2Cons (oV (eBin addD (eVar 6) (eBin idxD (eVar 5) (eVar 9)))) (o2Cons (oV (eBin subD (eBin mulD (eBin idxD (eVar 5) (eVar 9)) (eBin idxD (eVar 5) (eVar 9))) (eBin mulD (eVar 3) (eVar 7)))) (o2Cons (oV (eIf (toB (eBin ltD (eVar 4) (eC (.int 70)))) (eBin addD (eVar 8) (eCall 2 f_mate [] (aCons (eVar 1) (aCons (eVar 9) aNil)))) (eC (.int 0)))) o2Nil))))
    (rngD 0 (n + 1)) [.v (.obj a), .v (Rl p q), .v (.int p), .v (.int q), .v (.int n), .v (.tup (rowD (Lu.U p q) (n + 2))), .v (.int 0), .v (.int 0), .v (.int 0), .u, .u, .u, .u] s =
    some (.nx, [.v (.obj a), .v (Rl p q), .v (.int p), .v (.int q), .v (.int n), .v (.tup (rowD (Lu.U p q) (n + 2))), .v (.int (Lu.sumU p q (n + 1))), .v (.int (Lu.sqU p q (n + 1))), .v (.int (mtU p q n (n + 1))), x, .u, .u, .u], s) := by
  have h1 := S.pl; have h2 := S.ph; have h3 := S.ql; have h4 := S.qh
  obtain ⟨ρ', s', h, x, hx, hs⟩ := mRng_run (W := WD a) (g := tgN 9) (b := (mParO [6, 7, 8] (o2Cons (oV (eBin addD (eVar 6) (eBin idxD (eVar 5) (eVar 9)))) (o2Cons (oV (eBin subD (eBin mulD (eBin idxD (eVar 5) (eVar 9)) (eBin idxD (eVar 5) (eVar 9))) (eBin mulD (eVar 3) (eVar 7)))) (o2Cons (oV (eIf (toB (eBin ltD (eVar 4) (eC (.int 70)))) (eBin addD (eVar 8) (eCall 2 f_mate [] (aCons (eVar 1) (aCons (eVar 9) aNil)))) (eC (.int 0)))) o2Nil))))) (n := n + 1) (lo := 0)
    (ρ := [.v (.obj a), .v (Rl p q), .v (.int p), .v (.int q), .v (.int n), .v (.tup (rowD (Lu.U p q) (n + 2))), .v (.int 0), .v (.int 0), .v (.int 0), .u, .u, .u, .u]) (s := s)
    (fun i ρ t => ∃ x : Sl, ρ = [.v (.obj a), .v (Rl p q), .v (.int p), .v (.int q), .v (.int n), .v (.tup (rowD (Lu.U p q) (n + 2))), .v (.int (Lu.sumU p q i)), .v (.int (Lu.sqU p q i)), .v (.int (mtU p q n i)), x, .u, .u, .u] ∧ t = s)
    ⟨.u, by unfold mtU; split <;> rfl, rfl⟩ (fun i ρ t hi hI => by
      obtain ⟨x, rfl, rfl⟩ := hI
      have e0 : (0 : Int) + (i : Int) = (i : Int) := by omega
      rw [e0]
      have e1 := rowD_at (a := Lu.U p q) (n := n + 2) (i := i) (by omega)
      have e2 := i_mul (U_mulOk S (m := i) (n := i) (by omega) (by omega))
      have e3 := i_mulL (a := q) (b := Lu.sqU p q i) (by omega) (by omega)
      have e4 := mate_rule R S (n := i) (by omega)
      refine ⟨[.v (.obj a), .v (Rl p q), .v (.int p), .v (.int q), .v (.int n), .v (.tup (rowD (Lu.U p q) (n + 2))), .v (.int (Lu.sumU p q i)), .v (.int (Lu.sqU p q i)), .v (.int (mtU p q n i)), .v (.int i), .u, .u, .u],
        [.v (.obj a), .v (Rl p q), .v (.int p), .v (.int q), .v (.int n), .v (.tup (rowD (Lu.U p q) (n + 2))), .v (.int (Lu.sumU p q (i + 1))), .v (.int (Lu.sqU p q (i + 1))), .v (.int (mtU p q n (i + 1))), .v (.int i), .u, .u, .u], t, rfl, ?_, _, rfl, rfl⟩
      by_cases c : n < 70
      · have c' : decide ((n : Int) < 70) = true := decide_eq_true (by omega)
        have m1 : mtU p q n i = Lu.sumV p q i := if_pos c
        have m2 : mtU p q n (i + 1) = Lu.sumV p q i + Lu.V p q i := (if_pos c).trans rfl
        rw [m1, m2]
        simp -implicitDefEqProofs only [v_paro, v_o2cons, v_o2nil, v_ov, v_bin, v_var, v_c, List.getElem?_cons_zero, List.getElem?_cons_succ, Option.bind_some, Option.map_some, i_idt, e1, i_add, e2, e3, i_sub, v_if, v_toB, i_cmp, c', if_true, v_call, v_acons, v_anil, List.append_nil, List.length_cons, List.length_nil, Nat.zero_add, Nat.reduceAdd, e4, setsE, List.set_cons_succ, List.set_cons_zero, Lu.sumU, Lu.sqU]
      · have c' : decide ((n : Int) < 70) = false := decide_eq_false (by omega)
        have m1 : mtU p q n i = 0 := if_neg c
        have m2 : mtU p q n (i + 1) = 0 := if_neg c
        rw [m1, m2]
        simp -implicitDefEqProofs only [v_paro, v_o2cons, v_o2nil, v_ov, v_bin, v_var, v_c, List.getElem?_cons_zero, List.getElem?_cons_succ, Option.bind_some, Option.map_some, i_idt, e1, i_add, e2, e3, i_sub, v_if, v_toB, i_cmp, c', Bool.false_eq_true, if_false, setsE, List.set_cons_succ, List.set_cons_zero, Lu.sumU, Lu.sqU])
  subst hx; subst hs
  exact ⟨x, h⟩
end
end MP
/-! Sp8: the law's lap. -/
namespace MP
open PySem PySem.Spec PyProof.Rows L2
def rt0 (a : Addr) : MF (WD a) := (mSet 1 (eCallW 1 (f_f_law_rule a) [] (aCons (eVar 0) aNil)))
def rt1 (a : Addr) : MF (WD a) := (mAsg (tgTup 2 (tgCons (tgN 2) (tgCons (tgN 3) tgNil))) (eVar 1))
def rt2 (a : Addr) : MF (WD a) := (mSet 4 (eCallW 2 (f_f_law_take a) [] (aCons (eVar 0) (aCons (eCallW 2 (f_f_law_pick a) [] (aCons (eVar 0) (aCons (eLst (aCons (eC (.int 4)) (aCons (eC (.int 60)) (aCons (eC (.int 299)) aNil)))) aNil))) aNil))))
def rt3 (a : Addr) : MF (WD a) := (mParO [5, 6, 7, 8] (o2Cons (oV (eCall 2 f_beginning [] (aCons (eVar 1) (aCons (eBin addD (eVar 4) (eC (.int 1))) aNil)))) (o2Cons (oV (eC (.int 0))) (o2Cons (oV (eC (.int 0))) (o2Cons (oV (eC (.int 0))) o2Nil)))))
def rt4 (a : Addr) : MF (WD a) := (mForS (sRng1 (aCons (eBin addD (eVar 4) (eC (.int 1))) aNil)) (tgN 9) (mParO [6, 7, 8] (o2Cons (oV (eBin addD (eVar 6) (eBin idxD (eVar 5) (eVar 9)))) (o2Cons (oV (eBin subD (eBin mulD (eBin idxD (eVar 5) (eVar 9)) (eBin idxD (eVar 5) (eVar 9))) (eBin mulD (eVar 3) (eVar 7)))) (o2Cons (oV (eIf (toB (eBin ltD (eVar 4) (eC (.int 70)))) (eBin addD (eVar 8) (eCall 2 f_mate [] (aCons (eVar 1) (aCons (eVar 9) aNil)))) (eC (.int 0)))) o2Nil)))))
def rt5 (a : Addr) : MF (WD a) := (mIf (tOr2 (toB (eBin neDD (eCall 2 f_sum_to [] (aCons (eVar 1) (aCons (eVar 4) aNil))) (eVar 6))) (tOr2 (toB (eBin neDD (eCall 2 f_squares_to [] (aCons (eVar 1) (aCons (eVar 4) aNil))) (eVar 7))) (tAnd2 (toB (eBin ltD (eVar 4) (eC (.int 70)))) (toB (eBin neDD (eCall 2 f_mates_to [] (aCons (eVar 1) (aCons (eVar 4) aNil))) (eVar 8)))))) (mRet (eC (.bl false))) mNext)
def rt6 (a : Addr) : MF (WD a) := (mIf (tOr2 (toB (eBin neDD (eBin mulD (eBin subD (eBin subD (eVar 2) (eVar 3)) (eC (.int 1))) (eVar 6)) (eBin subD (eBin subD (eBin idxD (eVar 5) (eBin addD (eVar 4) (eC (.int 1)))) (eBin mulD (eVar 3) (eBin idxD (eVar 5) (eVar 4)))) (eC (.int 1))))) (tOr2 (toB (eBin neDD (eBin mulD (eVar 2) (eVar 7)) (eBin mulD (eBin idxD (eVar 5) (eVar 4)) (eBin idxD (eVar 5) (eBin addD (eVar 4) (eC (.int 1))))))) (toB (eBin neDD (eBin mulD (eBin subD (eBin subD (eVar 2) (eVar 3)) (eC (.int 1))) (eCall 2 f_mates_to [] (aCons (eVar 1) (aCons (eVar 4) aNil)))) (eBin subD (eBin addD (eBin subD (eCall 2 f_mate [] (aCons (eVar 1) (aCons (eBin addD (eVar 4) (eC (.int 1))) aNil))) (eBin mulD (eVar 3) (eCall 2 f_mate [] (aCons (eVar 1) (aCons (eVar 4) aNil))))) (eVar 2)) (eC (.int 2))))))) (mRet (eC (.bl false))) mNext)
def rt7 (a : Addr) : MF (WD a) := (mSet 10 (eBin addD (eC (.int 1)) (eCallW 2 (f_f_law_take a) [] (aCons (eVar 0) (aCons (eB minD (aCons (eC (.int 5)) (aCons (eB lenD (aCons (eCall 1 f_rules_within [] (aCons (eVar 1) aNil)) aNil)) aNil))) aNil)))))
def rt8 (a : Addr) : MF (WD a) := (mParO [11, 12] (o2Cons (oV (eBin idxD (eCall 1 f_rules_within [] (aCons (eVar 1) aNil)) (eBin subD (eVar 10) (eC (.int 1))))) (o2Cons (oV (eCallW 2 (f_f_law_take a) [] (aCons (eVar 0) (aCons (eBin fdivD (eC (.int 300)) (eVar 10)) aNil)))) o2Nil)))
def rt9 (a : Addr) : MF (WD a) := (mIf (tAnd2 (toB (eBin neDD (eBin mulD (eCall 2 f_sum_to [] (aCons (eVar 11) (aCons (eVar 12) aNil))) (eCall 2 f_member [] (aCons (eVar 1) (aCons (eVar 10) aNil)))) (eB sumD (aCons (eLc [9] (sRng1 (aCons (eBin addD (eB minD (aCons (eVar 12) (aCons (eC (.int 40)) aNil))) (eC (.int 1))) aNil)) (tgN 9) tYesE (eCall 2 f_member [] (aCons (eVar 1) (aCons (eBin mulD (eVar 10) (eVar 9)) aNil)))) aNil)))) (toB (eBin leD (eVar 12) (eC (.int 40))))) (mRet (eC (.bl false))) mNext)
def rt10 (a : Addr) : MF (WD a) := (mIf (toB (eBin neDD (eLc [9] (sRng1 (aCons (eBin addD (eB minD (aCons (eVar 12) (aCons (eC (.int 6)) aNil))) (eC (.int 1))) aNil)) (tgN 9) tYesE (eCall 3 f_within_member [] (aCons (eVar 1) (aCons (eVar 10) (aCons (eVar 9) aNil))))) (eB listD (aCons (eCall 2 f_beginning [] (aCons (eVar 11) (aCons (eB minD (aCons (eVar 12) (aCons (eC (.int 6)) aNil))) aNil))) aNil)))) (mRet (eC (.bl false))) mNext)
def rt11 (a : Addr) : MF (WD a) := (mRet (eOr (eBin eqDD (eVar 4) (eC (.int 0))) (eAnd (eBin eqDD (eCall 3 f_shared [] (aCons (eVar 1) (aCons (eVar 4) (aCons (eBin addD (eVar 4) (eC (.int 1))) aNil)))) (eC (.int 1))) (eBin eqDD (eBin modD (eB intD (aCons (eBin mulD (eVar 2) (eVar 7)) aNil)) (eB intD (aCons (eIf (toB (eBin neDD (eBin idxD (eVar 5) (eVar 4)) (eC (.int 0)))) (eBin idxD (eVar 5) (eVar 4)) (eC (.int 1))) aNil))) (eC (.int 0))))))
theorem right_eq (a : Addr) : m_f_law_right a = mSeq (rt0 a) (mSeq (rt1 a) (mSeq (rt2 a) (mSeq (rt3 a) (mSeq (rt4 a) (mSeq (rt5 a) (mSeq (rt6 a) (mSeq (rt7 a) (mSeq (rt8 a) (mSeq (rt9 a) (mSeq (rt10 a) (rt11 a))))))))))) := rfl
theorem cast1 (n : Nat) : (n : Int) + 1 = ((n + 1 : Nat) : Int) := rfl
theorem rt_start {a : Addr} {s : DrawS} (h : Good s) : ∃ (p q : Int) (n : Nat) (s' : DrawS), Lu.Rule p q ∧ Small p q ∧ n ≤ 298 ∧ Good s' ∧ rt0 a [.v (.obj a), .u, .u, .u, .u, .u, .u, .u, .u, .u, .u, .u, .u] s = some (.nx, [.v (.obj a), .v (Rl p q), .u, .u, .u, .u, .u, .u, .u, .u, .u, .u, .u], s') ∧ ∃ s2, Good s2 ∧
    rt2 a [.v (.obj a), .v (Rl p q), .v (.int p), .v (.int q), .u, .u, .u, .u, .u, .u, .u, .u, .u] s' = some (.nx, [.v (.obj a), .v (Rl p q), .v (.int p), .v (.int q), .v (.int n), .u, .u, .u, .u, .u, .u, .u, .u], s2) := by
  obtain ⟨p, q, s1, e1, R, S, g1⟩ := rule_ok (a := a) h
  obtain ⟨d, s2, m2, e2, g2⟩ := pick_ok (a := a) (ds := [.int 4, .int 60, .int 299]) g1 (by simp) (by simp)
  have e4 : ∃ top : Int, d = .int top ∧ 4 ≤ top ∧ top ≤ 299 := by
    simp only [List.mem_cons, List.not_mem_nil, or_false] at m2
    rcases m2 with rfl | rfl | rfl <;> exact ⟨_, rfl, by decide, by decide⟩
  obtain ⟨top, rfl, t1, t2⟩ := e4
  obtain ⟨r, s3, e3, g3, r0, r1⟩ := take_ok (a := a) (n := top) g2 (by omega)
  obtain ⟨n, rfl⟩ : ∃ n : Nat, r = n := ⟨r.toNat, by omega⟩
  refine ⟨p, q, n, s1, R, S, by omega, g1, ?_, s3, g3, ?_⟩
  · simp -implicitDefEqProofs only [rt0, v_seq, v_set, v_asg, v_paro, v_o2cons, v_o2nil, v_ov, v_ret, v_mif, v_and2, v_or2, v_toB, v_bin, v_b, v_c, v_call, v_callW, v_acons, v_anil, v_var, v_lst, v_tup, v_tup2, v_tgcons, v_tgn, v_tgnil, v_and, v_or, v_if, v_next, List.getElem?_cons_zero, List.getElem?_cons_succ, Option.bind_some, Option.map_some, List.append_nil, List.length_cons, List.length_nil, Nat.zero_add, Nat.reduceAdd, szl, Nat.reduceLeDiff, if_true, setsE, List.set_cons_succ, List.set_cons_zero, i_add, i_sub, i_cmp, i_neDD, i_eqDD, i_int, i_idt, i_min, i_len, i_list, eq_self, decide_true, Bool.not_true, Bool.not_false, Bool.false_eq_true, if_false, e1]
  · simp -implicitDefEqProofs only [rt2, v_seq, v_set, v_asg, v_paro, v_o2cons, v_o2nil, v_ov, v_ret, v_mif, v_and2, v_or2, v_toB, v_bin, v_b, v_c, v_call, v_callW, v_acons, v_anil, v_var, v_lst, v_tup, v_tup2, v_tgcons, v_tgn, v_tgnil, v_and, v_or, v_if, v_next, List.getElem?_cons_zero, List.getElem?_cons_succ, Option.bind_some, Option.map_some, List.append_nil, List.length_cons, List.length_nil, Nat.zero_add, Nat.reduceAdd, szl, Nat.reduceLeDiff, if_true, setsE, List.set_cons_succ, List.set_cons_zero, i_add, i_sub, i_cmp, i_neDD, i_eqDD, i_int, i_idt, i_min, i_len, i_list, eq_self, decide_true, Bool.not_true, Bool.not_false, Bool.false_eq_true, if_false, e2, e3]
section
variable {p q : Int} (R : Lu.Rule p q) (S : Small p q) {a : Addr} {n : Nat} (hn : n ≤ 298) (s : DrawS)
theorem rt1_ok : rt1 a [.v (.obj a), .v (Rl p q), .u, .u, .u, .u, .u, .u, .u, .u, .u, .u, .u] s = some (.nx, [.v (.obj a), .v (Rl p q), .v (.int p), .v (.int q), .u, .u, .u, .u, .u, .u, .u, .u, .u], s) := by
  simp -implicitDefEqProofs only [rt1, v_seq, v_set, v_asg, v_paro, v_o2cons, v_o2nil, v_ov, v_ret, v_mif, v_and2, v_or2, v_toB, v_bin, v_b, v_c, v_call, v_callW, v_acons, v_anil, v_var, v_lst, v_tup, v_tup2, v_tgcons, v_tgn, v_tgnil, v_and, v_or, v_if, v_next, List.getElem?_cons_zero, List.getElem?_cons_succ, Option.bind_some, Option.map_some, List.append_nil, List.length_cons, List.length_nil, Nat.zero_add, Nat.reduceAdd, szl, Nat.reduceLeDiff, if_true, setsE, List.set_cons_succ, List.set_cons_zero, i_add, i_sub, i_cmp, i_neDD, i_eqDD, i_int, i_idt, i_min, i_len, i_list, eq_self, decide_true, Bool.not_true, Bool.not_false, Bool.false_eq_true, if_false]
include R S hn
theorem rt3_ok : rt3 a [.v (.obj a), .v (Rl p q), .v (.int p), .v (.int q), .v (.int n), .u, .u, .u, .u, .u, .u, .u, .u] s = some (.nx, [.v (.obj a), .v (Rl p q), .v (.int p), .v (.int q), .v (.int n), .v (.tup (rowD (Lu.U p q) (n + 2))), .v (.int 0), .v (.int 0), .v (.int 0), .u, .u, .u, .u], s) := by
  have e1 := beginning_rule R S (n := n + 1) (by omega)
  simp -implicitDefEqProofs only [rt3, v_seq, v_set, v_asg, v_paro, v_o2cons, v_o2nil, v_ov, v_ret, v_mif, v_and2, v_or2, v_toB, v_bin, v_b, v_c, v_call, v_callW, v_acons, v_anil, v_var, v_lst, v_tup, v_tup2, v_tgcons, v_tgn, v_tgnil, v_and, v_or, v_if, v_next, List.getElem?_cons_zero, List.getElem?_cons_succ, Option.bind_some, Option.map_some, List.append_nil, List.length_cons, List.length_nil, Nat.zero_add, Nat.reduceAdd, szl, Nat.reduceLeDiff, if_true, setsE, List.set_cons_succ, List.set_cons_zero, i_add, i_sub, i_cmp, i_neDD, i_eqDD, i_int, i_idt, i_min, i_len, i_list, eq_self, decide_true, Bool.not_true, Bool.not_false, Bool.false_eq_true, if_false, cast1, e1]
theorem rt4_ok : ∃ x9, rt4 a [.v (.obj a), .v (Rl p q), .v (.int p), .v (.int q), .v (.int n), .v (.tup (rowD (Lu.U p q) (n + 2))), .v (.int 0), .v (.int 0), .v (.int 0), .u, .u, .u, .u] s = some (.nx, [.v (.obj a), .v (Rl p q), .v (.int p), .v (.int q), .v (.int n), .v (.tup (rowD (Lu.U p q) (n + 2))), .v (.int (Lu.sumU p q (n + 1))), .v (.int (Lu.sqU p q (n + 1))), .v (.int (mtU p q n (n + 1))), x9, .u, .u, .u], s) := by
  obtain ⟨x, h⟩ := law_loop R S (a := a) hn s
  have e1 := rng1_nat (n := n + 1) (by omega)
  exact ⟨x, by simp -implicitDefEqProofs only [rt4, v_fors, v_rng1, v_seq, v_set, v_asg, v_paro, v_o2cons, v_o2nil, v_ov, v_ret, v_mif, v_and2, v_or2, v_toB, v_bin, v_b, v_c, v_call, v_callW, v_acons, v_anil, v_var, v_lst, v_tup, v_tup2, v_tgcons, v_tgn, v_tgnil, v_and, v_or, v_if, v_next, List.getElem?_cons_zero, List.getElem?_cons_succ, Option.bind_some, Option.map_some, List.append_nil, List.length_cons, List.length_nil, Nat.zero_add, Nat.reduceAdd, szl, Nat.reduceLeDiff, if_true, setsE, List.set_cons_succ, List.set_cons_zero, i_add, i_sub, i_cmp, i_neDD, i_eqDD, i_int, i_idt, i_min, i_len, i_list, eq_self, decide_true, Bool.not_true, Bool.not_false, Bool.false_eq_true, if_false, cast1, e1, h]⟩
theorem rt5_ok (x9 x10 x11 x12 : Sl) : rt5 a [.v (.obj a), .v (Rl p q), .v (.int p), .v (.int q), .v (.int n), .v (.tup (rowD (Lu.U p q) (n + 2))), .v (.int (Lu.sumU p q (n + 1))), .v (.int (Lu.sqU p q (n + 1))), .v (.int (mtU p q n (n + 1))), x9, x10, x11, x12] s = some (.nx, [.v (.obj a), .v (Rl p q), .v (.int p), .v (.int q), .v (.int n), .v (.tup (rowD (Lu.U p q) (n + 2))), .v (.int (Lu.sumU p q (n + 1))), .v (.int (Lu.sqU p q (n + 1))), .v (.int (mtU p q n (n + 1))), x9, x10, x11, x12], s) := by
  have e1 := sum_to_rule R S (n := n) (by omega)
  have e2 := squares_to_rule R S (n := n) (by omega)
  have e3 := mates_to_rule R S (n := n) (by omega)
  by_cases c : n < 70
  · have c' : decide ((n : Int) < 70) = true := decide_eq_true (by omega)
    have m1 : mtU p q n (n + 1) = Lu.sumV p q (n + 1) := if_pos c
    rw [m1]
    simp -implicitDefEqProofs only [rt5, v_seq, v_set, v_asg, v_paro, v_o2cons, v_o2nil, v_ov, v_ret, v_mif, v_and2, v_or2, v_toB, v_bin, v_b, v_c, v_call, v_callW, v_acons, v_anil, v_var, v_lst, v_tup, v_tup2, v_tgcons, v_tgn, v_tgnil, v_and, v_or, v_if, v_next, List.getElem?_cons_zero, List.getElem?_cons_succ, Option.bind_some, Option.map_some, List.append_nil, List.length_cons, List.length_nil, Nat.zero_add, Nat.reduceAdd, szl, Nat.reduceLeDiff, if_true, setsE, List.set_cons_succ, List.set_cons_zero, i_add, i_sub, i_cmp, i_neDD, i_eqDD, i_int, i_idt, i_min, i_len, i_list, eq_self, decide_true, Bool.not_true, Bool.not_false, Bool.false_eq_true, if_false, e1, e2, e3, c']
  · have c' : decide ((n : Int) < 70) = false := decide_eq_false (by omega)
    simp -implicitDefEqProofs only [rt5, v_seq, v_set, v_asg, v_paro, v_o2cons, v_o2nil, v_ov, v_ret, v_mif, v_and2, v_or2, v_toB, v_bin, v_b, v_c, v_call, v_callW, v_acons, v_anil, v_var, v_lst, v_tup, v_tup2, v_tgcons, v_tgn, v_tgnil, v_and, v_or, v_if, v_next, List.getElem?_cons_zero, List.getElem?_cons_succ, Option.bind_some, Option.map_some, List.append_nil, List.length_cons, List.length_nil, Nat.zero_add, Nat.reduceAdd, szl, Nat.reduceLeDiff, if_true, setsE, List.set_cons_succ, List.set_cons_zero, i_add, i_sub, i_cmp, i_neDD, i_eqDD, i_int, i_idt, i_min, i_len, i_list, eq_self, decide_true, Bool.not_true, Bool.not_false, Bool.false_eq_true, if_false, e1, e2, e3, c']
theorem rt6_ok (x9 x10 x11 x12 : Sl) : rt6 a [.v (.obj a), .v (Rl p q), .v (.int p), .v (.int q), .v (.int n), .v (.tup (rowD (Lu.U p q) (n + 2))), .v (.int (Lu.sumU p q (n + 1))), .v (.int (Lu.sqU p q (n + 1))), .v (.int (mtU p q n (n + 1))), x9, x10, x11, x12] s = some (.nx, [.v (.obj a), .v (Rl p q), .v (.int p), .v (.int q), .v (.int n), .v (.tup (rowD (Lu.U p q) (n + 2))), .v (.int (Lu.sumU p q (n + 1))), .v (.int (Lu.sqU p q (n + 1))), .v (.int (mtU p q n (n + 1))), x9, x10, x11, x12], s) := by
  have h1 := S.pl; have h2 := S.ph; have h3 := S.ql; have h4 := S.qh
  have e1 := i_mulL (a := p - q - 1) (b := Lu.sumU p q (n + 1)) (by omega) (by omega)
  have e2 := i_mulL (a := q) (b := Lu.U p q n) (by omega) (by omega)
  have e3 := i_mulL (a := p) (b := Lu.sqU p q (n + 1)) (by omega) (by omega)
  have e4 := i_mul (U_mulOk S (m := n) (n := n + 1) (by omega) (by omega))
  have e5 := i_mulL (a := p - q - 1) (b := Lu.sumV p q (n + 1)) (by omega) (by omega)
  have e6 := i_mulL (a := q) (b := Lu.V p q n) (by omega) (by omega)
  have f1 := Lu.sumU_eq p q n
  have f2 := Lu.sqU_eq p q n
  have f3 := Lu.sumV_eq p q n
  have g1 := rowD_at (a := Lu.U p q) (n := n + 2) (i := n) (by omega)
  have g2 := rowD_at (a := Lu.U p q) (n := n + 2) (i := n + 1) (by omega)
  have g3 := mates_to_rule R S (n := n) (by omega)
  have g4 := mate_rule R S (n := n) (by omega)
  have g5 := mate_rule R S (n := n + 1) (by omega)
  simp -implicitDefEqProofs only [rt6, v_seq, v_set, v_asg, v_paro, v_o2cons, v_o2nil, v_ov, v_ret, v_mif, v_and2, v_or2, v_toB, v_bin, v_b, v_c, v_call, v_callW, v_acons, v_anil, v_var, v_lst, v_tup, v_tup2, v_tgcons, v_tgn, v_tgnil, v_and, v_or, v_if, v_next, List.getElem?_cons_zero, List.getElem?_cons_succ, Option.bind_some, Option.map_some, List.append_nil, List.length_cons, List.length_nil, Nat.zero_add, Nat.reduceAdd, szl, Nat.reduceLeDiff, if_true, setsE, List.set_cons_succ, List.set_cons_zero, i_add, i_sub, i_cmp, i_neDD, i_eqDD, i_int, i_idt, i_min, i_len, i_list, eq_self, decide_true, Bool.not_true, Bool.not_false, Bool.false_eq_true, if_false, cast1, e1, e2, e3, e4, e5, e6, f1, f2, f3, g1, g2, g3, g4, g5]
omit hn in
theorem rt7_ok (g : Good s) {m : Nat} (hw : f_rules_within [Rl p q] = some (.tup (wD p q m))) (hm : 1 ≤ m) (x9 x10 x11 x12 : Sl) : ∃ (j : Nat) (s' : DrawS), rt7 a [.v (.obj a), .v (Rl p q), .v (.int p), .v (.int q), .v (.int n), .v (.tup (rowD (Lu.U p q) (n + 2))), .v (.int (Lu.sumU p q (n + 1))), .v (.int (Lu.sqU p q (n + 1))), .v (.int (mtU p q n (n + 1))), x9, x10, x11, x12] s = some (.nx, [.v (.obj a), .v (Rl p q), .v (.int p), .v (.int q), .v (.int n), .v (.tup (rowD (Lu.U p q) (n + 2))), .v (.int (Lu.sumU p q (n + 1))), .v (.int (Lu.sqU p q (n + 1))), .v (.int (mtU p q n (n + 1))), x9, .v (.int (j + 1 : Nat)), x11, x12], s') ∧ j < m ∧ j < 5 ∧ Good s' := by
  obtain ⟨r, s', e1, g', r0, r1⟩ := take_ok (a := a) (n := min (5 : Int) (m : Int)) g (by omega)
  obtain ⟨j, rfl⟩ : ∃ j : Nat, r = j := ⟨r.toNat, by omega⟩
  refine ⟨j, s', ?_, by omega, by omega, g'⟩
  have c : (1 : Int) + (j : Int) = ((j + 1 : Nat) : Int) := by omega
  simp -implicitDefEqProofs only [rt7, v_seq, v_set, v_asg, v_paro, v_o2cons, v_o2nil, v_ov, v_ret, v_mif, v_and2, v_or2, v_toB, v_bin, v_b, v_c, v_call, v_callW, v_acons, v_anil, v_var, v_lst, v_tup, v_tup2, v_tgcons, v_tgn, v_tgnil, v_and, v_or, v_if, v_next, List.getElem?_cons_zero, List.getElem?_cons_succ, Option.bind_some, Option.map_some, List.append_nil, List.length_cons, List.length_nil, Nat.zero_add, Nat.reduceAdd, szl, Nat.reduceLeDiff, if_true, setsE, List.set_cons_succ, List.set_cons_zero, i_add, i_sub, i_cmp, i_neDD, i_eqDD, i_int, i_idt, i_min, i_len, i_list, eq_self, decide_true, Bool.not_true, Bool.not_false, Bool.false_eq_true, if_false, hw, wD_len, e1, c]
omit hn in
theorem rt8_ok (g : Good s) {m j : Nat} (hw : f_rules_within [Rl p q] = some (.tup (wD p q m))) (hj : j < m) (hj5 : j < 5) (x9 x11 x12 : Sl) : ∃ (t : Nat) (s' : DrawS), rt8 a [.v (.obj a), .v (Rl p q), .v (.int p), .v (.int q), .v (.int n), .v (.tup (rowD (Lu.U p q) (n + 2))), .v (.int (Lu.sumU p q (n + 1))), .v (.int (Lu.sqU p q (n + 1))), .v (.int (mtU p q n (n + 1))), x9, .v (.int (j + 1 : Nat)), x11, x12] s = some (.nx, [.v (.obj a), .v (Rl p q), .v (.int p), .v (.int q), .v (.int n), .v (.tup (rowD (Lu.U p q) (n + 2))), .v (.int (Lu.sumU p q (n + 1))), .v (.int (Lu.sqU p q (n + 1))), .v (.int (mtU p q n (n + 1))), x9, .v (.int (j + 1 : Nat)), .v (Rl (Lu.V p q (j + 1)) (q ^ (j + 1))), .v (.int t)], s') ∧ (j + 1) * t ≤ 300 ∧ Good s' := by
  have e0 : DivOk ((j + 1 : Nat) : Int) := divOk_of (n := 7) (by omega) (by omega) (by decide) (by decide)
  have e1 := i_div (a := 300) e0
  have hd : Int.fdiv 300 ((j + 1 : Nat) : Int) = ((300 / (j + 1) : Nat) : Int) := by
    rw [Int.fdiv_eq_ediv_of_nonneg _ (by omega)]; rfl
  have hle : 300 / (j + 1) ≤ 300 := Nat.div_le_self _ _
  have hz : ∀ t, t ≤ 300 / (j + 1) → (j + 1) * t ≤ 300 := fun t h1 => by
    have h2 := (Nat.le_div_iff_mul_le (show 0 < j + 1 by omega)).mp h1
    rw [Nat.mul_comm]; exact h2
  rw [hd] at e1
  clear hd
  revert e1 hle hz
  generalize 300 / (j + 1) = z
  intro e1 hle hz
  obtain ⟨r, s', e2, g', r0, r1⟩ := take_ok (a := a) (n := (z : Int)) g (by omega)
  obtain ⟨t, rfl⟩ : ∃ t : Nat, r = t := ⟨r.toNat, by omega⟩
  have c : ((j + 1 : Nat) : Int) - 1 = (j : Int) := by omega
  have e3 := L2.atI_nat (wD_get (p := p) (q := q) hj)
  refine ⟨t, s', ?_, ?_, g'⟩
  · simp -implicitDefEqProofs only [rt8, v_seq, v_set, v_asg, v_paro, v_o2cons, v_o2nil, v_ov, v_ret, v_mif, v_and2, v_or2, v_toB, v_bin, v_b, v_c, v_call, v_callW, v_acons, v_anil, v_var, v_lst, v_tup, v_tup2, v_tgcons, v_tgn, v_tgnil, v_and, v_or, v_if, v_next, List.getElem?_cons_zero, List.getElem?_cons_succ, Option.bind_some, Option.map_some, List.append_nil, List.length_cons, List.length_nil, Nat.zero_add, Nat.reduceAdd, szl, Nat.reduceLeDiff, if_true, setsE, List.set_cons_succ, List.set_cons_zero, i_add, i_sub, i_cmp, i_neDD, i_eqDD, i_int, i_idt, i_min, i_len, i_list, eq_self, decide_true, Bool.not_true, Bool.not_false, Bool.false_eq_true, if_false, hw, c, e3, e1, e2]
  · exact hz t (by omega)
omit hn in
theorem lc_every {j t : Nat} (hj5 : j < 5) (ht : (j + 1) * t ≤ 300) {l : Nat} (hl : l ≤ t) (x0 x2 x3 x4 x5 x6 x7 x8 x9 x11 x12 : Sl) : lcGo (W := WD a) [9] (tgN 9) tYesE (eCall 2 f_member [] (aCons (eVar 1) (aCons (eBin mulD (eVar 10) (eVar 9)) aNil))) [x0, .v (Rl p q), x2, x3, x4, x5, x6, x7, x8, x9, .v (.int (j + 1 : Nat)), x11, x12] (rngD 0 (l + 1)) s = some (rowD (fun i => Lu.U p q ((j + 1) * i)) (l + 1), s) := by
  refine lcGo_rng (W := WD a) (fun i => D.int (Lu.U p q ((j + 1) * i))) (fun i hi => ?_)
  have e0 : (0 : Int) + (i : Int) = (i : Int) := by omega
  have hle : (j + 1) * i ≤ 300 := Nat.le_trans (Nat.mul_le_mul_left _ (show i ≤ t by omega)) ht
  have e1 := i_mulL (a := ((j + 1 : Nat) : Int)) (b := (i : Int)) (by omega) (by omega)
  rw [e0]
  have e2 : ((j + 1 : Nat) : Int) * (i : Int) = (((j + 1) * i : Nat) : Int) := by rw [Int.natCast_mul]
  rw [e2] at e1
  have e3 := member_rule R S hle
  exact ⟨_, rfl, rfl, by simp -implicitDefEqProofs only [v_seq, v_set, v_asg, v_paro, v_o2cons, v_o2nil, v_ov, v_ret, v_mif, v_and2, v_or2, v_toB, v_bin, v_b, v_c, v_call, v_callW, v_acons, v_anil, v_var, v_lst, v_tup, v_tup2, v_tgcons, v_tgn, v_tgnil, v_and, v_or, v_if, v_next, List.getElem?_cons_zero, List.getElem?_cons_succ, Option.bind_some, Option.map_some, List.append_nil, List.length_cons, List.length_nil, Nat.zero_add, Nat.reduceAdd, szl, Nat.reduceLeDiff, if_true, setsE, List.set_cons_succ, List.set_cons_zero, i_add, i_sub, i_cmp, i_neDD, i_eqDD, i_int, i_idt, i_min, i_len, i_list, eq_self, decide_true, Bool.not_true, Bool.not_false, Bool.false_eq_true, if_false, wipeE, e1, e3]⟩
omit hn in
theorem lc_within {j t : Nat} (hj5 : j < 5) (ht : (j + 1) * t ≤ 300) {l : Nat} (hl : l ≤ t) (x0 x2 x3 x4 x5 x6 x7 x8 x9 x11 x12 : Sl) : lcGo (W := WD a) [9] (tgN 9) tYesE (eCall 3 f_within_member [] (aCons (eVar 1) (aCons (eVar 10) (aCons (eVar 9) aNil)))) [x0, .v (Rl p q), x2, x3, x4, x5, x6, x7, x8, x9, .v (.int (j + 1 : Nat)), x11, x12] (rngD 0 (l + 1)) s = some (rowD (Lu.U (Lu.V p q (j + 1)) (q ^ (j + 1))) (l + 1), s) := by
  refine lcGo_rng (W := WD a) (fun i => D.int (Lu.U (Lu.V p q (j + 1)) (q ^ (j + 1)) i)) (fun i hi => ?_)
  have e0 : (0 : Int) + (i : Int) = (i : Int) := by omega
  have hle : (j + 1) * i ≤ 300 := Nat.le_trans (Nat.mul_le_mul_left _ (show i ≤ t by omega)) ht
  rw [e0]
  have e3 := within_member_rule R S (k := j + 1) (n := i) (by omega) (by omega) hle
  exact ⟨_, rfl, rfl, by simp -implicitDefEqProofs only [v_seq, v_set, v_asg, v_paro, v_o2cons, v_o2nil, v_ov, v_ret, v_mif, v_and2, v_or2, v_toB, v_bin, v_b, v_c, v_call, v_callW, v_acons, v_anil, v_var, v_lst, v_tup, v_tup2, v_tgcons, v_tgn, v_tgnil, v_and, v_or, v_if, v_next, List.getElem?_cons_zero, List.getElem?_cons_succ, Option.bind_some, Option.map_some, List.append_nil, List.length_cons, List.length_nil, Nat.zero_add, Nat.reduceAdd, szl, Nat.reduceLeDiff, if_true, setsE, List.set_cons_succ, List.set_cons_zero, i_add, i_sub, i_cmp, i_neDD, i_eqDD, i_int, i_idt, i_min, i_len, i_list, eq_self, decide_true, Bool.not_true, Bool.not_false, Bool.false_eq_true, if_false, wipeE, e3]⟩
omit R S hn in
theorem far_le {j t : Nat} (ht : (j + 1) * t ≤ 300) : t ≤ 300 := Nat.le_trans (Nat.le_mul_of_pos_left t (by omega)) ht
omit hn in
theorem rt9_ok {j t : Nat} (hj5 : j < 5) (ht : (j + 1) * t ≤ 300) (S' : Small (Lu.V p q (j + 1)) (q ^ (j + 1))) (x9 : Sl) : rt9 a [.v (.obj a), .v (Rl p q), .v (.int p), .v (.int q), .v (.int n), .v (.tup (rowD (Lu.U p q) (n + 2))), .v (.int (Lu.sumU p q (n + 1))), .v (.int (Lu.sqU p q (n + 1))), .v (.int (mtU p q n (n + 1))), x9, .v (.int (j + 1 : Nat)), .v (Rl (Lu.V p q (j + 1)) (q ^ (j + 1))), .v (.int t)] s = some (.nx, [.v (.obj a), .v (Rl p q), .v (.int p), .v (.int q), .v (.int n), .v (.tup (rowD (Lu.U p q) (n + 2))), .v (.int (Lu.sumU p q (n + 1))), .v (.int (Lu.sqU p q (n + 1))), .v (.int (mtU p q n (n + 1))), x9, .v (.int (j + 1 : Nat)), .v (Rl (Lu.V p q (j + 1)) (q ^ (j + 1))), .v (.int t)], s) := by
  have R' := Lu.within_rule R (k := j + 1) (by omega)
  have h3 : t ≤ 300 := far_le ht
  have e1 := sum_to_rule R' S' (n := t) h3
  have e2 := member_rule R S (n := j + 1) (by omega)
  have z1 : (Lu.sumU (Lu.V p q (j + 1)) (q ^ (j + 1)) (t + 1)).natAbs < 2 ^ 6500 := by
    have h1 := sumU_size S' (t + 1) (by omega)
    have h2 : (t + 1) * 2 ^ 6400 ≤ 2 ^ 9 * 2 ^ 6400 := Nat.mul_le_mul_right _ (by omega)
    rw [← Nat.pow_add] at h2
    exact Nat.lt_of_le_of_lt (Nat.le_trans h1 h2) (Nat.pow_lt_pow_right (by decide) (by decide))
  have e3 := i_mul (mulOk_of z1 (U_lt S (n := j + 1) (by omega)) (by decide) (by decide) (by decide))
  have hr : rng1D [.int (min (t : Int) 40 + 1)] = some (rngD 0 (min t 40 + 1)) := by
    rw [show min (t : Int) 40 + 1 = ((min t 40 + 1 : Nat) : Int) by omega]; exact rng1_nat (by omega)
  have hl : (rngD 0 (min t 40 + 1)).length < 16777216 := by rw [rngD_length]; omega
  have e4 := lc_every (a := a) R S s hj5 ht (l := min t 40) (by omega)
  have e5 : sumD [.lst (rowD (fun i => Lu.U p q ((j + 1) * i)) (min t 40 + 1))] = some (.int (((List.range (min t 40 + 1)).map fun i => Lu.U p q ((j + 1) * i)).sum)) := by rw [rowD_map, i_sum]
  by_cases c : t ≤ 40
  · have hm : min t 40 = t := by omega
    have f1 := Lu.sum_every p q (j + 1) (t + 1)
    rw [hm] at hr hl e4 e5
    rw [← f1] at e5
    have c' : decide ((t : Int) ≤ 40) = true := decide_eq_true (by omega)
    simp -implicitDefEqProofs only [rt9, v_seq, v_set, v_asg, v_paro, v_o2cons, v_o2nil, v_ov, v_ret, v_mif, v_and2, v_or2, v_toB, v_bin, v_b, v_c, v_call, v_callW, v_acons, v_anil, v_var, v_lst, v_tup, v_tup2, v_tgcons, v_tgn, v_tgnil, v_and, v_or, v_if, v_next, List.getElem?_cons_zero, List.getElem?_cons_succ, Option.bind_some, Option.map_some, List.append_nil, List.length_cons, List.length_nil, Nat.zero_add, Nat.reduceAdd, szl, Nat.reduceLeDiff, if_true, setsE, List.set_cons_succ, List.set_cons_zero, i_add, i_sub, i_cmp, i_neDD, i_eqDD, i_int, i_idt, i_min, i_len, i_list, eq_self, decide_true, Bool.not_true, Bool.not_false, Bool.false_eq_true, if_false, e1, e2, e3, v_lc, v_llc, v_rng1, hr, hl, e4, e5]
  · have c' : decide ((t : Int) ≤ 40) = false := decide_eq_false (by omega)
    simp -implicitDefEqProofs only [rt9, v_seq, v_set, v_asg, v_paro, v_o2cons, v_o2nil, v_ov, v_ret, v_mif, v_and2, v_or2, v_toB, v_bin, v_b, v_c, v_call, v_callW, v_acons, v_anil, v_var, v_lst, v_tup, v_tup2, v_tgcons, v_tgn, v_tgnil, v_and, v_or, v_if, v_next, List.getElem?_cons_zero, List.getElem?_cons_succ, Option.bind_some, Option.map_some, List.append_nil, List.length_cons, List.length_nil, Nat.zero_add, Nat.reduceAdd, szl, Nat.reduceLeDiff, if_true, setsE, List.set_cons_succ, List.set_cons_zero, i_add, i_sub, i_cmp, i_neDD, i_eqDD, i_int, i_idt, i_min, i_len, i_list, eq_self, decide_true, Bool.not_true, Bool.not_false, Bool.false_eq_true, if_false, e1, e2, e3, v_lc, v_llc, v_rng1, hr, hl, e4, e5, c', ite_self]
omit hn in
theorem rt10_ok {j t : Nat} (hj5 : j < 5) (ht : (j + 1) * t ≤ 300) (S' : Small (Lu.V p q (j + 1)) (q ^ (j + 1))) (x9 : Sl) : rt10 a [.v (.obj a), .v (Rl p q), .v (.int p), .v (.int q), .v (.int n), .v (.tup (rowD (Lu.U p q) (n + 2))), .v (.int (Lu.sumU p q (n + 1))), .v (.int (Lu.sqU p q (n + 1))), .v (.int (mtU p q n (n + 1))), x9, .v (.int (j + 1 : Nat)), .v (Rl (Lu.V p q (j + 1)) (q ^ (j + 1))), .v (.int t)] s = some (.nx, [.v (.obj a), .v (Rl p q), .v (.int p), .v (.int q), .v (.int n), .v (.tup (rowD (Lu.U p q) (n + 2))), .v (.int (Lu.sumU p q (n + 1))), .v (.int (Lu.sqU p q (n + 1))), .v (.int (mtU p q n (n + 1))), x9, .v (.int (j + 1 : Nat)), .v (Rl (Lu.V p q (j + 1)) (q ^ (j + 1))), .v (.int t)], s) := by
  have R' := Lu.within_rule R (k := j + 1) (by omega)
  have h3 : t ≤ 300 := far_le ht
  have hc : min (t : Int) 6 = ((min t 6 : Nat) : Int) := by omega
  have e1 := beginning_rule R' S' (n := min t 6) (by omega)
  have hr := rng1_nat (n := min t 6 + 1) (by omega)
  have hl : (rngD 0 (min t 6 + 1)).length < 16777216 := by rw [rngD_length]; omega
  have e4 := lc_within (a := a) R S s hj5 ht (l := min t 6) (by omega)
  have e5 : neDD (.lst (rowD (Lu.U (Lu.V p q (j + 1)) (q ^ (j + 1))) (min t 6 + 1))) (.lst (rowD (Lu.U (Lu.V p q (j + 1)) (q ^ (j + 1))) (min t 6 + 1))) = some (.bl false) := by rw [rowD_map]; exact eqD_ints _
  simp -implicitDefEqProofs only [rt10, v_seq, v_set, v_asg, v_paro, v_o2cons, v_o2nil, v_ov, v_ret, v_mif, v_and2, v_or2, v_toB, v_bin, v_b, v_c, v_call, v_callW, v_acons, v_anil, v_var, v_lst, v_tup, v_tup2, v_tgcons, v_tgn, v_tgnil, v_and, v_or, v_if, v_next, List.getElem?_cons_zero, List.getElem?_cons_succ, Option.bind_some, Option.map_some, List.append_nil, List.length_cons, List.length_nil, Nat.zero_add, Nat.reduceAdd, szl, Nat.reduceLeDiff, if_true, setsE, List.set_cons_succ, List.set_cons_zero, i_add, i_sub, i_cmp, i_neDD, i_eqDD, i_int, i_idt, i_min, i_len, i_list, eq_self, decide_true, Bool.not_true, Bool.not_false, Bool.false_eq_true, if_false, hc, cast1, e1, v_lc, v_llc, v_rng1, hr, hl, e4, e5]
theorem rt11_ok {x9 x10 x11 x12 : Sl} : rt11 a [.v (.obj a), .v (Rl p q), .v (.int p), .v (.int q), .v (.int n), .v (.tup (rowD (Lu.U p q) (n + 2))), .v (.int (Lu.sumU p q (n + 1))), .v (.int (Lu.sqU p q (n + 1))), .v (.int (mtU p q n (n + 1))), x9, x10, x11, x12] s = some (.rt (.bl true), [.v (.obj a), .v (Rl p q), .v (.int p), .v (.int q), .v (.int n), .v (.tup (rowD (Lu.U p q) (n + 2))), .v (.int (Lu.sumU p q (n + 1))), .v (.int (Lu.sqU p q (n + 1))), .v (.int (mtU p q n (n + 1))), x9, x10, x11, x12], s) := by
  have h1 := S.pl; have h2 := S.ph
  by_cases c : n = 0
  · have c' : decide ((n : Int) = 0) = true := decide_eq_true (by omega)
    simp -implicitDefEqProofs only [rt11, v_seq, v_set, v_asg, v_paro, v_o2cons, v_o2nil, v_ov, v_ret, v_mif, v_and2, v_or2, v_toB, v_bin, v_b, v_c, v_call, v_callW, v_acons, v_anil, v_var, v_lst, v_tup, v_tup2, v_tgcons, v_tgn, v_tgnil, v_and, v_or, v_if, v_next, List.getElem?_cons_zero, List.getElem?_cons_succ, Option.bind_some, Option.map_some, List.append_nil, List.length_cons, List.length_nil, Nat.zero_add, Nat.reduceAdd, szl, Nat.reduceLeDiff, if_true, setsE, List.set_cons_succ, List.set_cons_zero, i_add, i_sub, i_cmp, i_neDD, i_eqDD, i_int, i_idt, i_min, i_len, i_list, eq_self, decide_true, Bool.not_true, Bool.not_false, Bool.false_eq_true, if_false, c']
  · have c' : decide ((n : Int) = 0) = false := decide_eq_false (by omega)
    have hg : Nat.gcd n (n + 1) = 1 := by
      rw [Nat.gcd_comm, Nat.gcd_rec]; simp
    have e1 := shared_rule R S (m := n) (n := n + 1) (by omega) (by omega) (by rw [hg]; decide)
    rw [hg, Lu.U1] at e1
    have e2 := i_mulL (a := p) (b := Lu.sqU p q (n + 1)) (by omega) (by omega)
    have hne := Lu.U_ne R (n := n) (by omega)
    have e3 := i_mod (a := p * Lu.sqU p q (n + 1)) hne
    rw [Lu.sqU_eq, Int.mul_fmod_right] at e3
    have e4 := rowD_at (a := Lu.U p q) (n := n + 2) (i := n) (by omega)
    have f2 := Lu.sqU_eq p q n
    have c3 : decide (Lu.U p q n = 0) = false := decide_eq_false hne
    have c4 : decide (((Int.natAbs 1 : Nat) : Int) = 1) = true := by decide
    simp -implicitDefEqProofs only [rt11, v_seq, v_set, v_asg, v_paro, v_o2cons, v_o2nil, v_ov, v_ret, v_mif, v_and2, v_or2, v_toB, v_bin, v_b, v_c, v_call, v_callW, v_acons, v_anil, v_var, v_lst, v_tup, v_tup2, v_tgcons, v_tgn, v_tgnil, v_and, v_or, v_if, v_next, List.getElem?_cons_zero, List.getElem?_cons_succ, Option.bind_some, Option.map_some, List.append_nil, List.length_cons, List.length_nil, Nat.zero_add, Nat.reduceAdd, szl, Nat.reduceLeDiff, if_true, setsE, List.set_cons_succ, List.set_cons_zero, i_add, i_sub, i_cmp, i_neDD, i_eqDD, i_int, i_idt, i_min, i_len, i_list, eq_self, decide_true, Bool.not_true, Bool.not_false, Bool.false_eq_true, if_false, cast1, c', e1, e2, e3, e4, f2, c3, c4]
end
theorem right_ok {a : Addr} {s : DrawS} (h : Good s) : ∃ s', f_f_law_right a [.obj a] s = some (.bl true, s') ∧ Good s' := by
  obtain ⟨p, q, n, s1, R, S, hn, g1, e0, s2, g2, e2⟩ := rt_start (a := a) h
  have e1 := rt1_ok (p := p) (q := q) (a := a) s1
  have e3 := rt3_ok (a := a) R S hn s2
  obtain ⟨x9, e4⟩ := rt4_ok (a := a) R S hn s2
  have e5 := rt5_ok (a := a) R S hn s2 x9 .u .u .u
  have e6 := rt6_ok (a := a) R S hn s2 x9 .u .u .u
  obtain ⟨m, hw, m1, m60, hs⟩ := rules_within_rule R S
  obtain ⟨j, s3, e7, hj, hj5, g3⟩ := rt7_ok (a := a) (n := n) R S s2 g2 hw m1 x9 .u .u .u
  obtain ⟨t, s4, e8, ht, g4⟩ := rt8_ok (a := a) (n := n) R S s3 g3 hw hj hj5 x9 .u .u
  have e9 := rt9_ok (a := a) (n := n) R S s4 hj5 ht (hs j hj) x9
  have e10 := rt10_ok (a := a) (n := n) R S s4 hj5 ht (hs j hj) x9
  have e11 := rt11_ok (a := a) R S hn s4 (x9 := x9) (x10 := .v (.int (j + 1 : Nat))) (x11 := .v (Rl (Lu.V p q (j + 1)) (q ^ (j + 1)))) (x12 := .v (.int t))
  refine ⟨s4, ?_, g4⟩
  have st : startE 13 [.obj a] = [.v (.obj a), .u, .u, .u, .u, .u, .u, .u, .u, .u, .u, .u, .u] := rfl
  simp -implicitDefEqProofs only [f_f_law_right, runW, st, right_eq, v_seq, e0, e1, e2, e3, e4, e5, e6, e7, e8, e9, e10, e11, Option.bind_some, resD]
theorem law_laps {a : Addr} {s : DrawS} (h : Good s) (r : Sl) (n : Nat) : ∃ (x : Sl) (s' : DrawS), mFor (W := WD a) (tgN 2) (mIf (tNot1 (toB (eCallW 1 (f_f_law_right a) [] (aCons (eVar 1) aNil)))) (mRet (eC (.bl false))) mNext) (rngD 0 n) [r, .v (.obj a), .u] s = some (.nx, [r, .v (.obj a), x], s') := by
  obtain ⟨ρ', s', e, _, x, rfl⟩ := mRng_run (W := WD a) (g := tgN 2) (b := (mIf (tNot1 (toB (eCallW 1 (f_f_law_right a) [] (aCons (eVar 1) aNil)))) (mRet (eC (.bl false))) mNext)) (n := n) (lo := 0) (ρ := [r, .v (.obj a), .u]) (s := s) (fun i ρ t => Good t ∧ ∃ x, ρ = [r, .v (.obj a), x]) ⟨h, .u, rfl⟩ (fun i ρ t hi hI => by
    obtain ⟨g, x, rfl⟩ := hI
    obtain ⟨t', e1, g'⟩ := right_ok (a := a) g
    refine ⟨[r, .v (.obj a), .v (.int (0 + i))], [r, .v (.obj a), .v (.int (0 + i))], t', rfl, ?_, g', _, rfl⟩
    simp -implicitDefEqProofs only [v_seq, v_set, v_asg, v_paro, v_o2cons, v_o2nil, v_ov, v_ret, v_mif, v_and2, v_or2, v_toB, v_bin, v_b, v_c, v_call, v_callW, v_acons, v_anil, v_var, v_lst, v_tup, v_tup2, v_tgcons, v_tgn, v_tgnil, v_and, v_or, v_if, v_next, List.getElem?_cons_zero, List.getElem?_cons_succ, Option.bind_some, Option.map_some, List.append_nil, List.length_cons, List.length_nil, Nat.zero_add, Nat.reduceAdd, szl, Nat.reduceLeDiff, if_true, setsE, List.set_cons_succ, List.set_cons_zero, i_add, i_sub, i_cmp, i_neDD, i_eqDD, i_int, i_idt, i_min, i_len, i_list, eq_self, decide_true, Bool.not_true, Bool.not_false, Bool.false_eq_true, if_false, v_not1, e1])
  exact ⟨x, s', e⟩
theorem main_law : ∀ ns : List Int, ns.length ≤ 63 → (∀ z ∈ ns, Builtin.Int.intBits z ≤ 1048576) → ∃ s, f_f_law_begun ns = some s ∧ ∀ a, ∃ ρ' s', m_law a (startE 3 [.rol (ns.map D.int), .obj a]) s = some (.rt (.bl true), ρ', s') := by
  intro ns hl hb
  obtain ⟨s, e0, g⟩ := begun_rule hl hb
  refine ⟨s, e0, fun a => ?_⟩
  obtain ⟨x, s', e1⟩ := law_laps (a := a) g (.v (.rol (ns.map D.int))) (4 + min ns.length 8)
  have st : startE 3 [.rol (ns.map D.int), .obj a] = [.v (.rol (ns.map D.int)), .v (.obj a), .u] := rfl
  have hr : rng1D [.int (4 + min (ns.length : Int) 8)] = some (rngD 0 (4 + min ns.length 8)) := by
    rw [show 4 + min (ns.length : Int) 8 = ((4 + min ns.length 8 : Nat) : Int) by omega]; exact rng1_nat (by omega)
  have R : Lu.Rule 1 (-1) := ⟨by decide, by decide, by unfold Lu.Cop; decide, by decide, by decide, by decide, by decide⟩
  have S : Small 1 (-1) := ⟨by decide, by decide, by decide, by decide⟩
  have f1 : f_sum_to [Rl 1 (-1), .int 4] = some (.int 7) := sum_to_rule R S (n := 4) (by decide)
  have f2 : f_squares_to [Rl 1 (-1), .int 4] = some (.int 15) := squares_to_rule R S (n := 4) (by decide)
  have f3 : f_mates_to [Rl 1 (-1), .int 4] = some (.int 17) := mates_to_rule R S (n := 4) (by decide)
  refine ⟨[.v (.rol (ns.map D.int)), .v (.obj a), x], s', ?_⟩
  rw [st]
  simp -implicitDefEqProofs only [m_law, v_seq, v_set, v_asg, v_paro, v_o2cons, v_o2nil, v_ov, v_ret, v_mif, v_and2, v_or2, v_toB, v_bin, v_b, v_c, v_call, v_callW, v_acons, v_anil, v_var, v_lst, v_tup, v_tup2, v_tgcons, v_tgn, v_tgnil, v_and, v_or, v_if, v_next, List.getElem?_cons_zero, List.getElem?_cons_succ, Option.bind_some, Option.map_some, List.append_nil, List.length_cons, List.length_nil, Nat.zero_add, Nat.reduceAdd, szl, Nat.reduceLeDiff, if_true, setsE, List.set_cons_succ, List.set_cons_zero, i_add, i_sub, i_cmp, i_neDD, i_eqDD, i_int, i_idt, i_min, i_len, i_list, eq_self, decide_true, Bool.not_true, Bool.not_false, Bool.false_eq_true, if_false, v_fors, v_rng1, i_lenr, List.length_map, hr, e1, v_un, i_neg, f1, f2, f3]
end MP
namespace MP
open PySem PySem.Spec PyProof.Rows L2
/-! ### the text by places -/
def topS (i : Nat) : Stmt := PySem.Challenge.pw_lasttwo_k62_across_sums_and_members.main.body.getD i (.Pass ⟨0, 0, 0, 0⟩)
abbrev s12 : Stmt := topS 12
def dd12 : He.DefD := ⟨("is_whole", none), "is_whole", "is_whole", defArgs s12, defBody s12, defScope s12, [], []⟩
abbrev s13 : Stmt := topS 13
def dd13 : He.DefD := ⟨("is_within_bounds", none), "is_within_bounds", "is_within_bounds", defArgs s13, defBody s13, defScope s13, [], []⟩
abbrev s14 : Stmt := topS 14
def dd14 : He.DefD := ⟨("fault_by", none), "fault_by", "fault_by", defArgs s14, defBody s14, defScope s14, [], []⟩
abbrev s15 : Stmt := topS 15
def dd15 : He.DefD := ⟨("is_rule_of", none), "is_rule_of", "is_rule_of", defArgs s15, defBody s15, defScope s15, [], []⟩
abbrev s16 : Stmt := topS 16
def dd16 : He.DefD := ⟨("need_rule", none), "need_rule", "need_rule", defArgs s16, defBody s16, defScope s16, [.str "rule"], []⟩
abbrev s17 : Stmt := topS 17
def dd17 : He.DefD := ⟨("powered", none), "powered", "powered", defArgs s17, defBody s17, defScope s17, [], []⟩
abbrev s21 : Stmt := topS 21
def dd21 : He.DefD := ⟨("line_by", none), "line_by", "line_by", defArgs s21, defBody s21, defScope s21, [], []⟩
abbrev s22 : Stmt := topS 22
def dd22 : He.DefD := ⟨("member_by", none), "member_by", "member_by", defArgs s22, defBody s22, defScope s22, [], []⟩
abbrev s23 : Stmt := topS 23
def dd23 : He.DefD := ⟨("mate_by", none), "mate_by", "mate_by", defArgs s23, defBody s23, defScope s23, [], []⟩
abbrev s24 : Stmt := topS 24
def dd24 : He.DefD := ⟨("need_n_members", none), "need_n", "need_n", defArgs s24, defBody s24, defScope s24, [], []⟩
abbrev s26 : Stmt := topS 26
def dd26 : He.DefD := ⟨("member", none), "member", "member", defArgs s26, defBody s26, defScope s26, [], []⟩
abbrev s27 : Stmt := topS 27
def dd27 : He.DefD := ⟨("mate", none), "mate", "mate", defArgs s27, defBody s27, defScope s27, [], []⟩
abbrev s28 : Stmt := topS 28
def dd28 : He.DefD := ⟨("beginning", none), "beginning", "beginning", defArgs s28, defBody s28, defScope s28, [], []⟩
abbrev s30 : Stmt := topS 30
def dd30 : He.DefD := ⟨("steps_by", none), "steps_by", "steps_by", defArgs s30, defBody s30, defScope s30, [], []⟩
abbrev s31 : Stmt := topS 31
def dd31 : He.DefD := ⟨("need_both", none), "need_both", "need_both", defArgs s31, defBody s31, defScope s31, [], []⟩
abbrev s32 : Stmt := topS 32
def dd32 : He.DefD := ⟨("shared", none), "shared", "shared", defArgs s32, defBody s32, defScope s32, [], []⟩
abbrev s35 : Stmt := topS 35
def dd35 : He.DefD := ⟨("need_n", none), "need_n", "need_n", defArgs s35, defBody s35, defScope s35, [], []⟩
abbrev s37 : Stmt := topS 37
def dd37 : He.DefD := ⟨("row_to", none), "row_to", "row_to", defArgs s37, defBody s37, defScope s37, [], []⟩
abbrev s38 : Stmt := topS 38
def dd38 : He.DefD := ⟨("sum_to", none), "sum_to", "sum_to", defArgs s38, defBody s38, defScope s38, [], []⟩
abbrev s39 : Stmt := topS 39
def dd39 : He.DefD := ⟨("squares_to", none), "squares_to", "squares_to", defArgs s39, defBody s39, defScope s39, [], []⟩
abbrev s40 : Stmt := topS 40
def dd40 : He.DefD := ⟨("mates_to", none), "mates_to", "mates_to", defArgs s40, defBody s40, defScope s40, [], []⟩
abbrev s43 : Stmt := topS 43
def dd43 : He.DefD := ⟨("within_by", none), "within_by", "within_by", defArgs s43, defBody s43, defScope s43, [], []⟩
abbrev s44 : Stmt := topS 44
def dd44 : He.DefD := ⟨("is_small", none), "is_small", "is_small", defArgs s44, defBody s44, defScope s44, [], []⟩
abbrev s45 : Stmt := topS 45
def dd45 : He.DefD := ⟨("need_k", none), "need_k", "need_k", defArgs s45, defBody s45, defScope s45, [], []⟩
abbrev s46 : Stmt := topS 46
def dd46 : He.DefD := ⟨("within_member", none), "within_member", "within_member", defArgs s46, defBody s46, defScope s46, [], []⟩
abbrev s48 : Stmt := topS 48
def dd48 : He.DefD := ⟨("line_within", none), "line_within", "line_within", defArgs s48, defBody s48, defScope s48, [], []⟩
abbrev s49 : Stmt := topS 49
def dd49 : He.DefD := ⟨("rules_within", none), "rules_within", "rules_within", defArgs s49, defBody s49, defScope s49, [], []⟩
abbrev s51 : Stmt := topS 51
def dd51 : He.DefD := ⟨("_law_begun", none), "_law_begun", "_law_begun", defArgs s51, defBody s51, defScope s51, [], []⟩
abbrev s52 : Stmt := topS 52
def dd52 : He.DefD := ⟨("_law_mixed", none), "_law_mixed", "_law_mixed", defArgs s52, defBody s52, defScope s52, [], []⟩
abbrev s53 : Stmt := topS 53
def dd53 : He.DefD := ⟨("_law_take", none), "_law_take", "_law_take", defArgs s53, defBody s53, defScope s53, [], []⟩
abbrev s54 : Stmt := topS 54
def dd54 : He.DefD := ⟨("_law_pick", none), "_law_pick", "_law_pick", defArgs s54, defBody s54, defScope s54, [], []⟩
abbrev s55 : Stmt := topS 55
def dd55 : He.DefD := ⟨("_law_is_number", none), "_law_is_number", "_law_is_number", defArgs s55, defBody s55, defScope s55, [], []⟩
abbrev s56 : Stmt := topS 56
def dd56 : He.DefD := ⟨("_law_common", none), "_law_common", "_law_common", defArgs s56, defBody s56, defScope s56, [], []⟩
abbrev s57 : Stmt := topS 57
def dd57 : He.DefD := ⟨("_law_is_rule", none), "_law_is_rule", "_law_is_rule", defArgs s57, defBody s57, defScope s57, [], []⟩
abbrev s58 : Stmt := topS 58
def dd58 : He.DefD := ⟨("_law_rule", none), "_law_rule", "_law_rule", defArgs s58, defBody s58, defScope s58, [], []⟩
abbrev s59 : Stmt := topS 59
def dd59 : He.DefD := ⟨("_law_right", none), "_law_right", "_law_right", defArgs s59, defBody s59, defScope s59, [], []⟩
abbrev s60 : Stmt := topS 60
def dd60 : He.DefD := ⟨("law", none), "law", "law", defArgs s60, defBody s60, defScope s60, [], []⟩
def fnL : List He.DefD := [dd12, dd13, dd14, dd15, dd16, dd17, dd21, dd22, dd23, dd24, dd26, dd27, dd28, dd30, dd31, dd32, dd35, dd37, dd38, dd39, dd40, dd43, dd44, dd45, dd46, dd48, dd49, dd51, dd52, dd53, dd54, dd55, dd56, dd57, dd58, dd59, dd60]
def faL : List He.Fa := [.glo "_law_begun", .glo "_law_common", .glo "_law_is_number", .glo "_law_is_rule", .glo "_law_mixed", .glo "_law_pick", .glo "_law_right", .glo "_law_rule", .glo "_law_take", .glo "beginning", .glo "fault_by", .glo "is_rule_of", .glo "is_small", .glo "is_whole", .glo "is_within_bounds", .glo "law", .glo "line_by", .glo "line_within", .glo "mate", .glo "mate_by", .glo "mates_to", .glo "member", .glo "member_by", .glo "need_both", .glo "need_k", .glo "need_n", .glo "need_n_members", .glo "need_n_sums", .glo "need_rule", .glo "powered", .glo "row_to", .glo "rules_within", .glo "shared", .glo "squares_to", .glo "steps_by", .glo "sum_to", .glo "within_by", .glo "within_member", .free "abs", .free "all", .free "bool", .free "int", .free "isinstance", .free "len", .free "list", .free "max", .free "min", .free "range", .free "sum", .free "tuple", .int "MOST_NUMBER_OF" 1000000, .int "MOST_N" 300, .int "MOST_FAR" 1000000000000000000, .int "MOST_INDEX" 300, .int "MOST_K" 60]
def blL : List (Str × String) := [("gcd", "math.gcd")]
/-- the facts of the text -/
structure Txt (K : PySem.W.Frag) (mg : Str → Option Value) : Prop where
  g__law_begun : mg "_law_begun" = some (.ref (He.ga K "_law_begun"))
  g__law_common : mg "_law_common" = some (.ref (He.ga K "_law_common"))
  g__law_is_number : mg "_law_is_number" = some (.ref (He.ga K "_law_is_number"))
  g__law_is_rule : mg "_law_is_rule" = some (.ref (He.ga K "_law_is_rule"))
  g__law_mixed : mg "_law_mixed" = some (.ref (He.ga K "_law_mixed"))
  g__law_pick : mg "_law_pick" = some (.ref (He.ga K "_law_pick"))
  g__law_right : mg "_law_right" = some (.ref (He.ga K "_law_right"))
  g__law_rule : mg "_law_rule" = some (.ref (He.ga K "_law_rule"))
  g__law_take : mg "_law_take" = some (.ref (He.ga K "_law_take"))
  g_beginning : mg "beginning" = some (.ref (He.ga K "beginning"))
  g_fault_by : mg "fault_by" = some (.ref (He.ga K "fault_by"))
  g_is_rule_of : mg "is_rule_of" = some (.ref (He.ga K "is_rule_of"))
  g_is_small : mg "is_small" = some (.ref (He.ga K "is_small"))
  g_is_whole : mg "is_whole" = some (.ref (He.ga K "is_whole"))
  g_is_within_bounds : mg "is_within_bounds" = some (.ref (He.ga K "is_within_bounds"))
  g_law : mg "law" = some (.ref (He.ga K "law"))
  g_line_by : mg "line_by" = some (.ref (He.ga K "line_by"))
  g_line_within : mg "line_within" = some (.ref (He.ga K "line_within"))
  g_mate : mg "mate" = some (.ref (He.ga K "mate"))
  g_mate_by : mg "mate_by" = some (.ref (He.ga K "mate_by"))
  g_mates_to : mg "mates_to" = some (.ref (He.ga K "mates_to"))
  g_member : mg "member" = some (.ref (He.ga K "member"))
  g_member_by : mg "member_by" = some (.ref (He.ga K "member_by"))
  g_need_both : mg "need_both" = some (.ref (He.ga K "need_both"))
  g_need_k : mg "need_k" = some (.ref (He.ga K "need_k"))
  g_need_n : mg "need_n" = some (.ref (He.ga K "need_n"))
  g_need_n_members : mg "need_n_members" = some (.ref (He.ga K "need_n_members"))
  g_need_n_sums : mg "need_n_sums" = some (.ref (He.ga K "need_n_sums"))
  g_need_rule : mg "need_rule" = some (.ref (He.ga K "need_rule"))
  g_powered : mg "powered" = some (.ref (He.ga K "powered"))
  g_row_to : mg "row_to" = some (.ref (He.ga K "row_to"))
  g_rules_within : mg "rules_within" = some (.ref (He.ga K "rules_within"))
  g_shared : mg "shared" = some (.ref (He.ga K "shared"))
  g_squares_to : mg "squares_to" = some (.ref (He.ga K "squares_to"))
  g_steps_by : mg "steps_by" = some (.ref (He.ga K "steps_by"))
  g_sum_to : mg "sum_to" = some (.ref (He.ga K "sum_to"))
  g_within_by : mg "within_by" = some (.ref (He.ga K "within_by"))
  g_within_member : mg "within_member" = some (.ref (He.ga K "within_member"))
  d_12 : ∃ fd, FunD K "is_whole" "is_whole" (defArgs s12) (defBody s12) (defScope s12) [] [] (He.ga K "is_whole") fd
  d_13 : ∃ fd, FunD K "is_within_bounds" "is_within_bounds" (defArgs s13) (defBody s13) (defScope s13) [] [] (He.ga K "is_within_bounds") fd
  d_14 : ∃ fd, FunD K "fault_by" "fault_by" (defArgs s14) (defBody s14) (defScope s14) [] [] (He.ga K "fault_by") fd
  d_15 : ∃ fd, FunD K "is_rule_of" "is_rule_of" (defArgs s15) (defBody s15) (defScope s15) [] [] (He.ga K "is_rule_of") fd
  d_16 : ∃ fd, FunD K "need_rule" "need_rule" (defArgs s16) (defBody s16) (defScope s16) [V.str "rule"] [] (He.ga K "need_rule") fd
  d_17 : ∃ fd, FunD K "powered" "powered" (defArgs s17) (defBody s17) (defScope s17) [] [] (He.ga K "powered") fd
  d_21 : ∃ fd, FunD K "line_by" "line_by" (defArgs s21) (defBody s21) (defScope s21) [] [] (He.ga K "line_by") fd
  d_22 : ∃ fd, FunD K "member_by" "member_by" (defArgs s22) (defBody s22) (defScope s22) [] [] (He.ga K "member_by") fd
  d_23 : ∃ fd, FunD K "mate_by" "mate_by" (defArgs s23) (defBody s23) (defScope s23) [] [] (He.ga K "mate_by") fd
  d_24 : ∃ fd, FunD K "need_n" "need_n" (defArgs s24) (defBody s24) (defScope s24) [] [] (He.ga K "need_n_members") fd
  d_26 : ∃ fd, FunD K "member" "member" (defArgs s26) (defBody s26) (defScope s26) [] [] (He.ga K "member") fd
  d_27 : ∃ fd, FunD K "mate" "mate" (defArgs s27) (defBody s27) (defScope s27) [] [] (He.ga K "mate") fd
  d_28 : ∃ fd, FunD K "beginning" "beginning" (defArgs s28) (defBody s28) (defScope s28) [] [] (He.ga K "beginning") fd
  d_30 : ∃ fd, FunD K "steps_by" "steps_by" (defArgs s30) (defBody s30) (defScope s30) [] [] (He.ga K "steps_by") fd
  d_31 : ∃ fd, FunD K "need_both" "need_both" (defArgs s31) (defBody s31) (defScope s31) [] [] (He.ga K "need_both") fd
  d_32 : ∃ fd, FunD K "shared" "shared" (defArgs s32) (defBody s32) (defScope s32) [] [] (He.ga K "shared") fd
  d_35 : ∃ fd, FunD K "need_n" "need_n" (defArgs s35) (defBody s35) (defScope s35) [] [] (He.ga K "need_n") fd
  d_37 : ∃ fd, FunD K "row_to" "row_to" (defArgs s37) (defBody s37) (defScope s37) [] [] (He.ga K "row_to") fd
  d_38 : ∃ fd, FunD K "sum_to" "sum_to" (defArgs s38) (defBody s38) (defScope s38) [] [] (He.ga K "sum_to") fd
  d_39 : ∃ fd, FunD K "squares_to" "squares_to" (defArgs s39) (defBody s39) (defScope s39) [] [] (He.ga K "squares_to") fd
  d_40 : ∃ fd, FunD K "mates_to" "mates_to" (defArgs s40) (defBody s40) (defScope s40) [] [] (He.ga K "mates_to") fd
  d_43 : ∃ fd, FunD K "within_by" "within_by" (defArgs s43) (defBody s43) (defScope s43) [] [] (He.ga K "within_by") fd
  d_44 : ∃ fd, FunD K "is_small" "is_small" (defArgs s44) (defBody s44) (defScope s44) [] [] (He.ga K "is_small") fd
  d_45 : ∃ fd, FunD K "need_k" "need_k" (defArgs s45) (defBody s45) (defScope s45) [] [] (He.ga K "need_k") fd
  d_46 : ∃ fd, FunD K "within_member" "within_member" (defArgs s46) (defBody s46) (defScope s46) [] [] (He.ga K "within_member") fd
  d_48 : ∃ fd, FunD K "line_within" "line_within" (defArgs s48) (defBody s48) (defScope s48) [] [] (He.ga K "line_within") fd
  d_49 : ∃ fd, FunD K "rules_within" "rules_within" (defArgs s49) (defBody s49) (defScope s49) [] [] (He.ga K "rules_within") fd
  d_51 : ∃ fd, FunD K "_law_begun" "_law_begun" (defArgs s51) (defBody s51) (defScope s51) [] [] (He.ga K "_law_begun") fd
  d_52 : ∃ fd, FunD K "_law_mixed" "_law_mixed" (defArgs s52) (defBody s52) (defScope s52) [] [] (He.ga K "_law_mixed") fd
  d_53 : ∃ fd, FunD K "_law_take" "_law_take" (defArgs s53) (defBody s53) (defScope s53) [] [] (He.ga K "_law_take") fd
  d_54 : ∃ fd, FunD K "_law_pick" "_law_pick" (defArgs s54) (defBody s54) (defScope s54) [] [] (He.ga K "_law_pick") fd
  d_55 : ∃ fd, FunD K "_law_is_number" "_law_is_number" (defArgs s55) (defBody s55) (defScope s55) [] [] (He.ga K "_law_is_number") fd
  d_56 : ∃ fd, FunD K "_law_common" "_law_common" (defArgs s56) (defBody s56) (defScope s56) [] [] (He.ga K "_law_common") fd
  d_57 : ∃ fd, FunD K "_law_is_rule" "_law_is_rule" (defArgs s57) (defBody s57) (defScope s57) [] [] (He.ga K "_law_is_rule") fd
  d_58 : ∃ fd, FunD K "_law_rule" "_law_rule" (defArgs s58) (defBody s58) (defScope s58) [] [] (He.ga K "_law_rule") fd
  d_59 : ∃ fd, FunD K "_law_right" "_law_right" (defArgs s59) (defBody s59) (defScope s59) [] [] (He.ga K "_law_right") fd
  d_60 : ∃ fd, FunD K "law" "law" (defArgs s60) (defBody s60) (defScope s60) [] [] (He.ga K "law") fd
  z_abs : mg "abs" = none
  z_all : mg "all" = none
  z_bool : mg "bool" = none
  z_int : mg "int" = none
  z_isinstance : mg "isinstance" = none
  z_len : mg "len" = none
  z_list : mg "list" = none
  z_max : mg "max" = none
  z_min : mg "min" = none
  z_range : mg "range" = none
  z_sum : mg "sum" = none
  z_tuple : mg "tuple" = none
  c_MOST_NUMBER_OF : ∃ t, mg "MOST_NUMBER_OF" = some (.int 1000000 t)
  c_MOST_N : ∃ t, mg "MOST_N" = some (.int 300 t)
  c_MOST_FAR : ∃ t, mg "MOST_FAR" = some (.int 1000000000000000000 t)
  c_MOST_INDEX : ∃ t, mg "MOST_INDEX" = some (.int 300 t)
  c_MOST_K : ∃ t, mg "MOST_K" = some (.int 60 t)
  y_gcd : mg "gcd" = some (.builtin "math.gcd")
  e_need_n_sums : He.ga K "need_n_sums" = He.ga K "need_n"
abbrev N12 : List Str := ["thing"]
theorem sc12 : FnScope ["thing"] ["thing"] (defScope s12) := ⟨rfl, rfl, rfl, by decide +kernel, rfl, by decide +kernel, by decide +kernel⟩
abbrev N13 : List Str := ["thing", "low", "high"]
theorem sc13 : FnScope ["thing", "low", "high"] ["thing", "low", "high"] (defScope s13) := ⟨rfl, rfl, rfl, by decide +kernel, rfl, by decide +kernel, by decide +kernel⟩
abbrev N14 : List Str := ["thing", "p", "q", "number"]
theorem sc14 : FnScope ["thing", "p", "q", "number"] ["thing"] (defScope s14) := ⟨rfl, rfl, rfl, by decide +kernel, rfl, by decide +kernel, by decide +kernel⟩
abbrev N15 : List Str := ["thing"]
theorem sc15 : FnScope ["thing"] ["thing"] (defScope s15) := ⟨rfl, rfl, rfl, by decide +kernel, rfl, by decide +kernel, by decide +kernel⟩
abbrev N16 : List Str := ["rule", "which"]
theorem sc16 : FnScope ["rule", "which"] ["rule", "which"] (defScope s16) := ⟨rfl, rfl, rfl, by decide +kernel, rfl, by decide +kernel, by decide +kernel⟩
abbrev N17 : List Str := ["number", "times", "found", "lap"]
theorem sc17 : FnScope ["number", "times", "found", "lap"] ["number", "times"] (defScope s17) := ⟨rfl, rfl, rfl, by decide +kernel, rfl, by decide +kernel, by decide +kernel⟩
abbrev N21 : List Str := ["rule", "n", "p", "q", "found"]
theorem sc21 : FnScope ["rule", "n", "p", "q", "found"] ["rule", "n"] (defScope s21) := ⟨rfl, rfl, rfl, by decide +kernel, rfl, by decide +kernel, by decide +kernel⟩
abbrev N22 : List Str := ["rule", "n"]
theorem sc22 : FnScope ["rule", "n"] ["rule", "n"] (defScope s22) := ⟨rfl, rfl, rfl, by decide +kernel, rfl, by decide +kernel, by decide +kernel⟩
abbrev N23 : List Str := ["rule", "n", "line"]
theorem sc23 : FnScope ["rule", "n", "line"] ["rule", "n"] (defScope s23) := ⟨rfl, rfl, rfl, by decide +kernel, rfl, by decide +kernel, by decide +kernel⟩
abbrev N24 : List Str := ["n", "low", "high"]
theorem sc24 : FnScope ["n", "low", "high"] ["n", "low", "high"] (defScope s24) := ⟨rfl, rfl, rfl, by decide +kernel, rfl, by decide +kernel, by decide +kernel⟩
abbrev N26 : List Str := ["rule", "n"]
theorem sc26 : FnScope ["rule", "n"] ["rule", "n"] (defScope s26) := ⟨rfl, rfl, rfl, by decide +kernel, rfl, by decide +kernel, by decide +kernel⟩
abbrev N27 : List Str := ["rule", "n"]
theorem sc27 : FnScope ["rule", "n"] ["rule", "n"] (defScope s27) := ⟨rfl, rfl, rfl, by decide +kernel, rfl, by decide +kernel, by decide +kernel⟩
abbrev N28 : List Str := ["rule", "n"]
theorem sc28 : FnScope ["rule", "n"] ["rule", "n"] (defScope s28) := ⟨rfl, rfl, rfl, by decide +kernel, rfl, by decide +kernel, by decide +kernel⟩
abbrev N30 : List Str := ["m", "n", "found", "first", "second"]
theorem sc30 : FnScope ["m", "n", "found", "first", "second"] ["m", "n"] (defScope s30) := ⟨rfl, rfl, rfl, by decide +kernel, rfl, by decide +kernel, by decide +kernel⟩
abbrev N31 : List Str := ["rule", "m", "n"]
theorem sc31 : FnScope ["rule", "m", "n"] ["rule", "m", "n"] (defScope s31) := ⟨rfl, rfl, rfl, by decide +kernel, rfl, by decide +kernel, by decide +kernel⟩
abbrev N32 : List Str := ["rule", "m", "n", "last"]
theorem sc32 : FnScope ["rule", "m", "n", "last"] ["rule", "m", "n"] (defScope s32) := ⟨rfl, rfl, rfl, by decide +kernel, rfl, by decide +kernel, by decide +kernel⟩
abbrev N35 : List Str := ["n"]
theorem sc35 : FnScope ["n"] ["n"] (defScope s35) := ⟨rfl, rfl, rfl, by decide +kernel, rfl, by decide +kernel, by decide +kernel⟩
abbrev N37 : List Str := ["rule", "first", "second", "n", "found", "lap"]
theorem sc37 : FnScope ["rule", "first", "second", "n", "found", "lap"] ["rule", "first", "second", "n"] (defScope s37) := ⟨rfl, rfl, rfl, by decide +kernel, rfl, by decide +kernel, by decide +kernel⟩
abbrev N38 : List Str := ["rule", "n"]
theorem sc38 : FnScope ["rule", "n"] ["rule", "n"] (defScope s38) := ⟨rfl, rfl, rfl, by decide +kernel, rfl, by decide +kernel, by decide +kernel⟩
abbrev N39 : List Str := ["rule", "n", "found", "item"]
theorem sc39 : FnScope ["rule", "n", "found", "item"] ["rule", "n"] (defScope s39) := ⟨rfl, rfl, rfl, by decide +kernel, rfl, by decide +kernel, by decide +kernel⟩
abbrev N40 : List Str := ["rule", "n"]
theorem sc40 : FnScope ["rule", "n"] ["rule", "n"] (defScope s40) := ⟨rfl, rfl, rfl, by decide +kernel, rfl, by decide +kernel, by decide +kernel⟩
abbrev N43 : List Str := ["rule", "k"]
theorem sc43 : FnScope ["rule", "k"] ["rule", "k"] (defScope s43) := ⟨rfl, rfl, rfl, by decide +kernel, rfl, by decide +kernel, by decide +kernel⟩
abbrev N44 : List Str := ["rule"]
theorem sc44 : FnScope ["rule"] ["rule"] (defScope s44) := ⟨rfl, rfl, rfl, by decide +kernel, rfl, by decide +kernel, by decide +kernel⟩
abbrev N45 : List Str := ["k"]
theorem sc45 : FnScope ["k"] ["k"] (defScope s45) := ⟨rfl, rfl, rfl, by decide +kernel, rfl, by decide +kernel, by decide +kernel⟩
abbrev N46 : List Str := ["rule", "k", "n", "line"]
theorem sc46 : FnScope ["rule", "k", "n", "line"] ["rule", "k", "n"] (defScope s46) := ⟨rfl, rfl, rfl, by decide +kernel, rfl, by decide +kernel, by decide +kernel⟩
abbrev N48 : List Str := ["rule", "found", "k", "late"]
theorem sc48 : FnScope ["rule", "found", "k", "late"] ["rule"] (defScope s48) := ⟨rfl, rfl, rfl, by decide +kernel, rfl, by decide +kernel, by decide +kernel⟩
abbrev N49 : List Str := ["rule"]
theorem sc49 : FnScope ["rule"] ["rule"] (defScope s49) := ⟨rfl, rfl, rfl, by decide +kernel, rfl, by decide +kernel, by decide +kernel⟩
abbrev N51 : List Str := ["script", "whole", "cells", "cell"]
theorem sc51 : FnScope ["script", "whole", "cells", "cell"] ["script"] (defScope s51) := ⟨rfl, rfl, rfl, by decide +kernel, rfl, by decide +kernel, by decide +kernel⟩
abbrev N52 : List Str := ["draw", "found", "cell"]
theorem sc52 : FnScope ["draw", "found", "cell"] ["draw"] (defScope s52) := ⟨rfl, rfl, rfl, by decide +kernel, rfl, by decide +kernel, by decide +kernel⟩
abbrev N53 : List Str := ["draw", "amount", "found"]
theorem sc53 : FnScope ["draw", "amount", "found"] ["draw", "amount"] (defScope s53) := ⟨rfl, rfl, rfl, by decide +kernel, rfl, by decide +kernel, by decide +kernel⟩
abbrev N54 : List Str := ["draw", "items"]
theorem sc54 : FnScope ["draw", "items"] ["draw", "items"] (defScope s54) := ⟨rfl, rfl, rfl, by decide +kernel, rfl, by decide +kernel, by decide +kernel⟩
abbrev N55 : List Str := ["thing"]
theorem sc55 : FnScope ["thing"] ["thing"] (defScope s55) := ⟨rfl, rfl, rfl, by decide +kernel, rfl, by decide +kernel, by decide +kernel⟩
abbrev N56 : List Str := ["one", "other", "here", "late", "lap"]
theorem sc56 : FnScope ["one", "other", "here", "late", "lap"] ["one", "other"] (defScope s56) := ⟨rfl, rfl, rfl, by decide +kernel, rfl, by decide +kernel, by decide +kernel⟩
abbrev N57 : List Str := ["thing", "p", "q", "item"]
theorem sc57 : FnScope ["thing", "p", "q", "item"] ["thing"] (defScope s57) := ⟨rfl, rfl, rfl, by decide +kernel, rfl, by decide +kernel, by decide +kernel⟩
abbrev N58 : List Str := ["draw", "known", "way", "found", "top", "lap", "p", "q"]
theorem sc58 : FnScope ["draw", "known", "way", "found", "top", "lap", "p", "q"] ["draw"] (defScope s58) := ⟨rfl, rfl, rfl, by decide +kernel, rfl, by decide +kernel, by decide +kernel⟩
abbrev N59 : List Str := ["draw", "rule", "p", "q", "n", "line", "whole", "squares", "mates", "at", "k", "other", "far"]
theorem sc59 : FnScope ["draw", "rule", "p", "q", "n", "line", "whole", "squares", "mates", "at", "k", "other", "far"] ["draw"] (defScope s59) := ⟨rfl, rfl, rfl, by decide +kernel, rfl, by decide +kernel, by decide +kernel⟩
abbrev N60 : List Str := ["script", "draw", "lap"]
theorem sc60 : FnScope ["script", "draw", "lap"] ["script"] (defScope s60) := ⟨rfl, rfl, rfl, by decide +kernel, rfl, by decide +kernel, by decide +kernel⟩
section
variable {P : Program} {w : World} {K : PySem.W.Frag} {mg : Str → Option Value} {base : Heap}
theorem ok_is_whole (T : Txt K mg) : ∃ fd, (FnOk P w K mg base CX0 1 (He.ga K "is_whole") fd ["thing"] (spP K 1 f_is_whole)) ∧ PySem.W.keepIn K (.ref (He.ga K "is_whole")) = true ∧ FunD K "is_whole" "is_whole" (defArgs s12) (defBody s12) (defScope s12) [] [] (He.ga K "is_whole") fd := by
  obtain ⟨fd, F⟩ := T.d_12
  refine ⟨fd, fn_okP 1 F sc12 rfl fun cdv A outer s H E hr => ?_, F.kp, F⟩
  have sc := sc12
  have hu := hu_of hr
  have hu64 := hr.units
  exact (gss_one (gs_ret (ge_and (ge_isi (ge_var (pv 0)) (by rfl) T.z_isinstance (by rfl) T.z_int boot_int) (ge_one (ge_not (ge_isi (ge_var (pv 0)) (by rfl) T.z_isinstance (by rfl) T.z_bool boot_bool))))))
theorem ok_powered (T : Txt K mg) : ∃ fd, (FnOk P w K mg base CX0 1 (He.ga K "powered") fd ["number", "times"] (spP K 2 f_powered)) ∧ PySem.W.keepIn K (.ref (He.ga K "powered")) = true ∧ FunD K "powered" "powered" (defArgs s17) (defBody s17) (defScope s17) [] [] (He.ga K "powered") fd := by
  obtain ⟨fd, F⟩ := T.d_17
  refine ⟨fd, fn_okP 2 F sc17 rfl fun cdv A outer s H E hr => ?_, F.kp, F⟩
  have sc := sc17
  have hu := hu_of hr
  have hu64 := hr.units
  exact (gss_cons (gs_set sc.nd rfl (Or.inl rfl) ge_int)
      (gss_cons (gs_for PassesOwn.never rfl (gi_rng1 (by rfl) T.z_range (ga_cons (ge_var (pv 1)) ga_nil)) (gg_name sc.nd rfl (Or.inl rfl)) (gss_one (gs_set sc.nd rfl (Or.inl rfl) (ge_bin op_mulI (ge_var (pv 2)) (ge_var (pv 0))))))
      (gss_one (gs_ret (ge_var (pv 2))))))
theorem ok_line_by (T : Txt K mg) : ∃ fd, (FnOk P w K mg base CX0 1 (He.ga K "line_by") fd ["rule", "n"] (spP K 2 f_line_by)) ∧ PySem.W.keepIn K (.ref (He.ga K "line_by")) = true ∧ FunD K "line_by" "line_by" (defArgs s21) (defBody s21) (defScope s21) [] [] (He.ga K "line_by") fd := by
  obtain ⟨fd, F⟩ := T.d_21
  refine ⟨fd, fn_okP 2 F sc21 rfl fun cdv A outer s H E hr => ?_, F.kp, F⟩
  have sc := sc21
  have hu := hu_of hr
  have hu64 := hr.units
  exact (gss_cons (gs_asg (ge_var (pv 0)) (gg_tup rfl (ggs_cons (gg_name sc.nd rfl (Or.inl rfl)) (ggs_cons (gg_name sc.nd rfl (Or.inl rfl)) ggs_nil))))
      (gss_cons (gs_setO sc.nd rfl (Or.inl rfl) (ge2_lst (ga_cons ge_int (ga_cons ge_int ga_nil))))
      (gss_cons (gs_while PassesOwn.never (gt_cmp op_leI (ge_lenL (gl_own (pv 4)) (by rfl) T.z_len) (ge_var (pv 1)) (nomark _)) (gss_one (gs_app (pv 4) (ge_bin op_subI (ge_bin op_mulI (ge_var (pv 2)) (ge_idxL (gl_own (pv 4)) (ge_neg ge_int))) (ge_bin op_mulI (ge_var (pv 3)) (ge_idxL (gl_own (pv 4)) (ge_neg ge_int)))))))
      (gss_one (gs_frz 4 (gs_ret (ge_slL (gl_of (ge_var (pv 4))) gp_no (gp_so (ge_bin op_addI (ge_var (pv 1)) ge_int)))))))))
theorem ok_steps_by (T : Txt K mg) : ∃ fd, (FnOk P w K mg base CX0 1 (He.ga K "steps_by") fd ["m", "n"] (spP K 2 f_steps_by)) ∧ PySem.W.keepIn K (.ref (He.ga K "steps_by")) = true ∧ FunD K "steps_by" "steps_by" (defArgs s30) (defBody s30) (defScope s30) [] [] (He.ga K "steps_by") fd := by
  obtain ⟨fd, F⟩ := T.d_30
  refine ⟨fd, fn_okP 2 F sc30 rfl fun cdv A outer s H E hr => ?_, F.kp, F⟩
  have sc := sc30
  have hu := hu_of hr
  have hu64 := hr.units
  exact (gss_cons (gs_setO sc.nd rfl (Or.inl rfl) (ge2_lst (ga_cons (ge_tup (ga_cons (ge_var (pv 0)) (ga_cons (ge_var (pv 1)) ga_nil))) ga_nil)))
      (gss_cons (gs_while PassesOwn.never (gt_cmp (op_neI hu64) (ge_idx hu (ge_idxL (gl_own (pv 2)) (ge_neg ge_int)) ge_int) ge_int (nomark _)) (gss_cons (gs_asg (ge_idxL (gl_own (pv 2)) (ge_neg ge_int)) (gg_tup rfl (ggs_cons (gg_name sc.nd rfl (Or.inl rfl)) (ggs_cons (gg_name sc.nd rfl (Or.inl rfl)) ggs_nil))))
      (gss_one (gs_app (pv 2) (ge_tup (ga_cons (ge_var (pv 4)) (ga_cons (ge_bin op_modI (ge_var (pv 3)) (ge_var (pv 4))) ga_nil)))))))
      (gss_one (gs_frz 2 (gs_ret (ge_var (pv 2)))))))
theorem ok_row_to (T : Txt K mg) : ∃ fd, (FnOk P w K mg base CX0 1 (He.ga K "row_to") fd ["rule", "first", "second", "n"] (spP K 4 f_row_to)) ∧ PySem.W.keepIn K (.ref (He.ga K "row_to")) = true ∧ FunD K "row_to" "row_to" (defArgs s37) (defBody s37) (defScope s37) [] [] (He.ga K "row_to") fd := by
  obtain ⟨fd, F⟩ := T.d_37
  refine ⟨fd, fn_okP 4 F sc37 rfl fun cdv A outer s H E hr => ?_, F.kp, F⟩
  have sc := sc37
  have hu := hu_of hr
  have hu64 := hr.units
  exact (gss_cons (gs_setO sc.nd rfl (Or.inl rfl) (ge2_lst (ga_cons (ge_var (pv 1)) (ga_cons (ge_var (pv 2)) ga_nil))))
      (gss_cons (gs_for PassesOwn.never rfl (gi_rng1 (by rfl) T.z_range (ga_cons (ge_var (pv 3)) ga_nil)) (gg_name sc.nd rfl (Or.inl rfl)) (gss_one (gs_app (pv 4) (ge_bin op_subI (ge_bin op_mulI (ge_idx hu (ge_var (pv 0)) ge_int) (ge_idxL (gl_own (pv 4)) (ge_neg ge_int))) (ge_bin op_mulI (ge_idx hu (ge_var (pv 0)) ge_int) (ge_idxL (gl_own (pv 4)) (ge_neg ge_int)))))))
      (gss_one (gs_frz 4 (gs_ret (ge_slL (gl_of (ge_var (pv 4))) gp_no (gp_so (ge_bin op_addI (ge_var (pv 3)) ge_int))))))))
theorem ok_is_small (T : Txt K mg) : ∃ fd, (FnOk P w K mg base CX0 1 (He.ga K "is_small") fd ["rule"] (spP K 1 f_is_small)) ∧ PySem.W.keepIn K (.ref (He.ga K "is_small")) = true ∧ FunD K "is_small" "is_small" (defArgs s44) (defBody s44) (defScope s44) [] [] (He.ga K "is_small") fd := by
  obtain ⟨fd, F⟩ := T.d_44
  refine ⟨fd, fn_okP 1 F sc44 rfl fun cdv A outer s H E hr => ?_, F.kp, F⟩
  have sc := sc44
  have hu := hu_of hr
  have hu64 := hr.units
  exact (gss_one (gs_ret (ge_cmp op_leI (ge_callB (gc_max rfl) (by rfl) T.z_max boot_max (ga_cons (ge_callB gc_abs (by rfl) T.z_abs boot_abs (ga_cons (ge_idx hu (ge_var (pv 0)) ge_int) ga_nil)) (ga_cons (ge_callB gc_abs (by rfl) T.z_abs boot_abs (ga_cons (ge_idx hu (ge_var (pv 0)) ge_int) ga_nil)) ga_nil))) (ge_globE (by rfl) T.c_MOST_NUMBER_OF) (nomark _))))
theorem ok_f_law_begun (T : Txt K mg) : ∃ fd, (FnOk P w K mg base CX0 1 (He.ga K "_law_begun") fd ["script"] (spB K f_f_law_begun)) ∧ PySem.W.keepIn K (.ref (He.ga K "_law_begun")) = true ∧ FunD K "_law_begun" "_law_begun" (defArgs s51) (defBody s51) (defScope s51) [] [] (He.ga K "_law_begun") fd := by
  obtain ⟨fd, F⟩ := T.d_51
  refine ⟨fd, fn_begun F sc51 fun cdv A outer s H E hr => ?_, F.kp, F⟩
  have sc := sc51
  have hu := hu_of hr
  have hu64 := hr.units
  exact (gb_cons (gs_parO rfl sc.nd rfl rfl (by decide) rfl rfl (go2_cons (ge2_of ge_int) (go2_cons (ge2_lst ga_nil) go2_nil)) rfl)
      (gb_cons (gs_for PassesOwn.never rfl (gi_list (ge_var (pv 0))) (gg_name sc.nd rfl (Or.inl rfl)) (gss_one (gs_if (gt_val (ge_isi (ge_var (pv 3)) (by rfl) T.z_isinstance (by rfl) T.z_int boot_int)) (gss_cons (gs_if (gt_cmp op_geI (ge_var (pv 3)) (ge_bin op_powI ge_int ge_int) (nomark _)) (gss_one (gs_set sc.nd rfl (Or.inl rfl) (ge_bin op_addI (ge_bin op_mulI (ge_var (pv 1)) (ge_bin op_addI (ge_bin op_subI (ge_var (pv 3)) (ge_bin op_powI ge_int ge_int)) ge_int)) (ge_bin op_subI (ge_var (pv 3)) (ge_bin op_powI ge_int ge_int))))) gss_nil)
      (gss_one (gs_app (pv 2) (ge_var (pv 3))))) gss_nil)))
      (gb_frz 2 (gb_ret (ge2_disp (ks := [kWhole, kCells, kCount]) (gps_cons pe_str (ge_var (pv 1)) (gps_cons pe_str (ge_var (pv 2)) (gps_cons pe_str ge_int gps_nil))) (by decide +kernel))))))
theorem ok_f_law_mixed (T : Txt K mg) : ∃ fd, (∀ a : Addr, FnOk P w K mg base CX0 1 (He.ga K "_law_mixed") fd ["draw"] (spW K (WD a) 1 (f_f_law_mixed a))) ∧ PySem.W.keepIn K (.ref (He.ga K "_law_mixed")) = true ∧ FunD K "_law_mixed" "_law_mixed" (defArgs s52) (defBody s52) (defScope s52) [] [] (He.ga K "_law_mixed") fd := by
  obtain ⟨fd, F⟩ := T.d_52
  refine ⟨fd, fun a => fn_okW 1 F sc52 rfl (fun cdv A outer s H E hr => ?_), F.kp, F⟩
  have sc := sc52
  have hu := hu_of hr
  have hu64 := hr.units
  exact (gss_cons (gs_drwC hu (pv 0) (ge_bin op_addI (ge_drwC hu (pv 0)) ge_int))
      (gss_cons (gs_set sc.nd rfl (Or.inl rfl) (ge_bin op_addI ge_int (ge_bin op_mulI ge_int (ge_drwC hu (pv 0)))))
      (gss_cons (gs_for PassesOwn.never rfl (gi_list (ge_bin op_addI (ge_drwL hu (pv 0)) (ge_lst (ga_cons (ge_drwC hu (pv 0)) ga_nil)))) (gg_name sc.nd rfl (Or.inl rfl)) (gss_cons (gs_set sc.nd rfl (Or.inl rfl) (ge_bin op_modI (ge_callTy gc_int (by rfl) T.z_int boot_int (ga_cons (ge_bin op_mulI (ge_bin op_addI (ge_var (pv 1)) (ge_var (pv 2))) ge_int) ga_nil)) (ge_bin op_subI (ge_bin op_powI ge_int ge_int) ge_int)))
      (gss_one (gs_set sc.nd rfl (Or.inl rfl) (ge_bin op_addI (ge_var (pv 1)) (ge_bin op_fdivI (ge_var (pv 1)) (ge_bin op_powI ge_int ge_int)))))))
      (gss_one (gs_ret (ge_var (pv 1)))))))
theorem ok_f_law_is_number (T : Txt K mg) : ∃ fd, (FnOk P w K mg base CX0 1 (He.ga K "_law_is_number") fd ["thing"] (spP K 1 f_f_law_is_number)) ∧ PySem.W.keepIn K (.ref (He.ga K "_law_is_number")) = true ∧ FunD K "_law_is_number" "_law_is_number" (defArgs s55) (defBody s55) (defScope s55) [] [] (He.ga K "_law_is_number") fd := by
  obtain ⟨fd, F⟩ := T.d_55
  refine ⟨fd, fn_okP 1 F sc55 rfl fun cdv A outer s H E hr => ?_, F.kp, F⟩
  have sc := sc55
  have hu := hu_of hr
  have hu64 := hr.units
  exact (gss_one (gs_ret (ge_and (ge_isi (ge_var (pv 0)) (by rfl) T.z_isinstance (by rfl) T.z_int boot_int) (ge_one (ge_not (ge_isi (ge_var (pv 0)) (by rfl) T.z_isinstance (by rfl) T.z_bool boot_bool))))))
theorem ok_f_law_common (T : Txt K mg) : ∃ fd, (FnOk P w K mg base CX0 1 (He.ga K "_law_common") fd ["one", "other"] (spP K 2 f_f_law_common)) ∧ PySem.W.keepIn K (.ref (He.ga K "_law_common")) = true ∧ FunD K "_law_common" "_law_common" (defArgs s56) (defBody s56) (defScope s56) [] [] (He.ga K "_law_common") fd := by
  obtain ⟨fd, F⟩ := T.d_56
  refine ⟨fd, fn_okP 2 F sc56 rfl fun cdv A outer s H E hr => ?_, F.kp, F⟩
  have sc := sc56
  have hu := hu_of hr
  have hu64 := hr.units
  exact (gss_cons (gs_parO rfl sc.nd rfl rfl (by decide) rfl rfl (go2_cons (ge2_of (ge_callB gc_abs (by rfl) T.z_abs boot_abs (ga_cons (ge_var (pv 0)) ga_nil))) (go2_cons (ge2_of (ge_callB gc_abs (by rfl) T.z_abs boot_abs (ga_cons (ge_var (pv 1)) ga_nil))) go2_nil)) rfl)
      (gss_cons (gs_for PassesOwn.never rfl (gi_rng1 (by rfl) T.z_range (ga_cons ge_int ga_nil)) (gg_name sc.nd rfl (Or.inl rfl)) (gss_cons (gs_if (gt_cmp (op_eqI hu64) (ge_var (pv 3)) ge_int (nomark _)) (gss_one (gs_ret (ge_var (pv 2)))) gss_nil)
      (gss_one (gs_parO rfl sc.nd rfl rfl (by decide) rfl rfl (go2_cons (ge2_of (ge_var (pv 3))) (go2_cons (ge2_of (ge_bin op_modI (ge_callTy gc_int (by rfl) T.z_int boot_int (ga_cons (ge_var (pv 2)) ga_nil)) (ge_callTy gc_int (by rfl) T.z_int boot_int (ga_cons (ge_var (pv 3)) ga_nil)))) go2_nil)) rfl))))
      (gss_one (gs_ret (ge_var (pv 2))))))
theorem ok_is_within_bounds (T : Txt K mg) : ∃ fd, (FnOk P w K mg base CX0 2 (He.ga K "is_within_bounds") fd ["thing", "low", "high"] (spP K 3 f_is_within_bounds)) ∧ PySem.W.keepIn K (.ref (He.ga K "is_within_bounds")) = true ∧ FunD K "is_within_bounds" "is_within_bounds" (defArgs s13) (defBody s13) (defScope s13) [] [] (He.ga K "is_within_bounds") fd := by
  obtain ⟨fd, F⟩ := T.d_13
  obtain ⟨fd12, F12, k12, D12⟩ := ok_is_whole (P := P) (w := w) (base := base) T
  have b12 : Binds K fd12 ["thing"] [] := D12.bindsN fun _ _ _ _ _ _ us hl => match us, hl with | [_], _ => rfl
  refine ⟨fd, fn_okP 3 F sc13 rfl fun cdv A outer s H E hr => ?_, F.kp, F⟩
  have sc := sc13
  have hu := hu_of hr
  have hu64 := hr.units
  exact (gss_one (gs_ret (ge_and (ge_call F12 (hr.mono (by decide)) (by rfl) T.g_is_whole k12 b12 .nil (fun _ => Reps.nil) (ga_cons (ge_var (pv 0)) ga_nil)) (ge_one (ge_chain op_leI op_leI (ge_var (pv 1)) (ge_var (pv 0)) (ge_var (pv 2)))))))
theorem ok_member_by (T : Txt K mg) : ∃ fd, (FnOk P w K mg base CX0 2 (He.ga K "member_by") fd ["rule", "n"] (spP K 2 f_member_by)) ∧ PySem.W.keepIn K (.ref (He.ga K "member_by")) = true ∧ FunD K "member_by" "member_by" (defArgs s22) (defBody s22) (defScope s22) [] [] (He.ga K "member_by") fd := by
  obtain ⟨fd, F⟩ := T.d_22
  obtain ⟨fd21, F21, k21, D21⟩ := ok_line_by (P := P) (w := w) (base := base) T
  have b21 : Binds K fd21 ["rule", "n"] [] := D21.bindsN fun _ _ _ _ _ _ us hl => match us, hl with | [_, _], _ => rfl
  refine ⟨fd, fn_okP 2 F sc22 rfl fun cdv A outer s H E hr => ?_, F.kp, F⟩
  have sc := sc22
  have hu := hu_of hr
  have hu64 := hr.units
  exact (gss_one (gs_ret (ge_idx hu (ge_call F21 (hr.mono (by decide)) (by rfl) T.g_line_by k21 b21 .nil (fun _ => Reps.nil) (ga_cons (ge_var (pv 0)) (ga_cons (ge_var (pv 1)) ga_nil))) (ge_neg ge_int))))
theorem ok_mate_by (T : Txt K mg) : ∃ fd, (FnOk P w K mg base CX0 2 (He.ga K "mate_by") fd ["rule", "n"] (spP K 2 f_mate_by)) ∧ PySem.W.keepIn K (.ref (He.ga K "mate_by")) = true ∧ FunD K "mate_by" "mate_by" (defArgs s23) (defBody s23) (defScope s23) [] [] (He.ga K "mate_by") fd := by
  obtain ⟨fd, F⟩ := T.d_23
  obtain ⟨fd21, F21, k21, D21⟩ := ok_line_by (P := P) (w := w) (base := base) T
  have b21 : Binds K fd21 ["rule", "n"] [] := D21.bindsN fun _ _ _ _ _ _ us hl => match us, hl with | [_, _], _ => rfl
  refine ⟨fd, fn_okP 2 F sc23 rfl fun cdv A outer s H E hr => ?_, F.kp, F⟩
  have sc := sc23
  have hu := hu_of hr
  have hu64 := hr.units
  exact (gss_cons (gs_set sc.nd rfl (Or.inl rfl) (ge_call F21 (hr.mono (by decide)) (by rfl) T.g_line_by k21 b21 .nil (fun _ => Reps.nil) (ga_cons (ge_var (pv 0)) (ga_cons (ge_bin op_addI (ge_var (pv 1)) ge_int) ga_nil))))
      (gss_one (gs_ret (ge_bin op_subI (ge_bin op_mulI ge_int (ge_idx hu (ge_var (pv 2)) (ge_neg ge_int))) (ge_bin op_mulI (ge_idx hu (ge_var (pv 0)) ge_int) (ge_idx hu (ge_var (pv 2)) (ge_neg ge_int)))))))
theorem ok_need_n (T : Txt K mg) : ∃ fd, (FnOk P w K mg base CX0 2 (He.ga K "need_n") fd ["n"] (spP K 1 f_need_n)) ∧ PySem.W.keepIn K (.ref (He.ga K "need_n")) = true ∧ FunD K "need_n" "need_n" (defArgs s35) (defBody s35) (defScope s35) [] [] (He.ga K "need_n") fd := by
  obtain ⟨fd, F⟩ := T.d_35
  obtain ⟨fd12, F12, k12, D12⟩ := ok_is_whole (P := P) (w := w) (base := base) T
  have b12 : Binds K fd12 ["thing"] [] := D12.bindsN fun _ _ _ _ _ _ us hl => match us, hl with | [_], _ => rfl
  refine ⟨fd, fn_okP 1 F sc35 rfl fun cdv A outer s H E hr => ?_, F.kp, F⟩
  have sc := sc35
  have hu := hu_of hr
  have hu64 := hr.units
  exact (gss_one (gs_if (GW.pt (gw_or (gt_not (gt_val (ge_call F12 (hr.mono (by decide)) (by rfl) T.g_is_whole k12 b12 .nil (fun _ => Reps.nil) (ga_cons (ge_var (pv 0)) ga_nil)))) (gw_or1 (gt_not (gt_chain op_leI op_leI ge_int (ge_var (pv 0)) (ge_globE (by rfl) T.c_MOST_INDEX)))))) (gss_one gs_never) gss_nil))
theorem ok_f_law_take (T : Txt K mg) : ∃ fd, (∀ a : Addr, FnOk P w K mg base CX0 2 (He.ga K "_law_take") fd ["draw", "amount"] (spW K (WD a) 2 (f_f_law_take a))) ∧ PySem.W.keepIn K (.ref (He.ga K "_law_take")) = true ∧ FunD K "_law_take" "_law_take" (defArgs s53) (defBody s53) (defScope s53) [] [] (He.ga K "_law_take") fd := by
  obtain ⟨fd, F⟩ := T.d_53
  obtain ⟨fd52, F52, k52, D52⟩ := ok_f_law_mixed (P := P) (w := w) (base := base) T
  have b52 : Binds K fd52 ["draw"] [] := D52.bindsN fun _ _ _ _ _ _ us hl => match us, hl with | [_], _ => rfl
  refine ⟨fd, fun a => fn_okW 2 F sc53 rfl (fun cdv A outer s H E hr => ?_), F.kp, F⟩
  have sc := sc53
  have hu := hu_of hr
  have hu64 := hr.units
  exact (gss_cons (gs_if (gt_cmp op_ltI (ge_var (pv 1)) ge_int (nomark _)) (gss_one (gs_ret ge_int)) gss_nil)
      (gss_cons (gs_if (gt_cmp op_gtI (ge_drwW hu (pv 0)) ge_int (nomark _)) (gss_cons (gs_set sc.nd rfl (Or.inl rfl) (ge_bin op_modI (ge_callTy gc_int (by rfl) T.z_int boot_int (ga_cons (ge_drwW hu (pv 0)) ga_nil)) (ge_var (pv 1))))
      (gss_cons (gs_drwW hu (pv 0) (ge_bin op_fdivI (ge_drwW hu (pv 0)) (ge_var (pv 1))))
      (gss_one (gs_ret (ge_var (pv 2)))))) gss_nil)
      (gss_cons (gs_set sc.nd rfl (Or.inl rfl) (ge_callW (F52 a) (hr.mono (by decide)) (by rfl) T.g__law_mixed k52 b52 .nil (fun _ => Reps.nil) (ga_cons (ge_var (pv 0)) ga_nil)))
      (gss_cons (gs_while PassesOwn.never (GW.pt (gw_and (gt_cmp op_gtI (ge_var (pv 1)) (ge_bin op_powI ge_int ge_int) (nomark _)) (gw_and1 (gt_cmp op_ltI (ge_var (pv 2)) (ge_bin op_mulI (ge_var (pv 1)) (ge_var (pv 1))) (nomark _))))) (gss_one (gs_set sc.nd rfl (Or.inl rfl) (ge_bin op_addI (ge_bin op_mulI (ge_var (pv 2)) (ge_bin op_powI ge_int ge_int)) (ge_callW (F52 a) (hr.mono (by decide)) (by rfl) T.g__law_mixed k52 b52 .nil (fun _ => Reps.nil) (ga_cons (ge_var (pv 0)) ga_nil))))))
      (gss_one (gs_ret (ge_bin op_modI (ge_callTy gc_int (by rfl) T.z_int boot_int (ga_cons (ge_bin op_fdivI (ge_var (pv 2)) ge_int) ga_nil)) (ge_var (pv 1)))))))))
theorem ok_f_law_is_rule (T : Txt K mg) : ∃ fd, (FnOk P w K mg base CX0 2 (He.ga K "_law_is_rule") fd ["thing"] (spP K 1 f_f_law_is_rule)) ∧ PySem.W.keepIn K (.ref (He.ga K "_law_is_rule")) = true ∧ FunD K "_law_is_rule" "_law_is_rule" (defArgs s57) (defBody s57) (defScope s57) [] [] (He.ga K "_law_is_rule") fd := by
  obtain ⟨fd, F⟩ := T.d_57
  obtain ⟨fd55, F55, k55, D55⟩ := ok_f_law_is_number (P := P) (w := w) (base := base) T
  have b55 : Binds K fd55 ["thing"] [] := D55.bindsN fun _ _ _ _ _ _ us hl => match us, hl with | [_], _ => rfl
  obtain ⟨fd56, F56, k56, D56⟩ := ok_f_law_common (P := P) (w := w) (base := base) T
  have b56 : Binds K fd56 ["one", "other"] [] := D56.bindsN fun _ _ _ _ _ _ us hl => match us, hl with | [_, _], _ => rfl
  refine ⟨fd, fn_okP 1 F sc57 rfl fun cdv A outer s H E hr => ?_, F.kp, F⟩
  have sc := sc57
  have hu := hu_of hr
  have hu64 := hr.units
  exact (gss_cons (gs_if (GW.pt (gw_or (gt_not (gt_val (ge_isi (ge_var (pv 0)) (by rfl) T.z_isinstance (by rfl) T.z_tuple boot_tuple))) (gw_or (gt_cmp (op_neI hu64) (ge_callB gc_len (by rfl) T.z_len boot_len (ga_cons (ge_var (pv 0)) ga_nil)) ge_int (nomark _)) (gw_or1 (gt_cmp (op_neI hu64) (ge_lc (own := [("item", 3)]) rfl sc.nd (gi_tup (ge_var (pv 0))) (blkOk_by (N := N57) (sc := defScope s57) (by decide +kernel)) (fun _ _ _ _ _ => (gg_name sc.nd rfl (Or.inl rfl))) (fun _ _ _ _ _ => (gts_one (GW.pt (gw_or (gt_not (gt_val (ge_call F55 (hr.mono (by decide)) (by rfl) T.g__law_is_number k55 b55 .nil (fun _ => Reps.nil) (ga_cons (ge_var (pv 3)) ga_nil)))) (gw_or (gt_cmp (op_eqI hu64) (ge_var (pv 3)) ge_int (nomark _)) (gw_or1 (gt_cmp op_gtI (ge_callB gc_abs (by rfl) T.z_abs boot_abs (ga_cons (ge_var (pv 3)) ga_nil)) (ge_bin op_powI ge_int ge_int) (nomark _)))))))) (fun _ _ _ _ _ => (ge_var (pv 3)))) (ge_lst ga_nil) (nomark _)))))) (gss_one (gs_ret ge_bl)) gss_nil)
      (gss_cons (gs_asg (ge_var (pv 0)) (gg_tup rfl (ggs_cons (gg_name sc.nd rfl (Or.inl rfl)) (ggs_cons (gg_name sc.nd rfl (Or.inl rfl)) ggs_nil))))
      (gss_one (gs_ret (ge_and (ge_cmp (op_eqI hu64) (ge_call F56 (hr.mono (by decide)) (by rfl) T.g__law_common k56 b56 .nil (fun _ => Reps.nil) (ga_cons (ge_var (pv 1)) (ga_cons (ge_var (pv 2)) ga_nil))) ge_int (nomark _)) (ge_one (ge_cmp op_ninI (ge_bin op_mulI (ge_var (pv 1)) (ge_var (pv 1))) (ge_lst (ga_cons (ge_var (pv 2)) (ga_cons (ge_bin op_mulI ge_int (ge_var (pv 2))) (ga_cons (ge_bin op_mulI ge_int (ge_var (pv 2))) (ga_cons (ge_bin op_mulI ge_int (ge_var (pv 2))) ga_nil))))) (by rfl))))))))
theorem ok_fault_by (T : Txt K mg) : ∃ fd, (FnOk P w K mg base CX0 3 (He.ga K "fault_by") fd ["thing"] (spP K 1 f_fault_by)) ∧ PySem.W.keepIn K (.ref (He.ga K "fault_by")) = true ∧ FunD K "fault_by" "fault_by" (defArgs s14) (defBody s14) (defScope s14) [] [] (He.ga K "fault_by") fd := by
  obtain ⟨fd, F⟩ := T.d_14
  obtain ⟨fd13, F13, k13, D13⟩ := ok_is_within_bounds (P := P) (w := w) (base := base) T
  have b13 : Binds K fd13 ["thing", "low", "high"] [] := D13.bindsN fun _ _ _ _ _ _ us hl => match us, hl with | [_, _, _], _ => rfl
  refine ⟨fd, fn_okP 1 F sc14 rfl fun cdv A outer s H E hr => ?_, F.kp, F⟩
  have sc := sc14
  have hu := hu_of hr
  have hu64 := hr.units
  exact (gss_cons (gs_if (GW.pt (gw_or (gt_not (gt_val (ge_isi (ge_var (pv 0)) (by rfl) T.z_isinstance (by rfl) T.z_tuple boot_tuple))) (gw_or1 (gt_cmp (op_neI hu64) (ge_callB gc_len (by rfl) T.z_len boot_len (ga_cons (ge_var (pv 0)) ga_nil)) ge_int (nomark _))))) (gss_one (gs_ret ge_str)) gss_nil)
      (gss_cons (gs_if (gt_not (gt_val (ge_callB (gc_all rfl) (by rfl) T.z_all boot_all (ga_cons (ge_lc (own := [("number", 3)]) rfl sc.nd (gi_tup (ge_var (pv 0))) (blkOk_by (N := N14) (sc := defScope s14) (by decide +kernel)) (fun _ _ _ _ _ => (gg_name sc.nd rfl (Or.inl rfl))) (fun _ _ _ _ _ => gts_nil) (fun _ _ _ _ _ => (ge_and (ge_call F13 (hr.mono (by decide)) (by rfl) T.g_is_within_bounds k13 b13 .nil (fun _ => Reps.nil) (ga_cons (ge_var (pv 3)) (ga_cons (ge_neg (ge_globE (by rfl) T.c_MOST_NUMBER_OF)) (ga_cons (ge_globE (by rfl) T.c_MOST_NUMBER_OF) ga_nil)))) (ge_one (ge_cmp (op_neI hu64) (ge_var (pv 3)) ge_int (nomark _)))))) ga_nil)))) (gss_one (gs_ret ge_str)) gss_nil)
      (gss_cons (gs_asg (ge_var (pv 0)) (gg_tup rfl (ggs_cons (gg_name sc.nd rfl (Or.inl rfl)) (ggs_cons (gg_name sc.nd rfl (Or.inl rfl)) ggs_nil))))
      (gss_cons (gs_if (gt_cmp (op_neI hu64) (ge_callBg gc_gcd (by rfl) T.y_gcd (ga_cons (ge_var (pv 1)) (ga_cons (ge_var (pv 2)) ga_nil))) ge_int (nomark _)) (gss_one (gs_ret ge_str)) gss_nil)
      (gss_one (gs_ret (ge_if (gt_cmp op_inI (ge_bin op_mulI (ge_var (pv 1)) (ge_var (pv 1))) (ge_tup (ga_cons (ge_var (pv 2)) (ga_cons (ge_bin op_mulI ge_int (ge_var (pv 2))) (ga_cons (ge_bin op_mulI ge_int (ge_var (pv 2))) (ga_cons (ge_bin op_mulI ge_int (ge_var (pv 2))) ga_nil))))) (by rfl)) ge_str ge_non)))))))
theorem ok_need_n_members (T : Txt K mg) : ∃ fd, (FnOk P w K mg base CX0 3 (He.ga K "need_n_members") fd ["n", "low", "high"] (spP K 3 f_need_n_members)) ∧ PySem.W.keepIn K (.ref (He.ga K "need_n_members")) = true ∧ FunD K "need_n" "need_n" (defArgs s24) (defBody s24) (defScope s24) [] [] (He.ga K "need_n_members") fd := by
  obtain ⟨fd, F⟩ := T.d_24
  obtain ⟨fd13, F13, k13, D13⟩ := ok_is_within_bounds (P := P) (w := w) (base := base) T
  have b13 : Binds K fd13 ["thing", "low", "high"] [] := D13.bindsN fun _ _ _ _ _ _ us hl => match us, hl with | [_, _, _], _ => rfl
  refine ⟨fd, fn_okP 3 F sc24 rfl fun cdv A outer s H E hr => ?_, F.kp, F⟩
  have sc := sc24
  have hu := hu_of hr
  have hu64 := hr.units
  exact (gss_one (gs_if (gt_not (gt_val (ge_call F13 (hr.mono (by decide)) (by rfl) T.g_is_within_bounds k13 b13 .nil (fun _ => Reps.nil) (ga_cons (ge_var (pv 0)) (ga_cons (ge_var (pv 1)) (ga_cons (ge_var (pv 2)) ga_nil)))))) (gss_one gs_never) gss_nil))
theorem ok_within_by (T : Txt K mg) : ∃ fd, (FnOk P w K mg base CX0 3 (He.ga K "within_by") fd ["rule", "k"] (spP K 2 f_within_by)) ∧ PySem.W.keepIn K (.ref (He.ga K "within_by")) = true ∧ FunD K "within_by" "within_by" (defArgs s43) (defBody s43) (defScope s43) [] [] (He.ga K "within_by") fd := by
  obtain ⟨fd, F⟩ := T.d_43
  obtain ⟨fd17, F17, k17, D17⟩ := ok_powered (P := P) (w := w) (base := base) T
  have b17 : Binds K fd17 ["number", "times"] [] := D17.bindsN fun _ _ _ _ _ _ us hl => match us, hl with | [_, _], _ => rfl
  obtain ⟨fd23, F23, k23, D23⟩ := ok_mate_by (P := P) (w := w) (base := base) T
  have b23 : Binds K fd23 ["rule", "n"] [] := D23.bindsN fun _ _ _ _ _ _ us hl => match us, hl with | [_, _], _ => rfl
  refine ⟨fd, fn_okP 2 F sc43 rfl fun cdv A outer s H E hr => ?_, F.kp, F⟩
  have sc := sc43
  have hu := hu_of hr
  have hu64 := hr.units
  exact (gss_one (gs_ret (ge_tup (ga_cons (ge_call F23 (hr.mono (by decide)) (by rfl) T.g_mate_by k23 b23 .nil (fun _ => Reps.nil) (ga_cons (ge_var (pv 0)) (ga_cons (ge_var (pv 1)) ga_nil))) (ga_cons (ge_call F17 (hr.mono (by decide)) (by rfl) T.g_powered k17 b17 .nil (fun _ => Reps.nil) (ga_cons (ge_idx hu (ge_var (pv 0)) ge_int) (ga_cons (ge_var (pv 1)) ga_nil))) ga_nil)))))
theorem ok_need_k (T : Txt K mg) : ∃ fd, (FnOk P w K mg base CX0 3 (He.ga K "need_k") fd ["k"] (spP K 1 f_need_k)) ∧ PySem.W.keepIn K (.ref (He.ga K "need_k")) = true ∧ FunD K "need_k" "need_k" (defArgs s45) (defBody s45) (defScope s45) [] [] (He.ga K "need_k") fd := by
  obtain ⟨fd, F⟩ := T.d_45
  obtain ⟨fd13, F13, k13, D13⟩ := ok_is_within_bounds (P := P) (w := w) (base := base) T
  have b13 : Binds K fd13 ["thing", "low", "high"] [] := D13.bindsN fun _ _ _ _ _ _ us hl => match us, hl with | [_, _, _], _ => rfl
  refine ⟨fd, fn_okP 1 F sc45 rfl fun cdv A outer s H E hr => ?_, F.kp, F⟩
  have sc := sc45
  have hu := hu_of hr
  have hu64 := hr.units
  exact (gss_one (gs_if (gt_not (gt_val (ge_call F13 (hr.mono (by decide)) (by rfl) T.g_is_within_bounds k13 b13 .nil (fun _ => Reps.nil) (ga_cons (ge_var (pv 0)) (ga_cons ge_int (ga_cons (ge_globE (by rfl) T.c_MOST_K) ga_nil)))))) (gss_one gs_never) gss_nil))
theorem ok_f_law_pick (T : Txt K mg) : ∃ fd, (∀ a : Addr, FnOk P w K mg base CX0 3 (He.ga K "_law_pick") fd ["draw", "items"] (spW K (WD a) 2 (f_f_law_pick a))) ∧ PySem.W.keepIn K (.ref (He.ga K "_law_pick")) = true ∧ FunD K "_law_pick" "_law_pick" (defArgs s54) (defBody s54) (defScope s54) [] [] (He.ga K "_law_pick") fd := by
  obtain ⟨fd, F⟩ := T.d_54
  obtain ⟨fd53, F53, k53, D53⟩ := ok_f_law_take (P := P) (w := w) (base := base) T
  have b53 : Binds K fd53 ["draw", "amount"] [] := D53.bindsN fun _ _ _ _ _ _ us hl => match us, hl with | [_, _], _ => rfl
  refine ⟨fd, fun a => fn_okW 2 F sc54 rfl (fun cdv A outer s H E hr => ?_), F.kp, F⟩
  have sc := sc54
  have hu := hu_of hr
  have hu64 := hr.units
  exact (gss_one (gs_ret (ge_idx hu (ge_var (pv 1)) (ge_callW (F53 a) (hr.mono (by decide)) (by rfl) T.g__law_take k53 b53 .nil (fun _ => Reps.nil) (ga_cons (ge_var (pv 0)) (ga_cons (ge_callB gc_len (by rfl) T.z_len boot_len (ga_cons (ge_var (pv 1)) ga_nil)) ga_nil))))))
theorem ok_is_rule_of (T : Txt K mg) : ∃ fd, (FnOk P w K mg base CX0 4 (He.ga K "is_rule_of") fd ["thing"] (spP K 1 f_is_rule_of)) ∧ PySem.W.keepIn K (.ref (He.ga K "is_rule_of")) = true ∧ FunD K "is_rule_of" "is_rule_of" (defArgs s15) (defBody s15) (defScope s15) [] [] (He.ga K "is_rule_of") fd := by
  obtain ⟨fd, F⟩ := T.d_15
  obtain ⟨fd14, F14, k14, D14⟩ := ok_fault_by (P := P) (w := w) (base := base) T
  have b14 : Binds K fd14 ["thing"] [] := D14.bindsN fun _ _ _ _ _ _ us hl => match us, hl with | [_], _ => rfl
  refine ⟨fd, fn_okP 1 F sc15 rfl fun cdv A outer s H E hr => ?_, F.kp, F⟩
  have sc := sc15
  have hu := hu_of hr
  have hu64 := hr.units
  exact (gss_one (gs_ret (ge_cmp op_isN' (ge_call F14 (hr.mono (by decide)) (by rfl) T.g_fault_by k14 b14 .nil (fun _ => Reps.nil) (ga_cons (ge_var (pv 0)) ga_nil)) ge_non (nomark _))))
theorem ok_line_within (T : Txt K mg) : ∃ fd, (FnOk P w K mg base CX0 4 (He.ga K "line_within") fd ["rule"] (spP K 1 f_line_within)) ∧ PySem.W.keepIn K (.ref (He.ga K "line_within")) = true ∧ FunD K "line_within" "line_within" (defArgs s48) (defBody s48) (defScope s48) [] [] (He.ga K "line_within") fd := by
  obtain ⟨fd, F⟩ := T.d_48
  obtain ⟨fd43, F43, k43, D43⟩ := ok_within_by (P := P) (w := w) (base := base) T
  have b43 : Binds K fd43 ["rule", "k"] [] := D43.bindsN fun _ _ _ _ _ _ us hl => match us, hl with | [_, _], _ => rfl
  obtain ⟨fd44, F44, k44, D44⟩ := ok_is_small (P := P) (w := w) (base := base) T
  have b44 : Binds K fd44 ["rule"] [] := D44.bindsN fun _ _ _ _ _ _ us hl => match us, hl with | [_], _ => rfl
  refine ⟨fd, fn_okP 1 F sc48 rfl fun cdv A outer s H E hr => ?_, F.kp, F⟩
  have sc := sc48
  have hu := hu_of hr
  have hu64 := hr.units
  exact (gss_cons (gs_setO sc.nd rfl (Or.inl rfl) (ge2_lst ga_nil))
      (gss_cons (gs_for PassesOwn.never rfl (gi_rng2 (by rfl) T.z_range (ga_cons ge_int (ga_cons (ge_bin op_addI (ge_globE (by rfl) T.c_MOST_K) ge_int) ga_nil))) (gg_name sc.nd rfl (Or.inl rfl)) (gss_cons (gs_set sc.nd rfl (Or.inl rfl) (ge_call F43 (hr.mono (by decide)) (by rfl) T.g_within_by k43 b43 .nil (fun _ => Reps.nil) (ga_cons (ge_var (pv 0)) (ga_cons (ge_var (pv 2)) ga_nil))))
      (gss_cons (gs_if (gt_not (gt_val (ge_call F44 (hr.mono (by decide)) (by rfl) T.g_is_small k44 b44 .nil (fun _ => Reps.nil) (ga_cons (ge_var (pv 3)) ga_nil)))) (gss_one gs_bk) gss_nil)
      (gss_one (gs_app (pv 1) (ge_var (pv 3)))))))
      (gss_one (gs_frz 1 (gs_ret (ge_var (pv 1)))))))
theorem ok_f_law_rule (T : Txt K mg) : ∃ fd, (∀ a : Addr, FnOk P w K mg base CX0 4 (He.ga K "_law_rule") fd ["draw"] (spW K (WD a) 1 (f_f_law_rule a))) ∧ PySem.W.keepIn K (.ref (He.ga K "_law_rule")) = true ∧ FunD K "_law_rule" "_law_rule" (defArgs s58) (defBody s58) (defScope s58) [] [] (He.ga K "_law_rule") fd := by
  obtain ⟨fd, F⟩ := T.d_58
  obtain ⟨fd53, F53, k53, D53⟩ := ok_f_law_take (P := P) (w := w) (base := base) T
  have b53 : Binds K fd53 ["draw", "amount"] [] := D53.bindsN fun _ _ _ _ _ _ us hl => match us, hl with | [_, _], _ => rfl
  obtain ⟨fd54, F54, k54, D54⟩ := ok_f_law_pick (P := P) (w := w) (base := base) T
  have b54 : Binds K fd54 ["draw", "items"] [] := D54.bindsN fun _ _ _ _ _ _ us hl => match us, hl with | [_, _], _ => rfl
  obtain ⟨fd57, F57, k57, D57⟩ := ok_f_law_is_rule (P := P) (w := w) (base := base) T
  have b57 : Binds K fd57 ["thing"] [] := D57.bindsN fun _ _ _ _ _ _ us hl => match us, hl with | [_], _ => rfl
  refine ⟨fd, fun a => fn_okW 1 F sc58 rfl (fun cdv A outer s H E hr => ?_), F.kp, F⟩
  have sc := sc58
  have hu := hu_of hr
  have hu64 := hr.units
  exact (gss_cons (gs_set sc.nd rfl (Or.inl rfl) (ge_lst (ga_cons (ge_tup (ga_cons ge_int (ga_cons (ge_bin op_subI ge_int ge_int) ga_nil))) (ga_cons (ge_tup (ga_cons ge_int (ga_cons ge_int ga_nil))) (ga_cons (ge_tup (ga_cons ge_int (ga_cons ge_int ga_nil))) (ga_cons (ge_tup (ga_cons (ge_bin op_subI ge_int ge_int) (ga_cons ge_int ga_nil))) (ga_cons (ge_tup (ga_cons ge_int (ga_cons (ge_bin op_subI ge_int ge_int) ga_nil))) (ga_cons (ge_tup (ga_cons ge_int (ga_cons ge_int ga_nil))) (ga_cons (ge_tup (ga_cons ge_int (ga_cons ge_int ga_nil))) (ga_cons (ge_tup (ga_cons ge_int (ga_cons ge_int ga_nil))) (ga_cons (ge_tup (ga_cons ge_int (ga_cons ge_int ga_nil))) (ga_cons (ge_tup (ga_cons ge_int (ga_cons (ge_bin op_subI ge_int ge_int) ga_nil))) (ga_cons (ge_tup (ga_cons ge_int (ga_cons ge_int ga_nil))) (ga_cons (ge_tup (ga_cons ge_int (ga_cons ge_int ga_nil))) (ga_cons (ge_tup (ga_cons ge_int (ga_cons (ge_bin op_subI ge_int ge_int) ga_nil))) ga_nil)))))))))))))))
      (gss_cons (gs_parO rfl sc.nd rfl rfl (by decide) rfl rfl (go2_cons (ge2_of (ge_callW (F53 a) (hr.mono (by decide)) (by rfl) T.g__law_take k53 b53 .nil (fun _ => Reps.nil) (ga_cons (ge_var (pv 0)) (ga_cons ge_int ga_nil)))) (go2_cons (ge2_of (ge_callW (F54 a) (hr.mono (by decide)) (by rfl) T.g__law_pick k54 b54 .nil (fun _ => Reps.nil) (ga_cons (ge_var (pv 0)) (ga_cons (ge_var (pv 1)) ga_nil)))) go2_nil)) rfl)
      (gss_cons (gs_set sc.nd rfl (Or.inl rfl) (ge_callW (F54 a) (hr.mono (by decide)) (by rfl) T.g__law_pick k54 b54 .nil (fun _ => Reps.nil) (ga_cons (ge_var (pv 0)) (ga_cons (ge_lst (ga_cons ge_int (ga_cons ge_int (ga_cons ge_int (ga_cons ge_int (ga_cons (ge_bin op_powI ge_int ge_int) ga_nil)))))) ga_nil))))
      (gss_cons (gs_for PassesOwn.never rfl (gi_rng1 (by rfl) T.z_range (ga_cons ge_int ga_nil)) (gg_name sc.nd rfl (Or.inl rfl)) (gss_cons (gs_parO rfl sc.nd rfl rfl (by decide) rfl rfl (go2_cons (ge2_of (ge_bin op_subI (ge_callW (F53 a) (hr.mono (by decide)) (by rfl) T.g__law_take k53 b53 .nil (fun _ => Reps.nil) (ga_cons (ge_var (pv 0)) (ga_cons (ge_bin op_addI (ge_bin op_mulI ge_int (ge_var (pv 4))) ge_int) ga_nil))) (ge_var (pv 4)))) (go2_cons (ge2_of (ge_callW (F54 a) (hr.mono (by decide)) (by rfl) T.g__law_pick k54 b54 .nil (fun _ => Reps.nil) (ga_cons (ge_var (pv 0)) (ga_cons (ge_lst (ga_cons (ge_bin op_subI (ge_callW (F53 a) (hr.mono (by decide)) (by rfl) T.g__law_take k53 b53 .nil (fun _ => Reps.nil) (ga_cons (ge_var (pv 0)) (ga_cons (ge_bin op_addI (ge_bin op_mulI ge_int (ge_var (pv 4))) ge_int) ga_nil))) (ge_var (pv 4))) (ga_cons ge_int (ga_cons (ge_bin op_subI ge_int ge_int) ga_nil)))) ga_nil)))) go2_nil)) rfl)
      (gss_one (gs_if (GW.pt (gw_and (gt_cmp op_gtI (ge_var (pv 2)) ge_int (nomark _)) (gw_and1 (gt_val (ge_call F57 (hr.mono (by decide)) (by rfl) T.g__law_is_rule k57 b57 .nil (fun _ => Reps.nil) (ga_cons (ge_tup (ga_cons (ge_var (pv 6)) (ga_cons (ge_var (pv 7)) ga_nil))) ga_nil)))))) (gss_one (gs_ret (ge_tup (ga_cons (ge_var (pv 6)) (ga_cons (ge_var (pv 7)) ga_nil))))) gss_nil))))
      (gss_one (gs_ret (ge_var (pv 3))))))))
theorem ok_need_rule (T : Txt K mg) : ∃ fd, (FnOk P w K mg base CX0 5 (He.ga K "need_rule") fd ["rule", "which"] (spP K 2 f_need_rule)) ∧ PySem.W.keepIn K (.ref (He.ga K "need_rule")) = true ∧ FunD K "need_rule" "need_rule" (defArgs s16) (defBody s16) (defScope s16) [V.str "rule"] [] (He.ga K "need_rule") fd := by
  obtain ⟨fd, F⟩ := T.d_16
  obtain ⟨fd15, F15, k15, D15⟩ := ok_is_rule_of (P := P) (w := w) (base := base) T
  have b15 : Binds K fd15 ["thing"] [] := D15.bindsN fun _ _ _ _ _ _ us hl => match us, hl with | [_], _ => rfl
  refine ⟨fd, fn_okP 2 F sc16 rfl fun cdv A outer s H E hr => ?_, F.kp, F⟩
  have sc := sc16
  have hu := hu_of hr
  have hu64 := hr.units
  exact (gss_cons (gs_if (gt_val (ge_call F15 (hr.mono (by decide)) (by rfl) T.g_is_rule_of k15 b15 .nil (fun _ => Reps.nil) (ga_cons (ge_var (pv 0)) ga_nil))) (gss_one gs_retN) gss_nil)
      (gss_cons (gs_if (gt_cmp (op_eqI hu64) (ge_var (pv 1)) ge_str (nomark _)) (gss_one gs_never) gss_nil)
      (gss_cons (gs_if (gt_cmp (op_eqI hu64) (ge_var (pv 1)) ge_str (nomark _)) (gss_one gs_never) gss_nil)
      (gss_one gs_never))))
theorem ok_member (T : Txt K mg) : ∃ fd, (FnOk P w K mg base CX0 6 (He.ga K "member") fd ["rule", "n"] (spP K 2 f_member)) ∧ PySem.W.keepIn K (.ref (He.ga K "member")) = true ∧ FunD K "member" "member" (defArgs s26) (defBody s26) (defScope s26) [] [] (He.ga K "member") fd := by
  obtain ⟨fd, F⟩ := T.d_26
  obtain ⟨fd16, F16, k16, D16⟩ := ok_need_rule (P := P) (w := w) (base := base) T
  obtain ⟨w16d, v16d, b16d⟩ := D16.binds1 (ps := ["rule", "which"]) 1 0 (by intro z; cases z) rfl fun T kV doc pm an cdv ct us its h1 h2 => match us, its, h1, h2 with | [_], [_], _, _ => ⟨_, rfl, rfl⟩
  obtain ⟨fd22, F22, k22, D22⟩ := ok_member_by (P := P) (w := w) (base := base) T
  have b22 : Binds K fd22 ["rule", "n"] [] := D22.bindsN fun _ _ _ _ _ _ us hl => match us, hl with | [_, _], _ => rfl
  obtain ⟨fd24, F24, k24, D24⟩ := ok_need_n_members (P := P) (w := w) (base := base) T
  have b24 : Binds K fd24 ["n", "low", "high"] [] := D24.bindsN fun _ _ _ _ _ _ us hl => match us, hl with | [_, _, _], _ => rfl
  refine ⟨fd, fn_okP 2 F sc26 rfl fun cdv A outer s H E hr => ?_, F.kp, F⟩
  have sc := sc26
  have hu := hu_of hr
  have hu64 := hr.units
  exact (gss_cons (gs_expr (ge_call F16 (hr.mono (by decide)) (by rfl) T.g_need_rule k16 b16d v16d (fun _ => Reps.cons (Rep.str_iff.mpr rfl) Reps.nil) (ga_cons (ge_var (pv 0)) ga_nil)))
      (gss_cons (gs_expr (ge_call F24 (hr.mono (by decide)) (by rfl) T.g_need_n_members k24 b24 .nil (fun _ => Reps.nil) (ga_cons (ge_var (pv 1)) (ga_cons ge_int (ga_cons (ge_globE (by rfl) T.c_MOST_N) ga_nil)))))
      (gss_one (gs_ret (ge_call F22 (hr.mono (by decide)) (by rfl) T.g_member_by k22 b22 .nil (fun _ => Reps.nil) (ga_cons (ge_var (pv 0)) (ga_cons (ge_var (pv 1)) ga_nil)))))))
theorem ok_mate (T : Txt K mg) : ∃ fd, (FnOk P w K mg base CX0 6 (He.ga K "mate") fd ["rule", "n"] (spP K 2 f_mate)) ∧ PySem.W.keepIn K (.ref (He.ga K "mate")) = true ∧ FunD K "mate" "mate" (defArgs s27) (defBody s27) (defScope s27) [] [] (He.ga K "mate") fd := by
  obtain ⟨fd, F⟩ := T.d_27
  obtain ⟨fd16, F16, k16, D16⟩ := ok_need_rule (P := P) (w := w) (base := base) T
  obtain ⟨w16d, v16d, b16d⟩ := D16.binds1 (ps := ["rule", "which"]) 1 0 (by intro z; cases z) rfl fun T kV doc pm an cdv ct us its h1 h2 => match us, its, h1, h2 with | [_], [_], _, _ => ⟨_, rfl, rfl⟩
  obtain ⟨fd23, F23, k23, D23⟩ := ok_mate_by (P := P) (w := w) (base := base) T
  have b23 : Binds K fd23 ["rule", "n"] [] := D23.bindsN fun _ _ _ _ _ _ us hl => match us, hl with | [_, _], _ => rfl
  obtain ⟨fd24, F24, k24, D24⟩ := ok_need_n_members (P := P) (w := w) (base := base) T
  have b24 : Binds K fd24 ["n", "low", "high"] [] := D24.bindsN fun _ _ _ _ _ _ us hl => match us, hl with | [_, _, _], _ => rfl
  refine ⟨fd, fn_okP 2 F sc27 rfl fun cdv A outer s H E hr => ?_, F.kp, F⟩
  have sc := sc27
  have hu := hu_of hr
  have hu64 := hr.units
  exact (gss_cons (gs_expr (ge_call F16 (hr.mono (by decide)) (by rfl) T.g_need_rule k16 b16d v16d (fun _ => Reps.cons (Rep.str_iff.mpr rfl) Reps.nil) (ga_cons (ge_var (pv 0)) ga_nil)))
      (gss_cons (gs_expr (ge_call F24 (hr.mono (by decide)) (by rfl) T.g_need_n_members k24 b24 .nil (fun _ => Reps.nil) (ga_cons (ge_var (pv 1)) (ga_cons ge_int (ga_cons (ge_globE (by rfl) T.c_MOST_N) ga_nil)))))
      (gss_one (gs_ret (ge_call F23 (hr.mono (by decide)) (by rfl) T.g_mate_by k23 b23 .nil (fun _ => Reps.nil) (ga_cons (ge_var (pv 0)) (ga_cons (ge_var (pv 1)) ga_nil)))))))
theorem ok_beginning (T : Txt K mg) : ∃ fd, (FnOk P w K mg base CX0 6 (He.ga K "beginning") fd ["rule", "n"] (spP K 2 f_beginning)) ∧ PySem.W.keepIn K (.ref (He.ga K "beginning")) = true ∧ FunD K "beginning" "beginning" (defArgs s28) (defBody s28) (defScope s28) [] [] (He.ga K "beginning") fd := by
  obtain ⟨fd, F⟩ := T.d_28
  obtain ⟨fd16, F16, k16, D16⟩ := ok_need_rule (P := P) (w := w) (base := base) T
  obtain ⟨w16d, v16d, b16d⟩ := D16.binds1 (ps := ["rule", "which"]) 1 0 (by intro z; cases z) rfl fun T kV doc pm an cdv ct us its h1 h2 => match us, its, h1, h2 with | [_], [_], _, _ => ⟨_, rfl, rfl⟩
  obtain ⟨fd21, F21, k21, D21⟩ := ok_line_by (P := P) (w := w) (base := base) T
  have b21 : Binds K fd21 ["rule", "n"] [] := D21.bindsN fun _ _ _ _ _ _ us hl => match us, hl with | [_, _], _ => rfl
  obtain ⟨fd24, F24, k24, D24⟩ := ok_need_n_members (P := P) (w := w) (base := base) T
  have b24 : Binds K fd24 ["n", "low", "high"] [] := D24.bindsN fun _ _ _ _ _ _ us hl => match us, hl with | [_, _, _], _ => rfl
  refine ⟨fd, fn_okP 2 F sc28 rfl fun cdv A outer s H E hr => ?_, F.kp, F⟩
  have sc := sc28
  have hu := hu_of hr
  have hu64 := hr.units
  exact (gss_cons (gs_expr (ge_call F16 (hr.mono (by decide)) (by rfl) T.g_need_rule k16 b16d v16d (fun _ => Reps.cons (Rep.str_iff.mpr rfl) Reps.nil) (ga_cons (ge_var (pv 0)) ga_nil)))
      (gss_cons (gs_expr (ge_call F24 (hr.mono (by decide)) (by rfl) T.g_need_n_members k24 b24 .nil (fun _ => Reps.nil) (ga_cons (ge_var (pv 1)) (ga_cons ge_int (ga_cons (ge_globE (by rfl) T.c_MOST_N) ga_nil)))))
      (gss_one (gs_ret (ge_callTy gc_tuple (by rfl) T.z_tuple boot_tuple (ga_cons (ge_call F21 (hr.mono (by decide)) (by rfl) T.g_line_by k21 b21 .nil (fun _ => Reps.nil) (ga_cons (ge_var (pv 0)) (ga_cons (ge_var (pv 1)) ga_nil))) ga_nil))))))
theorem ok_need_both (T : Txt K mg) : ∃ fd, (FnOk P w K mg base CX0 6 (He.ga K "need_both") fd ["rule", "m", "n"] (spP K 3 f_need_both)) ∧ PySem.W.keepIn K (.ref (He.ga K "need_both")) = true ∧ FunD K "need_both" "need_both" (defArgs s31) (defBody s31) (defScope s31) [] [] (He.ga K "need_both") fd := by
  obtain ⟨fd, F⟩ := T.d_31
  obtain ⟨fd13, F13, k13, D13⟩ := ok_is_within_bounds (P := P) (w := w) (base := base) T
  have b13 : Binds K fd13 ["thing", "low", "high"] [] := D13.bindsN fun _ _ _ _ _ _ us hl => match us, hl with | [_, _, _], _ => rfl
  obtain ⟨fd16, F16, k16, D16⟩ := ok_need_rule (P := P) (w := w) (base := base) T
  obtain ⟨w16d, v16d, b16d⟩ := D16.binds1 (ps := ["rule", "which"]) 1 0 (by intro z; cases z) rfl fun T kV doc pm an cdv ct us its h1 h2 => match us, its, h1, h2 with | [_], [_], _, _ => ⟨_, rfl, rfl⟩
  refine ⟨fd, fn_okP 3 F sc31 rfl fun cdv A outer s H E hr => ?_, F.kp, F⟩
  have sc := sc31
  have hu := hu_of hr
  have hu64 := hr.units
  exact (gss_cons (gs_expr (ge_call F16 (hr.mono (by decide)) (by rfl) T.g_need_rule k16 b16d v16d (fun _ => Reps.cons (Rep.str_iff.mpr rfl) Reps.nil) (ga_cons (ge_var (pv 0)) ga_nil)))
      (gss_cons (gs_if (gt_not (gt_val (ge_call F13 (hr.mono (by decide)) (by rfl) T.g_is_within_bounds k13 b13 .nil (fun _ => Reps.nil) (ga_cons (ge_var (pv 1)) (ga_cons ge_int (ga_cons (ge_globE (by rfl) T.c_MOST_FAR) ga_nil)))))) (gss_one gs_never) gss_nil)
      (gss_one (gs_if (gt_not (gt_val (ge_call F13 (hr.mono (by decide)) (by rfl) T.g_is_within_bounds k13 b13 .nil (fun _ => Reps.nil) (ga_cons (ge_var (pv 2)) (ga_cons ge_int (ga_cons (ge_globE (by rfl) T.c_MOST_FAR) ga_nil)))))) (gss_one gs_never) gss_nil))))
theorem ok_sum_to (T : Txt K mg) : ∃ fd, (FnOk P w K mg base CX0 6 (He.ga K "sum_to") fd ["rule", "n"] (spP K 2 f_sum_to)) ∧ PySem.W.keepIn K (.ref (He.ga K "sum_to")) = true ∧ FunD K "sum_to" "sum_to" (defArgs s38) (defBody s38) (defScope s38) [] [] (He.ga K "sum_to") fd := by
  obtain ⟨fd, F⟩ := T.d_38
  obtain ⟨fd16, F16, k16, D16⟩ := ok_need_rule (P := P) (w := w) (base := base) T
  obtain ⟨w16d, v16d, b16d⟩ := D16.binds1 (ps := ["rule", "which"]) 1 0 (by intro z; cases z) rfl fun T kV doc pm an cdv ct us its h1 h2 => match us, its, h1, h2 with | [_], [_], _, _ => ⟨_, rfl, rfl⟩
  obtain ⟨fd35, F35, k35, D35⟩ := ok_need_n (P := P) (w := w) (base := base) T
  have b35 : Binds K fd35 ["n"] [] := D35.bindsN fun _ _ _ _ _ _ us hl => match us, hl with | [_], _ => rfl
  obtain ⟨fd37, F37, k37, D37⟩ := ok_row_to (P := P) (w := w) (base := base) T
  have b37 : Binds K fd37 ["rule", "first", "second", "n"] [] := D37.bindsN fun _ _ _ _ _ _ us hl => match us, hl with | [_, _, _, _], _ => rfl
  refine ⟨fd, fn_okP 2 F sc38 rfl fun cdv A outer s H E hr => ?_, F.kp, F⟩
  have sc := sc38
  have hu := hu_of hr
  have hu64 := hr.units
  exact (gss_cons (gs_expr (ge_call F16 (hr.mono (by decide)) (by rfl) T.g_need_rule k16 b16d v16d (fun _ => Reps.cons (Rep.str_iff.mpr rfl) Reps.nil) (ga_cons (ge_var (pv 0)) ga_nil)))
      (gss_cons (gs_expr (ge_call F35 (hr.mono (by decide)) (by rfl) (T.e_need_n_sums ▸ T.g_need_n_sums) k35 b35 .nil (fun _ => Reps.nil) (ga_cons (ge_var (pv 1)) ga_nil)))
      (gss_one (gs_ret (ge_callB (gc_sum rfl) (by rfl) T.z_sum boot_sum (ga_cons (ge_call F37 (hr.mono (by decide)) (by rfl) T.g_row_to k37 b37 .nil (fun _ => Reps.nil) (ga_cons (ge_var (pv 0)) (ga_cons ge_int (ga_cons ge_int (ga_cons (ge_var (pv 1)) ga_nil))))) ga_nil))))))
theorem ok_squares_to (T : Txt K mg) : ∃ fd, (FnOk P w K mg base CX0 6 (He.ga K "squares_to") fd ["rule", "n"] (spP K 2 f_squares_to)) ∧ PySem.W.keepIn K (.ref (He.ga K "squares_to")) = true ∧ FunD K "squares_to" "squares_to" (defArgs s39) (defBody s39) (defScope s39) [] [] (He.ga K "squares_to") fd := by
  obtain ⟨fd, F⟩ := T.d_39
  obtain ⟨fd16, F16, k16, D16⟩ := ok_need_rule (P := P) (w := w) (base := base) T
  obtain ⟨w16d, v16d, b16d⟩ := D16.binds1 (ps := ["rule", "which"]) 1 0 (by intro z; cases z) rfl fun T kV doc pm an cdv ct us its h1 h2 => match us, its, h1, h2 with | [_], [_], _, _ => ⟨_, rfl, rfl⟩
  obtain ⟨fd35, F35, k35, D35⟩ := ok_need_n (P := P) (w := w) (base := base) T
  have b35 : Binds K fd35 ["n"] [] := D35.bindsN fun _ _ _ _ _ _ us hl => match us, hl with | [_], _ => rfl
  obtain ⟨fd37, F37, k37, D37⟩ := ok_row_to (P := P) (w := w) (base := base) T
  have b37 : Binds K fd37 ["rule", "first", "second", "n"] [] := D37.bindsN fun _ _ _ _ _ _ us hl => match us, hl with | [_, _, _, _], _ => rfl
  refine ⟨fd, fn_okP 2 F sc39 rfl fun cdv A outer s H E hr => ?_, F.kp, F⟩
  have sc := sc39
  have hu := hu_of hr
  have hu64 := hr.units
  exact (gss_cons (gs_expr (ge_call F16 (hr.mono (by decide)) (by rfl) T.g_need_rule k16 b16d v16d (fun _ => Reps.cons (Rep.str_iff.mpr rfl) Reps.nil) (ga_cons (ge_var (pv 0)) ga_nil)))
      (gss_cons (gs_expr (ge_call F35 (hr.mono (by decide)) (by rfl) (T.e_need_n_sums ▸ T.g_need_n_sums) k35 b35 .nil (fun _ => Reps.nil) (ga_cons (ge_var (pv 1)) ga_nil)))
      (gss_cons (gs_set sc.nd rfl (Or.inl rfl) ge_int)
      (gss_cons (gs_for PassesOwn.never rfl (gi_list (ge_call F37 (hr.mono (by decide)) (by rfl) T.g_row_to k37 b37 .nil (fun _ => Reps.nil) (ga_cons (ge_var (pv 0)) (ga_cons ge_int (ga_cons ge_int (ga_cons (ge_var (pv 1)) ga_nil)))))) (gg_name sc.nd rfl (Or.inl rfl)) (gss_one (gs_set sc.nd rfl (Or.inl rfl) (ge_bin op_subI (ge_bin op_mulI (ge_var (pv 3)) (ge_var (pv 3))) (ge_bin op_mulI (ge_idx hu (ge_var (pv 0)) ge_int) (ge_var (pv 2)))))))
      (gss_one (gs_ret (ge_var (pv 2))))))))
theorem ok_mates_to (T : Txt K mg) : ∃ fd, (FnOk P w K mg base CX0 6 (He.ga K "mates_to") fd ["rule", "n"] (spP K 2 f_mates_to)) ∧ PySem.W.keepIn K (.ref (He.ga K "mates_to")) = true ∧ FunD K "mates_to" "mates_to" (defArgs s40) (defBody s40) (defScope s40) [] [] (He.ga K "mates_to") fd := by
  obtain ⟨fd, F⟩ := T.d_40
  obtain ⟨fd16, F16, k16, D16⟩ := ok_need_rule (P := P) (w := w) (base := base) T
  obtain ⟨w16d, v16d, b16d⟩ := D16.binds1 (ps := ["rule", "which"]) 1 0 (by intro z; cases z) rfl fun T kV doc pm an cdv ct us its h1 h2 => match us, its, h1, h2 with | [_], [_], _, _ => ⟨_, rfl, rfl⟩
  obtain ⟨fd35, F35, k35, D35⟩ := ok_need_n (P := P) (w := w) (base := base) T
  have b35 : Binds K fd35 ["n"] [] := D35.bindsN fun _ _ _ _ _ _ us hl => match us, hl with | [_], _ => rfl
  obtain ⟨fd37, F37, k37, D37⟩ := ok_row_to (P := P) (w := w) (base := base) T
  have b37 : Binds K fd37 ["rule", "first", "second", "n"] [] := D37.bindsN fun _ _ _ _ _ _ us hl => match us, hl with | [_, _, _, _], _ => rfl
  refine ⟨fd, fn_okP 2 F sc40 rfl fun cdv A outer s H E hr => ?_, F.kp, F⟩
  have sc := sc40
  have hu := hu_of hr
  have hu64 := hr.units
  exact (gss_cons (gs_expr (ge_call F16 (hr.mono (by decide)) (by rfl) T.g_need_rule k16 b16d v16d (fun _ => Reps.cons (Rep.str_iff.mpr rfl) Reps.nil) (ga_cons (ge_var (pv 0)) ga_nil)))
      (gss_cons (gs_expr (ge_call F35 (hr.mono (by decide)) (by rfl) (T.e_need_n_sums ▸ T.g_need_n_sums) k35 b35 .nil (fun _ => Reps.nil) (ga_cons (ge_var (pv 1)) ga_nil)))
      (gss_one (gs_ret (ge_callB (gc_sum rfl) (by rfl) T.z_sum boot_sum (ga_cons (ge_call F37 (hr.mono (by decide)) (by rfl) T.g_row_to k37 b37 .nil (fun _ => Reps.nil) (ga_cons (ge_var (pv 0)) (ga_cons ge_int (ga_cons (ge_idx hu (ge_var (pv 0)) ge_int) (ga_cons (ge_var (pv 1)) ga_nil))))) ga_nil))))))
theorem ok_within_member (T : Txt K mg) : ∃ fd, (FnOk P w K mg base CX0 6 (He.ga K "within_member") fd ["rule", "k", "n"] (spP K 3 f_within_member)) ∧ PySem.W.keepIn K (.ref (He.ga K "within_member")) = true ∧ FunD K "within_member" "within_member" (defArgs s46) (defBody s46) (defScope s46) [] [] (He.ga K "within_member") fd := by
  obtain ⟨fd, F⟩ := T.d_46
  obtain ⟨fd16, F16, k16, D16⟩ := ok_need_rule (P := P) (w := w) (base := base) T
  obtain ⟨w16d, v16d, b16d⟩ := D16.binds1 (ps := ["rule", "which"]) 1 0 (by intro z; cases z) rfl fun T kV doc pm an cdv ct us its h1 h2 => match us, its, h1, h2 with | [_], [_], _, _ => ⟨_, rfl, rfl⟩
  obtain ⟨fd21, F21, k21, D21⟩ := ok_line_by (P := P) (w := w) (base := base) T
  have b21 : Binds K fd21 ["rule", "n"] [] := D21.bindsN fun _ _ _ _ _ _ us hl => match us, hl with | [_, _], _ => rfl
  obtain ⟨fd24, F24, k24, D24⟩ := ok_need_n_members (P := P) (w := w) (base := base) T
  have b24 : Binds K fd24 ["n", "low", "high"] [] := D24.bindsN fun _ _ _ _ _ _ us hl => match us, hl with | [_, _, _], _ => rfl
  obtain ⟨fd45, F45, k45, D45⟩ := ok_need_k (P := P) (w := w) (base := base) T
  have b45 : Binds K fd45 ["k"] [] := D45.bindsN fun _ _ _ _ _ _ us hl => match us, hl with | [_], _ => rfl
  refine ⟨fd, fn_okP 3 F sc46 rfl fun cdv A outer s H E hr => ?_, F.kp, F⟩
  have sc := sc46
  have hu := hu_of hr
  have hu64 := hr.units
  exact (gss_cons (gs_expr (ge_call F16 (hr.mono (by decide)) (by rfl) T.g_need_rule k16 b16d v16d (fun _ => Reps.cons (Rep.str_iff.mpr rfl) Reps.nil) (ga_cons (ge_var (pv 0)) ga_nil)))
      (gss_cons (gs_expr (ge_call F45 (hr.mono (by decide)) (by rfl) T.g_need_k k45 b45 .nil (fun _ => Reps.nil) (ga_cons (ge_var (pv 1)) ga_nil)))
      (gss_cons (gs_expr (ge_call F24 (hr.mono (by decide)) (by rfl) T.g_need_n_members k24 b24 .nil (fun _ => Reps.nil) (ga_cons (ge_var (pv 2)) (ga_cons ge_int (ga_cons (ge_bin op_fdivI (ge_globE (by rfl) T.c_MOST_N) (ge_var (pv 1))) ga_nil)))))
      (gss_cons (gs_set sc.nd rfl (Or.inl rfl) (ge_call F21 (hr.mono (by decide)) (by rfl) T.g_line_by k21 b21 .nil (fun _ => Reps.nil) (ga_cons (ge_var (pv 0)) (ga_cons (ge_bin op_mulI (ge_var (pv 1)) (ge_callB (gc_max rfl) (by rfl) T.z_max boot_max (ga_cons (ge_var (pv 2)) (ga_cons ge_int ga_nil)))) ga_nil))))
      (gss_one (gs_ret (ge_bin op_fdivI (ge_idx hu (ge_var (pv 3)) (ge_bin op_mulI (ge_var (pv 1)) (ge_var (pv 2)))) (ge_idx hu (ge_var (pv 3)) (ge_var (pv 1))))))))))
theorem ok_rules_within (T : Txt K mg) : ∃ fd, (FnOk P w K mg base CX0 6 (He.ga K "rules_within") fd ["rule"] (spP K 1 f_rules_within)) ∧ PySem.W.keepIn K (.ref (He.ga K "rules_within")) = true ∧ FunD K "rules_within" "rules_within" (defArgs s49) (defBody s49) (defScope s49) [] [] (He.ga K "rules_within") fd := by
  obtain ⟨fd, F⟩ := T.d_49
  obtain ⟨fd16, F16, k16, D16⟩ := ok_need_rule (P := P) (w := w) (base := base) T
  obtain ⟨w16d, v16d, b16d⟩ := D16.binds1 (ps := ["rule", "which"]) 1 0 (by intro z; cases z) rfl fun T kV doc pm an cdv ct us its h1 h2 => match us, its, h1, h2 with | [_], [_], _, _ => ⟨_, rfl, rfl⟩
  obtain ⟨fd48, F48, k48, D48⟩ := ok_line_within (P := P) (w := w) (base := base) T
  have b48 : Binds K fd48 ["rule"] [] := D48.bindsN fun _ _ _ _ _ _ us hl => match us, hl with | [_], _ => rfl
  refine ⟨fd, fn_okP 1 F sc49 rfl fun cdv A outer s H E hr => ?_, F.kp, F⟩
  have sc := sc49
  have hu := hu_of hr
  have hu64 := hr.units
  exact (gss_cons (gs_expr (ge_call F16 (hr.mono (by decide)) (by rfl) T.g_need_rule k16 b16d v16d (fun _ => Reps.cons (Rep.str_iff.mpr rfl) Reps.nil) (ga_cons (ge_var (pv 0)) ga_nil)))
      (gss_one (gs_ret (ge_callTy gc_tuple (by rfl) T.z_tuple boot_tuple (ga_cons (ge_call F48 (hr.mono (by decide)) (by rfl) T.g_line_within k48 b48 .nil (fun _ => Reps.nil) (ga_cons (ge_var (pv 0)) ga_nil)) ga_nil)))))
theorem ok_shared (T : Txt K mg) : ∃ fd, (FnOk P w K mg base CX0 7 (He.ga K "shared") fd ["rule", "m", "n"] (spP K 3 f_shared)) ∧ PySem.W.keepIn K (.ref (He.ga K "shared")) = true ∧ FunD K "shared" "shared" (defArgs s32) (defBody s32) (defScope s32) [] [] (He.ga K "shared") fd := by
  obtain ⟨fd, F⟩ := T.d_32
  obtain ⟨fd22, F22, k22, D22⟩ := ok_member_by (P := P) (w := w) (base := base) T
  have b22 : Binds K fd22 ["rule", "n"] [] := D22.bindsN fun _ _ _ _ _ _ us hl => match us, hl with | [_, _], _ => rfl
  obtain ⟨fd30, F30, k30, D30⟩ := ok_steps_by (P := P) (w := w) (base := base) T
  have b30 : Binds K fd30 ["m", "n"] [] := D30.bindsN fun _ _ _ _ _ _ us hl => match us, hl with | [_, _], _ => rfl
  obtain ⟨fd31, F31, k31, D31⟩ := ok_need_both (P := P) (w := w) (base := base) T
  have b31 : Binds K fd31 ["rule", "m", "n"] [] := D31.bindsN fun _ _ _ _ _ _ us hl => match us, hl with | [_, _, _], _ => rfl
  refine ⟨fd, fn_okP 3 F sc32 rfl fun cdv A outer s H E hr => ?_, F.kp, F⟩
  have sc := sc32
  have hu := hu_of hr
  have hu64 := hr.units
  exact (gss_cons (gs_expr (ge_call F31 (hr.mono (by decide)) (by rfl) T.g_need_both k31 b31 .nil (fun _ => Reps.nil) (ga_cons (ge_var (pv 0)) (ga_cons (ge_var (pv 1)) (ga_cons (ge_var (pv 2)) ga_nil)))))
      (gss_cons (gs_set sc.nd rfl (Or.inl rfl) (ge_idx hu (ge_idx hu (ge_call F30 (hr.mono (by decide)) (by rfl) T.g_steps_by k30 b30 .nil (fun _ => Reps.nil) (ga_cons (ge_var (pv 1)) (ga_cons (ge_var (pv 2)) ga_nil))) (ge_neg ge_int)) ge_int))
      (gss_cons (gs_if (gt_cmp op_gtI (ge_var (pv 3)) (ge_globE (by rfl) T.c_MOST_N) (nomark _)) (gss_one gs_never) gss_nil)
      (gss_one (gs_ret (ge_callB gc_abs (by rfl) T.z_abs boot_abs (ga_cons (ge_call F22 (hr.mono (by decide)) (by rfl) T.g_member_by k22 b22 .nil (fun _ => Reps.nil) (ga_cons (ge_var (pv 0)) (ga_cons (ge_var (pv 3)) ga_nil))) ga_nil)))))))
theorem ok_f_law_right (T : Txt K mg) : ∃ fd, (∀ a : Addr, FnOk P w K mg base CX0 8 (He.ga K "_law_right") fd ["draw"] (spW K (WD a) 1 (f_f_law_right a))) ∧ PySem.W.keepIn K (.ref (He.ga K "_law_right")) = true ∧ FunD K "_law_right" "_law_right" (defArgs s59) (defBody s59) (defScope s59) [] [] (He.ga K "_law_right") fd := by
  obtain ⟨fd, F⟩ := T.d_59
  obtain ⟨fd26, F26, k26, D26⟩ := ok_member (P := P) (w := w) (base := base) T
  have b26 : Binds K fd26 ["rule", "n"] [] := D26.bindsN fun _ _ _ _ _ _ us hl => match us, hl with | [_, _], _ => rfl
  obtain ⟨fd27, F27, k27, D27⟩ := ok_mate (P := P) (w := w) (base := base) T
  have b27 : Binds K fd27 ["rule", "n"] [] := D27.bindsN fun _ _ _ _ _ _ us hl => match us, hl with | [_, _], _ => rfl
  obtain ⟨fd28, F28, k28, D28⟩ := ok_beginning (P := P) (w := w) (base := base) T
  have b28 : Binds K fd28 ["rule", "n"] [] := D28.bindsN fun _ _ _ _ _ _ us hl => match us, hl with | [_, _], _ => rfl
  obtain ⟨fd32, F32, k32, D32⟩ := ok_shared (P := P) (w := w) (base := base) T
  have b32 : Binds K fd32 ["rule", "m", "n"] [] := D32.bindsN fun _ _ _ _ _ _ us hl => match us, hl with | [_, _, _], _ => rfl
  obtain ⟨fd38, F38, k38, D38⟩ := ok_sum_to (P := P) (w := w) (base := base) T
  have b38 : Binds K fd38 ["rule", "n"] [] := D38.bindsN fun _ _ _ _ _ _ us hl => match us, hl with | [_, _], _ => rfl
  obtain ⟨fd39, F39, k39, D39⟩ := ok_squares_to (P := P) (w := w) (base := base) T
  have b39 : Binds K fd39 ["rule", "n"] [] := D39.bindsN fun _ _ _ _ _ _ us hl => match us, hl with | [_, _], _ => rfl
  obtain ⟨fd40, F40, k40, D40⟩ := ok_mates_to (P := P) (w := w) (base := base) T
  have b40 : Binds K fd40 ["rule", "n"] [] := D40.bindsN fun _ _ _ _ _ _ us hl => match us, hl with | [_, _], _ => rfl
  obtain ⟨fd46, F46, k46, D46⟩ := ok_within_member (P := P) (w := w) (base := base) T
  have b46 : Binds K fd46 ["rule", "k", "n"] [] := D46.bindsN fun _ _ _ _ _ _ us hl => match us, hl with | [_, _, _], _ => rfl
  obtain ⟨fd49, F49, k49, D49⟩ := ok_rules_within (P := P) (w := w) (base := base) T
  have b49 : Binds K fd49 ["rule"] [] := D49.bindsN fun _ _ _ _ _ _ us hl => match us, hl with | [_], _ => rfl
  obtain ⟨fd53, F53, k53, D53⟩ := ok_f_law_take (P := P) (w := w) (base := base) T
  have b53 : Binds K fd53 ["draw", "amount"] [] := D53.bindsN fun _ _ _ _ _ _ us hl => match us, hl with | [_, _], _ => rfl
  obtain ⟨fd54, F54, k54, D54⟩ := ok_f_law_pick (P := P) (w := w) (base := base) T
  have b54 : Binds K fd54 ["draw", "items"] [] := D54.bindsN fun _ _ _ _ _ _ us hl => match us, hl with | [_, _], _ => rfl
  obtain ⟨fd58, F58, k58, D58⟩ := ok_f_law_rule (P := P) (w := w) (base := base) T
  have b58 : Binds K fd58 ["draw"] [] := D58.bindsN fun _ _ _ _ _ _ us hl => match us, hl with | [_], _ => rfl
  refine ⟨fd, fun a => fn_okW 1 F sc59 rfl (fun cdv A outer s H E hr => ?_), F.kp, F⟩
  have sc := sc59
  have hu := hu_of hr
  have hu64 := hr.units
  exact (gss_cons (gs_set sc.nd rfl (Or.inr rfl) (ge_callW (F58 a) (hr.mono (by decide)) (by rfl) T.g__law_rule k58 b58 .nil (fun _ => Reps.nil) (ga_cons (ge_var (pv 0)) ga_nil)))
      (gss_cons (gs_asg (ge_var (pv 1)) (gg_tup rfl (ggs_cons (gg_name sc.nd rfl (Or.inl rfl)) (ggs_cons (gg_name sc.nd rfl (Or.inl rfl)) ggs_nil))))
      (gss_cons (gs_set sc.nd rfl (Or.inl rfl) (ge_callW (F53 a) (hr.mono (by decide)) (by rfl) T.g__law_take k53 b53 .nil (fun _ => Reps.nil) (ga_cons (ge_var (pv 0)) (ga_cons (ge_callW (F54 a) (hr.mono (by decide)) (by rfl) T.g__law_pick k54 b54 .nil (fun _ => Reps.nil) (ga_cons (ge_var (pv 0)) (ga_cons (ge_lst (ga_cons ge_int (ga_cons ge_int (ga_cons ge_int ga_nil)))) ga_nil))) ga_nil))))
      (gss_cons (gs_tupO (is := [5, 6, 7, 8]) rfl (pgs_cons (pg_name sc.nd rfl (Or.inl rfl)) (pgs_cons (pg_name sc.nd rfl (Or.inl rfl)) (pgs_cons (pg_name sc.nd rfl (Or.inl rfl)) (pgs_cons (pg_name sc.nd rfl (Or.inl rfl)) pgs_nil)))) (go2_cons (ge2_of (ge_call F28 (hr.mono (by decide)) (by rfl) T.g_beginning k28 b28 .nil (fun _ => Reps.nil) (ga_cons (ge_var (pv 1)) (ga_cons (ge_bin op_addI (ge_var (pv 4)) ge_int) ga_nil)))) (go2_cons (ge2_of ge_int) (go2_cons (ge2_of ge_int) (go2_cons (ge2_of ge_int) go2_nil)))))
      (gss_cons (gs_for PassesOwn.never rfl (gi_rng1 (by rfl) T.z_range (ga_cons (ge_bin op_addI (ge_var (pv 4)) ge_int) ga_nil)) (gg_name sc.nd rfl (Or.inl rfl)) (gss_one (gs_par3O rfl sc.nd rfl rfl rfl (by decide) (by decide) (by decide) rfl rfl rfl (go2_cons (ge2_of (ge_bin op_addI (ge_var (pv 6)) (ge_idx hu (ge_var (pv 5)) (ge_var (pv 9))))) (go2_cons (ge2_of (ge_bin op_subI (ge_bin op_mulI (ge_idx hu (ge_var (pv 5)) (ge_var (pv 9))) (ge_idx hu (ge_var (pv 5)) (ge_var (pv 9)))) (ge_bin op_mulI (ge_var (pv 3)) (ge_var (pv 7))))) (go2_cons (ge2_of (ge_if (gt_cmp op_ltI (ge_var (pv 4)) ge_int (nomark _)) (ge_bin op_addI (ge_var (pv 8)) (ge_call F27 (hr.mono (by decide)) (by rfl) T.g_mate k27 b27 .nil (fun _ => Reps.nil) (ga_cons (ge_var (pv 1)) (ga_cons (ge_var (pv 9)) ga_nil)))) ge_int)) go2_nil))) rfl)))
      (gss_cons (gs_if (GW.pt (gw_or (gt_cmp (op_neI hu64) (ge_call F38 (hr.mono (by decide)) (by rfl) T.g_sum_to k38 b38 .nil (fun _ => Reps.nil) (ga_cons (ge_var (pv 1)) (ga_cons (ge_var (pv 4)) ga_nil))) (ge_var (pv 6)) (nomark _)) (gw_or (gt_cmp (op_neI hu64) (ge_call F39 (hr.mono (by decide)) (by rfl) T.g_squares_to k39 b39 .nil (fun _ => Reps.nil) (ga_cons (ge_var (pv 1)) (ga_cons (ge_var (pv 4)) ga_nil))) (ge_var (pv 7)) (nomark _)) (gw_or1 (GW.pt (gw_and (gt_cmp op_ltI (ge_var (pv 4)) ge_int (nomark _)) (gw_and1 (gt_cmp (op_neI hu64) (ge_call F40 (hr.mono (by decide)) (by rfl) T.g_mates_to k40 b40 .nil (fun _ => Reps.nil) (ga_cons (ge_var (pv 1)) (ga_cons (ge_var (pv 4)) ga_nil))) (ge_var (pv 8)) (nomark _))))))))) (gss_one (gs_ret ge_bl)) gss_nil)
      (gss_cons (gs_if (GW.pt (gw_or (gt_cmp (op_neI hu64) (ge_bin op_mulI (ge_bin op_subI (ge_bin op_subI (ge_var (pv 2)) (ge_var (pv 3))) ge_int) (ge_var (pv 6))) (ge_bin op_subI (ge_bin op_subI (ge_idx hu (ge_var (pv 5)) (ge_bin op_addI (ge_var (pv 4)) ge_int)) (ge_bin op_mulI (ge_var (pv 3)) (ge_idx hu (ge_var (pv 5)) (ge_var (pv 4))))) ge_int) (nomark _)) (gw_or (gt_cmp (op_neI hu64) (ge_bin op_mulI (ge_var (pv 2)) (ge_var (pv 7))) (ge_bin op_mulI (ge_idx hu (ge_var (pv 5)) (ge_var (pv 4))) (ge_idx hu (ge_var (pv 5)) (ge_bin op_addI (ge_var (pv 4)) ge_int))) (nomark _)) (gw_or1 (gt_cmp (op_neI hu64) (ge_bin op_mulI (ge_bin op_subI (ge_bin op_subI (ge_var (pv 2)) (ge_var (pv 3))) ge_int) (ge_call F40 (hr.mono (by decide)) (by rfl) T.g_mates_to k40 b40 .nil (fun _ => Reps.nil) (ga_cons (ge_var (pv 1)) (ga_cons (ge_var (pv 4)) ga_nil)))) (ge_bin op_subI (ge_bin op_addI (ge_bin op_subI (ge_call F27 (hr.mono (by decide)) (by rfl) T.g_mate k27 b27 .nil (fun _ => Reps.nil) (ga_cons (ge_var (pv 1)) (ga_cons (ge_bin op_addI (ge_var (pv 4)) ge_int) ga_nil))) (ge_bin op_mulI (ge_var (pv 3)) (ge_call F27 (hr.mono (by decide)) (by rfl) T.g_mate k27 b27 .nil (fun _ => Reps.nil) (ga_cons (ge_var (pv 1)) (ga_cons (ge_var (pv 4)) ga_nil))))) (ge_var (pv 2))) ge_int) (nomark _)))))) (gss_one (gs_ret ge_bl)) gss_nil)
      (gss_cons (gs_set sc.nd rfl (Or.inr rfl) (ge_bin op_addI ge_int (ge_callW (F53 a) (hr.mono (by decide)) (by rfl) T.g__law_take k53 b53 .nil (fun _ => Reps.nil) (ga_cons (ge_var (pv 0)) (ga_cons (ge_callB (gc_min rfl) (by rfl) T.z_min boot_min (ga_cons ge_int (ga_cons (ge_callB gc_len (by rfl) T.z_len boot_len (ga_cons (ge_call F49 (hr.mono (by decide)) (by rfl) T.g_rules_within k49 b49 .nil (fun _ => Reps.nil) (ga_cons (ge_var (pv 1)) ga_nil)) ga_nil)) ga_nil))) ga_nil)))))
      (gss_cons (gs_parO rfl sc.nd rfl rfl (by decide) rfl rfl (go2_cons (ge2_of (ge_idx hu (ge_call F49 (hr.mono (by decide)) (by rfl) T.g_rules_within k49 b49 .nil (fun _ => Reps.nil) (ga_cons (ge_var (pv 1)) ga_nil)) (ge_bin op_subI (ge_var (pv 10)) ge_int))) (go2_cons (ge2_of (ge_callW (F53 a) (hr.mono (by decide)) (by rfl) T.g__law_take k53 b53 .nil (fun _ => Reps.nil) (ga_cons (ge_var (pv 0)) (ga_cons (ge_bin op_fdivI ge_int (ge_var (pv 10))) ga_nil)))) go2_nil)) rfl)
      (gss_cons (gs_if (GW.pt (gw_and (gt_cmp (op_neI hu64) (ge_bin op_mulI (ge_call F38 (hr.mono (by decide)) (by rfl) T.g_sum_to k38 b38 .nil (fun _ => Reps.nil) (ga_cons (ge_var (pv 11)) (ga_cons (ge_var (pv 12)) ga_nil))) (ge_call F26 (hr.mono (by decide)) (by rfl) T.g_member k26 b26 .nil (fun _ => Reps.nil) (ga_cons (ge_var (pv 1)) (ga_cons (ge_var (pv 10)) ga_nil)))) (ge_callB (gc_sum rfl) (by rfl) T.z_sum boot_sum (ga_cons (ge_lc (own := [("at", 9)]) rfl sc.nd (gi_rng1 (by rfl) T.z_range (ga_cons (ge_bin op_addI (ge_callB (gc_min rfl) (by rfl) T.z_min boot_min (ga_cons (ge_var (pv 12)) (ga_cons ge_int ga_nil))) ge_int) ga_nil)) (blkOk_by (N := N59) (sc := defScope s59) (by decide +kernel)) (fun _ _ _ _ _ => (gg_name sc.nd rfl (Or.inl rfl))) (fun _ _ _ _ _ => gts_nil) (fun _ _ _ _ _ => (ge_call F26 (hr.mono (by decide)) (by rfl) T.g_member k26 b26 .nil (fun _ => Reps.nil) (ga_cons (ge_var (pv 1)) (ga_cons (ge_bin op_mulI (ge_var (pv 10)) (ge_var (pv 9))) ga_nil))))) ga_nil)) (nomark _)) (gw_and1 (gt_cmp op_leI (ge_var (pv 12)) ge_int (nomark _))))) (gss_one (gs_ret ge_bl)) gss_nil)
      (gss_cons (gs_if (gt_cmp (op_neI hu64) (ge_lc (own := [("at", 9)]) rfl sc.nd (gi_rng1 (by rfl) T.z_range (ga_cons (ge_bin op_addI (ge_callB (gc_min rfl) (by rfl) T.z_min boot_min (ga_cons (ge_var (pv 12)) (ga_cons ge_int ga_nil))) ge_int) ga_nil)) (blkOk_by (N := N59) (sc := defScope s59) (by decide +kernel)) (fun _ _ _ _ _ => (gg_name sc.nd rfl (Or.inl rfl))) (fun _ _ _ _ _ => gts_nil) (fun _ _ _ _ _ => (ge_call F46 (hr.mono (by decide)) (by rfl) T.g_within_member k46 b46 .nil (fun _ => Reps.nil) (ga_cons (ge_var (pv 1)) (ga_cons (ge_var (pv 10)) (ga_cons (ge_var (pv 9)) ga_nil)))))) (ge_callTy gc_list (by rfl) T.z_list boot_list (ga_cons (ge_call F28 (hr.mono (by decide)) (by rfl) T.g_beginning k28 b28 .nil (fun _ => Reps.nil) (ga_cons (ge_var (pv 11)) (ga_cons (ge_callB (gc_min rfl) (by rfl) T.z_min boot_min (ga_cons (ge_var (pv 12)) (ga_cons ge_int ga_nil))) ga_nil))) ga_nil)) (nomark _)) (gss_one (gs_ret ge_bl)) gss_nil)
      (gss_one (gs_ret (ge_or (ge_cmp (op_eqI hu64) (ge_var (pv 4)) ge_int (nomark _)) (ge_one (ge_and (ge_cmp (op_eqI hu64) (ge_call F32 (hr.mono (by decide)) (by rfl) T.g_shared k32 b32 .nil (fun _ => Reps.nil) (ga_cons (ge_var (pv 1)) (ga_cons (ge_var (pv 4)) (ga_cons (ge_bin op_addI (ge_var (pv 4)) ge_int) ga_nil)))) ge_int (nomark _)) (ge_one (ge_cmp (op_eqI hu64) (ge_bin op_modI (ge_callTy gc_int (by rfl) T.z_int boot_int (ga_cons (ge_bin op_mulI (ge_var (pv 2)) (ge_var (pv 7))) ga_nil)) (ge_callTy gc_int (by rfl) T.z_int boot_int (ga_cons (ge_if (gt_cmp (op_neI hu64) (ge_idx hu (ge_var (pv 5)) (ge_var (pv 4))) ge_int (nomark _)) (ge_idx hu (ge_var (pv 5)) (ge_var (pv 4))) ge_int) ga_nil))) ge_int (nomark _)))))))))))))))))))
theorem ok_law (T : Txt K mg) (main : ∀ ns : List Int, ns.length ≤ 63 → (∀ z ∈ ns, Builtin.Int.intBits z ≤ 1048576) → ∃ s, f_f_law_begun ns = some s ∧ ∀ a, ∃ ρ' s', m_law a (startE 3 [.rol (ns.map D.int), .obj a]) s = some (.rt (.bl true), ρ', s')) : ∃ fd, (FnOk P w K mg base CX0 9 (He.ga K "law") fd ["script"] (spLaw K)) ∧ PySem.W.keepIn K (.ref (He.ga K "law")) = true ∧ FunD K "law" "law" (defArgs s60) (defBody s60) (defScope s60) [] [] (He.ga K "law") fd := by
  obtain ⟨fd, F⟩ := T.d_60
  obtain ⟨fd38, F38, k38, D38⟩ := ok_sum_to (P := P) (w := w) (base := base) T
  have b38 : Binds K fd38 ["rule", "n"] [] := D38.bindsN fun _ _ _ _ _ _ us hl => match us, hl with | [_, _], _ => rfl
  obtain ⟨fd39, F39, k39, D39⟩ := ok_squares_to (P := P) (w := w) (base := base) T
  have b39 : Binds K fd39 ["rule", "n"] [] := D39.bindsN fun _ _ _ _ _ _ us hl => match us, hl with | [_, _], _ => rfl
  obtain ⟨fd40, F40, k40, D40⟩ := ok_mates_to (P := P) (w := w) (base := base) T
  have b40 : Binds K fd40 ["rule", "n"] [] := D40.bindsN fun _ _ _ _ _ _ us hl => match us, hl with | [_, _], _ => rfl
  obtain ⟨fd51, F51, k51, D51⟩ := ok_f_law_begun (P := P) (w := w) (base := base) T
  have b51 : Binds K fd51 ["script"] [] := D51.bindsN fun _ _ _ _ _ _ us hl => match us, hl with | [_], _ => rfl
  obtain ⟨fd59, F59, k59, D59⟩ := ok_f_law_right (P := P) (w := w) (base := base) T
  have b59 : Binds K fd59 ["draw"] [] := D59.bindsN fun _ _ _ _ _ _ us hl => match us, hl with | [_], _ => rfl
  refine ⟨fd, fn_law (m := m_law) rfl F sc60 (by decide) (fun cdv A outer s H E hr => ?_) (fun cdv A outer s H E hr a => ?_) main, F.kp, F⟩
  · exact ps_set (i := 1) sc60.nd rfl (Or.inl rfl) (pe_call F51 (hr.mono (by decide)) (by rfl) T.g__law_begun k51 b51 .nil pass0 (pa_cons (pv 0) pa_nil))
  · have sc := sc60
    have hu := hu_of hr
    have hu64 := hr.units
    exact (gss_cons (gs_for PassesOwn.never rfl (gi_rng1 (by rfl) T.z_range (ga_cons (ge_bin op_addI ge_int (ge_callB (gc_min rfl) (by rfl) T.z_min boot_min (ga_cons (ge_callB gc_len (by rfl) T.z_len boot_len (ga_cons (ge_var (pv 0)) ga_nil)) (ga_cons ge_int ga_nil)))) ga_nil)) (gg_name sc.nd rfl (Or.inl rfl)) (gss_one (gs_if (gt_not (gt_val (ge_callW (F59 a) (hr.mono (by decide)) (by rfl) T.g__law_right k59 b59 .nil (fun _ => Reps.nil) (ga_cons (ge_var (pv 1)) ga_nil)))) (gss_one (gs_ret ge_bl)) gss_nil)))
      (gss_one (gs_ret (ge_and (ge_cmp (op_eqI hu64) (ge_call F38 (hr.mono (by decide)) (by rfl) T.g_sum_to k38 b38 .nil (fun _ => Reps.nil) (ga_cons (ge_tup (ga_cons ge_int (ga_cons (ge_neg ge_int) ga_nil))) (ga_cons ge_int ga_nil))) ge_int (nomark _)) (ge_and (ge_cmp (op_eqI hu64) (ge_call F39 (hr.mono (by decide)) (by rfl) T.g_squares_to k39 b39 .nil (fun _ => Reps.nil) (ga_cons (ge_tup (ga_cons ge_int (ga_cons (ge_neg ge_int) ga_nil))) (ga_cons ge_int ga_nil))) ge_int (nomark _)) (ge_one (ge_cmp (op_eqI hu64) (ge_call F40 (hr.mono (by decide)) (by rfl) T.g_mates_to k40 b40 .nil (fun _ => Reps.nil) (ga_cons (ge_tup (ga_cons ge_int (ga_cons (ge_neg ge_int) ga_nil))) (ga_cons ge_int ga_nil))) ge_int (nomark _))))))))
end
def aliasOk (K : PySem.W.Frag) : Bool := ([decide (He.ga K "need_n_sums" = He.ga K "need_n")] : List Bool).all id
/-- the facts from the head -/
theorem txt_mk {K : PySem.W.Frag} {h : Heap} {mg : Str → Option Value} (X : K.In h) (G : h.Ns mainGlobals mg) (c : He.SaysD faL fnL K) (cb : blOk blL K = true) (ca : aliasOk K = true) : Txt K mg where
  g__law_begun := He.glo_ok X G (c.fact 0 rfl)
  g__law_common := He.glo_ok X G (c.fact 1 rfl)
  g__law_is_number := He.glo_ok X G (c.fact 2 rfl)
  g__law_is_rule := He.glo_ok X G (c.fact 3 rfl)
  g__law_mixed := He.glo_ok X G (c.fact 4 rfl)
  g__law_pick := He.glo_ok X G (c.fact 5 rfl)
  g__law_right := He.glo_ok X G (c.fact 6 rfl)
  g__law_rule := He.glo_ok X G (c.fact 7 rfl)
  g__law_take := He.glo_ok X G (c.fact 8 rfl)
  g_beginning := He.glo_ok X G (c.fact 9 rfl)
  g_fault_by := He.glo_ok X G (c.fact 10 rfl)
  g_is_rule_of := He.glo_ok X G (c.fact 11 rfl)
  g_is_small := He.glo_ok X G (c.fact 12 rfl)
  g_is_whole := He.glo_ok X G (c.fact 13 rfl)
  g_is_within_bounds := He.glo_ok X G (c.fact 14 rfl)
  g_law := He.glo_ok X G (c.fact 15 rfl)
  g_line_by := He.glo_ok X G (c.fact 16 rfl)
  g_line_within := He.glo_ok X G (c.fact 17 rfl)
  g_mate := He.glo_ok X G (c.fact 18 rfl)
  g_mate_by := He.glo_ok X G (c.fact 19 rfl)
  g_mates_to := He.glo_ok X G (c.fact 20 rfl)
  g_member := He.glo_ok X G (c.fact 21 rfl)
  g_member_by := He.glo_ok X G (c.fact 22 rfl)
  g_need_both := He.glo_ok X G (c.fact 23 rfl)
  g_need_k := He.glo_ok X G (c.fact 24 rfl)
  g_need_n := He.glo_ok X G (c.fact 25 rfl)
  g_need_n_members := He.glo_ok X G (c.fact 26 rfl)
  g_need_n_sums := He.glo_ok X G (c.fact 27 rfl)
  g_need_rule := He.glo_ok X G (c.fact 28 rfl)
  g_powered := He.glo_ok X G (c.fact 29 rfl)
  g_row_to := He.glo_ok X G (c.fact 30 rfl)
  g_rules_within := He.glo_ok X G (c.fact 31 rfl)
  g_shared := He.glo_ok X G (c.fact 32 rfl)
  g_squares_to := He.glo_ok X G (c.fact 33 rfl)
  g_steps_by := He.glo_ok X G (c.fact 34 rfl)
  g_sum_to := He.glo_ok X G (c.fact 35 rfl)
  g_within_by := He.glo_ok X G (c.fact 36 rfl)
  g_within_member := He.glo_ok X G (c.fact 37 rfl)
  d_12 := c.def_ 0 (d := dd12) rfl
  d_13 := c.def_ 1 (d := dd13) rfl
  d_14 := c.def_ 2 (d := dd14) rfl
  d_15 := c.def_ 3 (d := dd15) rfl
  d_16 := c.def_ 4 (d := dd16) rfl
  d_17 := c.def_ 5 (d := dd17) rfl
  d_21 := c.def_ 6 (d := dd21) rfl
  d_22 := c.def_ 7 (d := dd22) rfl
  d_23 := c.def_ 8 (d := dd23) rfl
  d_24 := c.def_ 9 (d := dd24) rfl
  d_26 := c.def_ 10 (d := dd26) rfl
  d_27 := c.def_ 11 (d := dd27) rfl
  d_28 := c.def_ 12 (d := dd28) rfl
  d_30 := c.def_ 13 (d := dd30) rfl
  d_31 := c.def_ 14 (d := dd31) rfl
  d_32 := c.def_ 15 (d := dd32) rfl
  d_35 := c.def_ 16 (d := dd35) rfl
  d_37 := c.def_ 17 (d := dd37) rfl
  d_38 := c.def_ 18 (d := dd38) rfl
  d_39 := c.def_ 19 (d := dd39) rfl
  d_40 := c.def_ 20 (d := dd40) rfl
  d_43 := c.def_ 21 (d := dd43) rfl
  d_44 := c.def_ 22 (d := dd44) rfl
  d_45 := c.def_ 23 (d := dd45) rfl
  d_46 := c.def_ 24 (d := dd46) rfl
  d_48 := c.def_ 25 (d := dd48) rfl
  d_49 := c.def_ 26 (d := dd49) rfl
  d_51 := c.def_ 27 (d := dd51) rfl
  d_52 := c.def_ 28 (d := dd52) rfl
  d_53 := c.def_ 29 (d := dd53) rfl
  d_54 := c.def_ 30 (d := dd54) rfl
  d_55 := c.def_ 31 (d := dd55) rfl
  d_56 := c.def_ 32 (d := dd56) rfl
  d_57 := c.def_ 33 (d := dd57) rfl
  d_58 := c.def_ 34 (d := dd58) rfl
  d_59 := c.def_ 35 (d := dd59) rfl
  d_60 := c.def_ 36 (d := dd60) rfl
  z_abs := He.free_ok X G (c.fact 38 rfl)
  z_all := He.free_ok X G (c.fact 39 rfl)
  z_bool := He.free_ok X G (c.fact 40 rfl)
  z_int := He.free_ok X G (c.fact 41 rfl)
  z_isinstance := He.free_ok X G (c.fact 42 rfl)
  z_len := He.free_ok X G (c.fact 43 rfl)
  z_list := He.free_ok X G (c.fact 44 rfl)
  z_max := He.free_ok X G (c.fact 45 rfl)
  z_min := He.free_ok X G (c.fact 46 rfl)
  z_range := He.free_ok X G (c.fact 47 rfl)
  z_sum := He.free_ok X G (c.fact 48 rfl)
  z_tuple := He.free_ok X G (c.fact 49 rfl)
  c_MOST_NUMBER_OF := He.int_ok X G (c.fact 50 rfl)
  c_MOST_N := He.int_ok X G (c.fact 51 rfl)
  c_MOST_FAR := He.int_ok X G (c.fact 52 rfl)
  c_MOST_INDEX := He.int_ok X G (c.fact 53 rfl)
  c_MOST_K := He.int_ok X G (c.fact 54 rfl)
  y_gcd := blt_ok X G (List.all_eq_true.mp cb _ (List.mem_of_getElem? (i := 0) rfl))
  e_need_n_sums := of_decide_eq_true (List.all_eq_true.mp ca (decide (He.ga K "need_n_sums" = He.ga K "need_n")) (List.mem_of_getElem? (i := 0) rfl))
/-! ### the head: one run of the top -/
abbrev R : PySem.W.OpenRow := PySem.W.OpenLaw.row PySem.Challenge.rw_lasttwo_k62_across_sums_and_members
abbrev hk : PySem.W.Hook := hookM 4 faL fnL blL aliasOk
def ob (s : PySem.W.SharedT) : AlM := obsM 4 faL fnL blL aliasOk (HandSHeadRun.getT s)
theorem ob_eq (s : PySem.W.SharedT) : ob s = hk.obs s.abs := by
  have e : HandSHeadRun.getT s = s.abs.heap.get? := funext fun a => HandSHeadRun.getT_eq s a
  show obsM 4 faL fnL blL aliasOk (HandSHeadRun.getT s) = obsM 4 faL fnL blL aliasOk s.abs.heap.get?
  rw [e]
def loose0 : List Str := (["RuleError", "BadK", "BadM", "BadN", "BadOne", "BadOther", "BadRule", "TooMany", "MOST_NUMBER_OF", "is_whole", "is_within_bounds", "fault_by", "is_rule_of", "need_rule", "powered", "MOST_N", "MOST_FAR", "line_by", "member_by", "mate_by", "need_n", "need_n_members", "member", "mate", "beginning", "steps_by", "need_both", "shared", "MOST_INDEX", "need_n_sums"] : List Str) ++ (["row_to", "sum_to", "squares_to", "mates_to", "MOST_K", "within_by", "is_small", "need_k", "within_member", "line_within", "rules_within", "_law_begun", "_law_mixed", "_law_take", "_law_pick", "_law_is_number", "_law_common", "_law_is_rule", "_law_rule", "_law_right"] : List Str)
abbrev qv : PySem.Program := PySem.W.view R.prog [0, 60]
theorem run (w : World) : HandSHeadRun.RunEqI R qv hk ob 30000 loose0 w := by
  unfold HandSHeadRun.RunEqI
  kernel_rfl
end MP
open PySem PySem.W PySem.Calls PyProof.Rows
theorem MP.fun_uniq {K : PySem.W.Frag} {x qual : PySem.Str} {params : PySem.Arguments} {body : List PySem.Stmt} {scope : PySem.Scope} {dvs : List L2.V} {kws : List (PySem.Str × L2.V)} {f : PySem.Addr} {fd fd' : PySem.FuncData} (D : L2.FunD K x qual params body scope dvs kws f fd) (D' : L2.FunD K x qual params body scope dvs kws f fd') : fd = fd' := by
  obtain ⟨oc, od, dV, kV, doc, pm, an, cdv, ct, osl, e, lk, _⟩ := D.ex
  obtain ⟨oc', od', dV', kV', doc', pm', an', cdv', ct', osl', e', lk', _⟩ := D'.ex
  have h := Option.some.inj (lk.symm.trans lk')
  injection h with _ _ h2
  injection h2
theorem PySem.Challenge.cw_lasttwo_k62_across_sums_and_members_holds : PySem.Challenge.rw_lasttwo_k62_across_sums_and_members.Holds := by
  w_on; o_law
  refine HandSHeadRun.head_imp (r := OpenLaw.row PySem.Challenge.rw_lasttwo_k62_across_sums_and_members) (q := MP.qv) (H := MP.hk) (ob := MP.ob) (M := 30000) (loose := MP.loose0) (d := HandSHeadRun.topDef (OpenLaw.row PySem.Challenge.rw_lasttwo_k62_across_sums_and_members).prog 60) (kwd := []) MP.ob_eq
    MP.run (by kernel_rfl) (by kernel_rfl) (by kernel_rfl) (by rfl) (by first | assumption | decide +kernel) (by decide +kernel) ⟨rfl, rfl, rfl, rfl, rfl, by decide +kernel⟩ ?hw ?hc
  case hw => w_witness2
  case hc =>
    refine MP.walk_end (l := PySem.Challenge.rw_lasttwo_k62_across_sums_and_members) (n := 63) (k := 9) (x := "script") rfl (by decide) (by kernel_rfl) ⟨rfl, by decide, by decide⟩ ?F
    intro w mg fa h Y G hmg0
    obtain ⟨K, KX, c, cc⟩ := Y
    have hmg : mg ("law" : PySem.Str) = some (.ref fa) := by
      have e : (HandSHeadRun.topDef (OpenLaw.row PySem.Challenge.rw_lasttwo_k62_across_sums_and_members).prog 60).name = ("law" : PySem.Str) := by kernel_rfl
      rw [← e]
      exact hmg0
    have T := MP.txt_mk KX G c (Bool.and_eq_true_iff.mp cc).1 (Bool.and_eq_true_iff.mp cc).2
    have e := hmg.symm.trans T.g_law
    cases e
    obtain ⟨fd, F, _, D⟩ := MP.ok_law (P := (PySem.Challenge.rw_lasttwo_k62_across_sums_and_members).prog) (w := w) (base := h) T MP.main_law
    have b := L2.FunD.bindsA (ps := ["script"]) D fun _ _ _ _ _ _ us hl => match us, hl with | [_], _ => rfl
    refine ⟨K, fd, MP.spLaw K, KX, fun s v => b s [v] rfl, fun H a ns hl hbits hS => ⟨a, ns, rfl, hS, hl, hbits, fun _ => rfl⟩, fun base hb hB => ?_⟩
    obtain ⟨fd', F', _, D'⟩ := MP.ok_law (P := (PySem.Challenge.rw_lasttwo_k62_across_sums_and_members).prog) (w := w) (base := base) T MP.main_law
    rw [MP.fun_uniq D D']
    exact F'
