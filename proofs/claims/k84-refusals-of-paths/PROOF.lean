import PyProof.Rows.All
import Wide.All
import OpenK.AllK
import Wide.FinOn
import HandS.ForMost
import HandS.ForExc
import HandS.HeadHook1
import HandS.HeadHook2
import HandS.Flow
import HandS.IsInst
import HandS.TupAny
import HandS.TupLe
import HandS.Style
import HandS.Wide
import HandS.Deep
import KE.DataEq
import KE.DataCmp
import KE.DataFind
import KE.DataMinMax
import HandS.Iter
import HandS.Text
import KE.SortData
import HandS.RaiseMore
import HandS.WordsDict
import HandS.Zip
import KE.GoesMore
import HandS.Comp
import HandS.Exc
import HandS.ExcOwn
import HandS.Defaults
import HandS.More
import HandS.Small
import HandS.Strs
import HandS.ExcInit
import HandS.ExcField
import HandS.Ends
import HandS.Words
import HandS.WordsExc
import HandS.DictComp
import HandS.Conv
import HandS.HeadEnd
import HandS.HeadHook4
import HandS.TupMul
import HandS.List
import HandS.Head2
import PySem.Challenge.RW_fewestrules_k84_refusals_of_paths
set_option Elab.async false
set_option linter.all false
set_option maxRecDepth 100000
set_option maxHeartbeats 0
/-! VLa: data by value, how the heap bears them, slots, worlds. -/
namespace VL
open PySem PySem.Spec L2

/-! ### data -/
inductive D where
  | non
  | bl (b : Bool)
  | int (i : Int)
  | str (s : Str)
  | tup (xs : List D)
  | lst (xs : List D)
  | dct (ks : List (D × D))
  | ins (c : Str) (fs : List (Str × D))
  | scr (ns : List Int)
instance : Inhabited D := ⟨.non⟩
def keyD : Key → D
  | .inl i => .int i
  | .inr s => .str s
/-- a tuple whose object is known to have no dict (so its methods are found) -/
def TupX (K : PySem.W.Frag) (H : Hp) (a : Addr) (vs : List V) : Prop :=
  (∃ o : Obj, H a = some (.frz o (.tup vs)) ∧ o.dict = none) ∨
    ∃ (o : Obj) (its : Array Value) (n : Nat), K.lookup a = some o ∧ o.cls = .type "tuple" ∧ o.dict = none ∧ o.data = .seq its n ∧ its.size ≤ sizeLine ∧ Vals vs its.toList
theorem TupX.sq {K : PySem.W.Frag} {H : Hp} {a : Addr} {vs : List V} (h : TupX K H a vs) : SqT K H a vs := by
  rcases h with ⟨o, h, _⟩ | ⟨o, its, n, h1, h2, _, h4, h5, h6⟩
  · exact Or.inl (Or.inr ⟨o, h⟩)
  · exact Or.inr ⟨o, its, n, h1, h2, h4, h5, h6⟩
theorem TupX.mono {K : PySem.W.Frag} {H H' : Hp} {a : Addr} {vs : List V} (e : Same H H') (h : TupX K H a vs) : TupX K H' a vs := by
  rcases h with ⟨o, h, q⟩ | h
  · exact Or.inl ⟨o, e _ _ h, q⟩
  · exact Or.inr h
mutual
inductive Rep (K : PySem.W.Frag) (H : Hp) : V → D → Prop
  | non : Rep K H .non .non
  | bl (b : Bool) : Rep K H (.bl b) (.bl b)
  | int (i : Int) : Rep K H (.int i) (.int i)
  | str (s : Str) : Rep K H (.str s) (.str s)
  | tup {a : Addr} {vs : List V} {ds : List D} : TupX K H a vs → Reps K H vs ds → Rep K H (.ref a) (.tup ds)
  | lst {a : Addr} {vs : List V} {ds : List D} : H a = some (.lst vs) → Reps K H vs ds → Rep K H (.ref a) (.lst ds)
  | dct {a : Addr} {kvs : List (Key × V)} {ks : List (D × D)} : H a = some (.dK kvs) → RepK K H kvs ks → Rep K H (.ref a) (.dct ks)
  | ins {a dx : Addr} {c : Str} {fvs : List (Str × V)} {fs : List (Str × D)} : H a = some (.ins (He.ga K c) dx fvs) → H dx = some (.own a) → RepF K H fvs fs → Rep K H (.ref a) (.ins c fs)
  | scr {a : Addr} {ns : List Int} : SqL K H a (ns.map V.int) → Rep K H (.ref a) (.scr ns)
inductive Reps (K : PySem.W.Frag) (H : Hp) : List V → List D → Prop
  | nil : Reps K H [] []
  | cons {v : V} {d : D} {vs : List V} {ds : List D} : Rep K H v d → Reps K H vs ds → Reps K H (v :: vs) (d :: ds)
inductive RepK (K : PySem.W.Frag) (H : Hp) : List (Key × V) → List (D × D) → Prop
  | nil : RepK K H [] []
  | cons {k : Key} {v : V} {d : D} {kvs : List (Key × V)} {ks : List (D × D)} : Rep K H v d → RepK K H kvs ks → RepK K H ((k, v) :: kvs) ((keyD k, d) :: ks)
inductive RepF (K : PySem.W.Frag) (H : Hp) : List (Str × V) → List (Str × D) → Prop
  | nil : RepF K H [] []
  | cons {f : Str} {v : V} {d : D} {fvs : List (Str × V)} {fs : List (Str × D)} : Rep K H v d → RepF K H fvs fs → RepF K H ((f, v) :: fvs) ((f, d) :: fs)
end
section
variable {K : PySem.W.Frag} {H H' : Hp}
mutual
theorem Rep.mono (s : Same H H') : ∀ {v : V} {d : D}, Rep K H v d → Rep K H' v d
  | _, _, .non => .non
  | _, _, .bl b => .bl b
  | _, _, .int i => .int i
  | _, _, .str x => .str x
  | _, _, .tup h r => .tup (h.mono s) (Reps.mono s r)
  | _, _, .lst h r => .lst (s _ _ h) (Reps.mono s r)
  | _, _, .scr h => .scr (s.seq h)
  | _, _, .dct h r => .dct (s _ _ h) (RepK.mono s r)
  | _, _, .ins h h2 r => .ins (s _ _ h) (s _ _ h2) (RepF.mono s r)
theorem Reps.mono (s : Same H H') : ∀ {vs : List V} {ds : List D}, Reps K H vs ds → Reps K H' vs ds
  | _, _, .nil => .nil
  | _, _, .cons h r => .cons (Rep.mono s h) (Reps.mono s r)
theorem RepK.mono (s : Same H H') : ∀ {vs : List (Key × V)} {ds : List (D × D)}, RepK K H vs ds → RepK K H' vs ds
  | _, _, .nil => .nil
  | _, _, .cons h r => .cons (Rep.mono s h) (RepK.mono s r)
theorem RepF.mono (s : Same H H') : ∀ {vs : List (Str × V)} {ds : List (Str × D)}, RepF K H vs ds → RepF K H' vs ds
  | _, _, .nil => .nil
  | _, _, .cons h r => .cons (Rep.mono s h) (RepF.mono s r)
end
theorem Reps.length : ∀ {vs : List V} {ds : List D}, Reps K H vs ds → vs.length = ds.length
  | _, _, .nil => rfl
  | _, _, .cons _ r => by rw [List.length_cons, List.length_cons, Reps.length r]
theorem RepK.length : ∀ {vs : List (Key × V)} {ds : List (D × D)}, RepK K H vs ds → vs.length = ds.length
  | _, _, .nil => rfl
  | _, _, .cons _ r => by rw [List.length_cons, List.length_cons, RepK.length r]
theorem Reps.append : ∀ {vs ws : List V} {ds es : List D}, Reps K H vs ds → Reps K H ws es → Reps K H (vs ++ ws) (ds ++ es)
  | _, _, _, _, .nil, s => s
  | _, _, _, _, .cons h r, s => .cons h (Reps.append r s)
theorem Reps.take : ∀ {vs : List V} {ds : List D} (n : Nat), Reps K H vs ds → Reps K H (vs.take n) (ds.take n)
  | _, _, 0, _ => by simp; exact .nil
  | _, _, n + 1, .nil => .nil
  | _, _, n + 1, .cons h r => .cons h (Reps.take n r)
theorem Reps.drop : ∀ {vs : List V} {ds : List D} (n : Nat), Reps K H vs ds → Reps K H (vs.drop n) (ds.drop n)
  | _, _, 0, h => h
  | _, _, n + 1, .nil => .nil
  | _, _, n + 1, .cons h r => Reps.drop n r
theorem Reps.get : ∀ {vs : List V} {ds : List D} {i : Nat} {d : D}, Reps K H vs ds → ds[i]? = some d → ∃ v, vs[i]? = some v ∧ Rep K H v d
  | _, _, _, _, .nil, e => by simp at e
  | _, _, 0, _, .cons h _, e => by simp at e; subst e; exact ⟨_, rfl, h⟩
  | _, _, i + 1, d, .cons _ r, e => by
    obtain ⟨v, h1, h2⟩ := Reps.get (i := i) (d := d) r (by simpa using e)
    exact ⟨v, by simpa using h1, h2⟩
theorem Reps.getv : ∀ {vs : List V} {ds : List D} {i : Nat} {v : V}, Reps K H vs ds → vs[i]? = some v → ∃ d, ds[i]? = some d ∧ Rep K H v d
  | _, _, _, _, .nil, e => by simp at e
  | _, _, 0, _, .cons h _, e => by simp at e; subst e; exact ⟨_, rfl, h⟩
  | _, _, i + 1, v, .cons _ r, e => by
    obtain ⟨d, h1, h2⟩ := Reps.getv (i := i) (v := v) r (by simpa using e)
    exact ⟨d, by simpa using h1, h2⟩
theorem Reps.set {v : V} {d : D} (h : Rep K H v d) : ∀ {vs : List V} {ds : List D} (i : Nat), Reps K H vs ds → Reps K H (vs.set i v) (ds.set i d)
  | _, _, _, .nil => .nil
  | _, _, 0, .cons _ r => .cons h r
  | _, _, i + 1, .cons g r => .cons g (Reps.set h i r)
theorem Reps.eraseIdx : ∀ {vs : List V} {ds : List D} (i : Nat), Reps K H vs ds → Reps K H (vs.eraseIdx i) (ds.eraseIdx i)
  | _, _, _, .nil => .nil
  | _, _, 0, .cons _ r => r
  | _, _, i + 1, .cons g r => .cons g (Reps.eraseIdx i r)
theorem Reps.reverse : ∀ {vs : List V} {ds : List D}, Reps K H vs ds → Reps K H vs.reverse ds.reverse
  | _, _, .nil => .nil
  | _, _, .cons h r => by rw [List.reverse_cons, List.reverse_cons]; exact (Reps.reverse r).append (.cons h .nil)
theorem RepF.lookup : ∀ {fvs : List (Str × V)} {fs : List (Str × D)} {f : Str}, RepF K H fvs fs → (∀ d, fs.lookup f = some d → ∃ v, fvs.lookup f = some v ∧ Rep K H v d) ∧ (fs.lookup f = none → fvs.lookup f = none)
  | _, _, _, .nil => ⟨fun d e => by simp at e, fun _ => rfl⟩
  | _, _, f, .cons (f := g) h r => by
    obtain ⟨h1, h2⟩ := RepF.lookup (f := f) r
    by_cases e : f = g
    · subst e
      refine ⟨fun d q => ?_, fun q => ?_⟩
      · simp [List.lookup] at q
        subst q
        exact ⟨_, by simp [List.lookup], h⟩
      · simp [List.lookup] at q
    · have ne : (f == g) = false := by simpa using e
      refine ⟨fun d q => ?_, fun q => ?_⟩
      · obtain ⟨v, q1, q2⟩ := h1 d (by simpa [List.lookup, ne] using q)
        exact ⟨v, by simpa [List.lookup, ne] using q1, q2⟩
      · have := h2 (by simpa [List.lookup, ne] using q)
        simpa [List.lookup, ne] using this
end

/-! ### what is owned: the object itself may change, its parts are frozen -/
section
variable (K : PySem.W.Frag) (H0 H : Hp)
def OwnC (a : Addr) : D → Prop
  | .lst ds => ∃ vs, H a = some (.lst vs) ∧ Reps K H0 vs ds
  | .dct ks => ∃ kvs, H a = some (.dK kvs) ∧ RepK K H0 kvs ks
  | .ins c fs => ∃ dx fvs, H a = some (.ins (He.ga K c) dx fvs) ∧ H dx = some (.own a) ∧ H0 dx = none ∧ RepF K H0 fvs fs
  | _ => False
def OwnAt (a : Addr) (d : D) : Prop := H0 a = none ∧ OwnC K H0 H a d
/-- an operand: frozen, or owned by someone -/
def Opd (v : V) (d : D) : Prop := Rep K H0 v d ∨ ∃ a, v = .ref a ∧ OwnAt K H0 H a d
end
section
variable {K : PySem.W.Frag} {H0 H H0' H' : Hp} {a : Addr} {d : D}
theorem OwnC.some (h : OwnC K H0 H a d) : ∃ o, H a = some o := by
  cases d with
  | lst ds => obtain ⟨vs, e, _⟩ := h; exact ⟨_, e⟩
  | dct ds => obtain ⟨vs, e, _⟩ := h; exact ⟨_, e⟩
  | ins c fs => obtain ⟨dx, vs, e, _⟩ := h; exact ⟨_, e⟩
  | _ => exact h.elim
/-- no own dict of an instance is owned itself -/
theorem OwnC.not_own (h : OwnC K H0 H a d) (x : Addr) : H a ≠ .some (.own x) := by
  cases d with
  | lst ds => obtain ⟨vs, e, _⟩ := h; rw [e]; intro q; cases q
  | dct ds => obtain ⟨vs, e, _⟩ := h; rw [e]; intro q; cases q
  | ins c fs => obtain ⟨dx, vs, e, _⟩ := h; rw [e]; intro q; cases q
  | _ => exact h.elim
theorem OwnAt.some (h : OwnAt K H0 H a d) : ∃ o, H a = some o := h.2.some
/-- it stays where it and the dicts of instances stay -/
theorem OwnAt.keep (h : OwnAt K H0 H a d) (s : Same H0 H0') (k : ∀ b o, (b = a ∨ H b = .some (.own a)) → H b = .some o → H' b = .some o ∧ (H0 b = none → H0' b = none)) : OwnAt K H0' H' a d := by
  obtain ⟨o, ho⟩ := h.some
  refine ⟨(k a o (.inl rfl) ho).2 h.1, ?_⟩
  cases d with
  | lst ds => obtain ⟨vs, e, r⟩ := h.2; exact ⟨vs, (k a _ (.inl rfl) e).1, r.mono s⟩
  | dct ds => obtain ⟨vs, e, r⟩ := h.2; exact ⟨vs, (k a _ (.inl rfl) e).1, r.mono s⟩
  | ins c fs =>
    obtain ⟨dx, vs, e, e2, e3, r⟩ := h.2
    exact ⟨dx, vs, (k a _ (.inl rfl) e).1, (k dx _ (.inr e2) e2).1, (k dx _ (.inr e2) e2).2 e3, r.mono s⟩
  | _ => exact h.2.elim
/-- pure growth of the world -/
structure Step (H0 H H0' H' : Hp) : Prop where
  s0 : Same H0 H0'
  s : Same H H'
  sub : Same H0' H'
  off : ∀ b o, H b = .some o → H0 b = none → H0' b = none
theorem Step.refl (h : Same H0 H) : Step H0 H H0 H := ⟨.refl _, .refl _, h, fun _ _ _ h => h⟩
theorem Step.trans {H0'' H'' : Hp} (x : Step H0 H H0' H') (y : Step H0' H' H0'' H'') : Step H0 H H0'' H'' :=
  ⟨x.s0.trans y.s0, x.s.trans y.s, y.sub, fun b o e n => y.off b o (x.s b o e) (x.off b o e n)⟩
theorem OwnAt.step (h : OwnAt K H0 H a d) (x : Step H0 H H0' H') : OwnAt K H0' H' a d := h.keep x.s0 fun b o _ e => ⟨x.s b o e, x.off b o e⟩
theorem Opd.step {v : V} (h : Opd K H0 H v d) (x : Step H0 H H0' H') : Opd K H0' H' v d := by
  rcases h with h | ⟨a, e, h⟩
  · exact .inl (h.mono x.s0)
  · exact .inr ⟨a, e, h.step x⟩
/-- a new object, frozen at once -/
theorem same_upd {H : Hp} {p : Addr} {o : HO} (h : H p = none) : Same H (upd H p o) := fun b x e => by
  rw [upd_ne (ne_of_none e h)]
  exact e
theorem same_upd2 {p : Addr} {o : HO} (s : Same H0 H) : Same (upd H0 p o) (upd H p o) := fun b x e => by
  by_cases h : b = p
  · subst h; rw [upd_same] at e ⊢; exact e
  · rw [upd_ne h] at e ⊢; exact s _ _ e
theorem none_of_sub (s : Same H0 H) {p : Addr} (h : H p = none) : H0 p = none := s.free h
theorem Step.frozen {p : Addr} {o : HO} (s : Same H0 H) (h : H p = none) : Step H0 H (upd H0 p o) (upd H p o) :=
  ⟨same_upd (s.free h), same_upd h, same_upd2 s, fun b u e n => by rw [upd_ne (ne_of_none e h)]; exact n⟩
/-- a new object, not frozen -/
theorem Step.new {p : Addr} {o : HO} (s : Same H0 H) (h : H p = none) : Step H0 H H0 (upd H p o) :=
  ⟨.refl _, same_upd h, s.trans (same_upd h), fun _ _ _ n => n⟩
/-- what is owned is frozen: lists and dicts -/
def D.frb : D → Bool
  | .lst _ => true
  | .dct _ => true
  | _ => false
theorem OwnAt.freeze (h : OwnAt K H0 H a d) (hd : d.frb = true) : ∃ o, H a = .some o ∧ (∀ x, o ≠ .own x) ∧ Rep K (upd H0 a o) (.ref a) d ∧ ((∃ xs, o = .lst xs) ∨ ∃ xs, o = .dK xs) := by
  cases d with
  | lst ds =>
    obtain ⟨n, vs, e, r⟩ := h
    exact ⟨_, e, fun _ z => by (cases z), .lst upd_same (r.mono (same_upd n)), .inl ⟨_, rfl⟩⟩
  | dct ks =>
    obtain ⟨n, vs, e, r⟩ := h
    exact ⟨_, e, fun _ z => by (cases z), .dct upd_same (r.mono (same_upd n)), .inr ⟨_, rfl⟩⟩
  | _ => cases hd
theorem sub_upd {p : Addr} {o : HO} (s : Same H0 H) (h : H p = .some o) : Same (upd H0 p o) H := fun b u q => by
  by_cases z : b = p
  · subst z; rw [upd_same] at q; cases q; exact h
  · rw [upd_ne z] at q; exact s _ _ q
/-- an operand stays one if a list or a dict is frozen -/
theorem Opd.upd {v : V} {o : HO} (h : Opd K H0 H v d) (n : H0 a = none) (ha : H a = .some o) (hl : (∃ xs, o = .lst xs) ∨ ∃ xs, o = .dK xs) : Opd K (upd H0 a o) H v d := by
  rcases h with h | ⟨b, e, h⟩
  · exact .inl (h.mono (same_upd n))
  · by_cases z : b = a
    · subst z
      cases d with
      | lst ds =>
        obtain ⟨_, vs, e2, r⟩ := h
        rw [ha] at e2; cases e2
        rw [e]; exact .inl (.lst upd_same (r.mono (same_upd n)))
      | dct ds =>
        obtain ⟨_, vs, e2, r⟩ := h
        rw [ha] at e2; cases e2
        rw [e]; exact .inl (.dct upd_same (r.mono (same_upd n)))
      | ins c fs =>
        obtain ⟨_, dx, vs, e2, _⟩ := h
        rw [ha] at e2; cases e2
        rcases hl with ⟨_, q⟩ | ⟨_, q⟩ <;> cases q
      | _ => exact h.2.elim
    · refine .inr ⟨b, e, h.keep (same_upd n) fun c u hc q => ⟨q, fun m => ?_⟩⟩
      have : c ≠ a := fun y => by
        subst y
        rcases hc with hc | hc
        · exact z hc.symm
        · rw [ha] at hc; cases hc
          rcases hl with ⟨_, q⟩ | ⟨_, q⟩ <;> cases q
      rw [upd_ne this]; exact m
end

/-! ### slots, worlds -/
inductive Sl where
  | un | fz (d : D) | ow (p : Bool) (d : D) | bw (d : D)
abbrev En := List Sl
/-- the object at b is owned by a slot -/
def Own (σ : L2.St) (e : En) (b : Addr) : Prop := ∃ (i : Nat) (p : Bool) (d : D), e[i]? = some (Sl.ow p d) ∧ σ[i]? = some (some (V.ref b))
structure Wd (K : PySem.W.Frag) (H0 H : Hp) (σ : L2.St) (e : En) : Prop where
  sub : Same H0 H
  len : σ.length = e.length
  fz : ∀ (i : Nat) (d : D), e[i]? = some (Sl.fz d) → ∃ v, σ[i]? = some (some v) ∧ Rep K H0 v d
  ow : ∀ (i : Nat) (p : Bool) (d : D), e[i]? = some (Sl.ow p d) → ∃ a, σ[i]? = some (some (V.ref a)) ∧ OwnAt K H0 H a d
  bw : ∀ (i : Nat) (d : D), e[i]? = some (Sl.bw d) → ∃ v, σ[i]? = some (some v) ∧ (Rep K H0 v d ∨ ∃ a, v = .ref a ∧ OwnAt K H0 H a d ∧ ¬ Own σ e a)
  inj : ∀ (i j : Nat) (p p' : Bool) (d d' : D) (a : Addr), e[i]? = some (Sl.ow p d) → e[j]? = some (Sl.ow p' d') → σ[i]? = some (some (V.ref a)) → σ[j]? = some (some (V.ref a)) → i = j
/-- from one world to a later one -/
structure After (K : PySem.W.Frag) (H0 H : Hp) (σ : L2.St) (e : En) (H0' H' : Hp) (σ' : L2.St) (e' : En) : Prop where
  s0 : Same H0 H0'
  keep : ∀ b o, H b = some o → ¬ Own σ e b → H' b = some o
  off : ∀ b o, H b = some o → H0 b = none → ¬ Own σ e b → H0' b = none
  thr : ∀ b o, H b = some o → ∃ o', H' b = some o'
  own : ∀ b, Own σ' e' b → Own σ e b ∨ H b = none
  pin : ∀ (i : Nat) (d' : D), e'[i]? = some (Sl.ow true d') → σ'[i]? = σ[i]? ∧ ∃ d, e[i]? = some (Sl.ow true d)
  pinb : ∀ (i : Nat) (d : D), e'[i]? = some (Sl.bw d) → σ'[i]? = σ[i]? ∧ e[i]? = some (Sl.bw d)
section
variable {K : PySem.W.Frag} {H0 H H0' H' H0'' H'' : Hp} {σ σ' σ'' : L2.St} {e e' e'' : En}
theorem After.refl : After K H0 H σ e H0 H σ e := ⟨.refl _, fun _ _ q n => q, fun _ _ _ n _ => n, fun _ o q => ⟨o, q⟩, fun _ o => .inl o, fun _ d q => ⟨rfl, d, q⟩, fun _ _ q => ⟨rfl, q⟩⟩
theorem After.nown (x : After K H0 H σ e H0' H' σ' e') {b : Addr} {o : HO} (q : H b = some o) (n : ¬ Own σ e b) : ¬ Own σ' e' b := fun z => by
  rcases x.own b z with z | z
  · exact n z
  · rw [q] at z; cases z
theorem After.trans (x : After K H0 H σ e H0' H' σ' e') (y : After K H0' H' σ' e' H0'' H'' σ'' e'') : After K H0 H σ e H0'' H'' σ'' e'' where
  s0 := x.s0.trans y.s0
  keep := fun b o q n => y.keep b o (x.keep b o q n) (x.nown q n)
  off := fun b o q m n => y.off b o (x.keep b o q n) (x.off b o q m n) (x.nown q n)
  thr := fun b o q => let ⟨o', q'⟩ := x.thr b o q; y.thr b o' q'
  own := fun b z => by
    rcases y.own b z with z | z
    · exact x.own b z
    · cases q : H b with
      | none => exact .inr rfl
      | some o =>
        obtain ⟨o', q'⟩ := x.thr b o q
        rw [z] at q'; cases q'
  pin := fun i d' q => by
    obtain ⟨h1, d1, h2⟩ := y.pin i d' q
    obtain ⟨h3, h4⟩ := x.pin i d1 h2
    exact ⟨h1.trans h3, h4⟩
  pinb := fun i d q => by
    obtain ⟨h1, h2⟩ := y.pinb i d q
    obtain ⟨h3, h4⟩ := x.pinb i d h2
    exact ⟨h1.trans h3, h4⟩
theorem After.of_step (x : Step H0 H H0' H') : After K H0 H σ e H0' H' σ e := ⟨x.s0, fun b o q _ => x.s b o q, fun b o q m _ => x.off b o q m, fun b o q => ⟨o, x.s b o q⟩, fun _ o => .inl o, fun _ d q => ⟨rfl, d, q⟩, fun _ _ q => ⟨rfl, q⟩⟩
theorem Wd.own_some (W : Wd K H0 H σ e) {b : Addr} (o : Own σ e b) : ∃ d, OwnAt K H0 H b d := by
  obtain ⟨i, p, d, h1, h2⟩ := o
  obtain ⟨a, h3, h4⟩ := W.ow i p d h1
  rw [h2] at h3; cases h3
  exact ⟨d, h4⟩
theorem Wd.step (W : Wd K H0 H σ e) (x : Step H0 H H0' H') : Wd K H0' H' σ e where
  sub := x.sub
  len := W.len
  fz := fun i d h => let ⟨v, h1, h2⟩ := W.fz i d h; ⟨v, h1, h2.mono x.s0⟩
  ow := fun i p d h => let ⟨a, h1, h2⟩ := W.ow i p d h; ⟨a, h1, h2.step x⟩
  bw := fun i d h => let ⟨v, h1, h2⟩ := W.bw i d h; ⟨v, h1, h2.imp (fun r => r.mono x.s0) fun ⟨a, q1, q2, q3⟩ => ⟨a, q1, q2.step x, q3⟩⟩
  inj := W.inj
/-- a list or a dict that no slot owns is frozen -/
theorem Wd.frz (W : Wd K H0 H σ e) {a : Addr} {o : HO} (n : H0 a = none) (ha : H a = some o) (hl : (∃ xs, o = .lst xs) ∨ ∃ xs, o = .dK xs) (no : ¬ Own σ e a) : Wd K (upd H0 a o) H σ e where
  sub := sub_upd W.sub ha
  len := W.len
  fz := fun i d h => let ⟨v, h1, h2⟩ := W.fz i d h; ⟨v, h1, h2.mono (same_upd n)⟩
  ow := fun i p d h => by
    obtain ⟨b, h1, h2⟩ := W.ow i p d h
    have nb : b ≠ a := fun z => no ⟨i, p, d, h, by rw [← z]; exact h1⟩
    refine ⟨b, h1, h2.keep (same_upd n) fun c u hc q => ⟨q, fun m => ?_⟩⟩
    have : c ≠ a := fun y => by
      subst y
      rcases hc with hc | hc
      · exact nb hc.symm
      · rw [ha] at hc; cases hc
        rcases hl with ⟨_, q⟩ | ⟨_, q⟩ <;> cases q
    rw [upd_ne this]; exact m
  bw := fun i d h => by
    obtain ⟨v, h1, h2⟩ := W.bw i d h
    rcases h2 with h2 | ⟨b, q1, q2, q3⟩
    · exact ⟨v, h1, .inl (h2.mono (same_upd n))⟩
    · rcases Opd.upd (.inr ⟨b, q1, q2⟩) n ha hl with q | ⟨c, q, q'⟩
      · exact ⟨v, h1, .inl q⟩
      · rw [q1] at q; cases q
        exact ⟨v, h1, .inr ⟨b, q1, q', q3⟩⟩
  inj := W.inj
theorem get_set {e : En} {i j : Nat} {s s' : Sl} (h : (e.set i s)[j]? = some s') : (i = j ∧ s' = s ∧ i < e.length) ∨ (i ≠ j ∧ e[j]? = some s') := by
  by_cases z : i = j
  · subst z
    by_cases l : i < e.length
    · rw [List.getElem?_set_self l] at h; cases h; exact .inl ⟨rfl, rfl, l⟩
    · rw [List.getElem?_eq_none (by simpa using l)] at h; cases h
  · rw [List.getElem?_set_ne z] at h; exact .inr ⟨z, h⟩
/-- fewer things are owned -/
theorem Own.of_set {i : Nat} {s : Sl} (hs : ∀ p d, s ≠ .ow p d) {b : Addr} (o : Own σ (e.set i s) b) : Own σ e b ∧ (σ[i]? ≠ some (some (.ref b)) ∨ ∃ j p d, i ≠ j ∧ e[j]? = some (.ow p d) ∧ σ[j]? = some (some (.ref b))) := by
  obtain ⟨j, p, d, h1, h2⟩ := o
  rcases get_set h1 with ⟨rfl, q, _⟩ | ⟨ne, q⟩
  · exact (hs _ _ q.symm).elim
  · exact ⟨⟨j, p, d, q, h2⟩, .inr ⟨j, p, d, ne, q, h2⟩⟩
/-- a slot's content is forgotten, or taken as frozen -/
theorem Wd.set_un (W : Wd K H0 H σ e) (i : Nat) : Wd K H0 H σ (e.set i .un) where
  sub := W.sub
  len := by rw [List.length_set]; exact W.len
  fz := fun j d h => by
    rcases get_set h with ⟨_, q, _⟩ | ⟨_, q⟩
    · cases q
    · exact W.fz j d q
  ow := fun j p d h => by
    rcases get_set h with ⟨_, q, _⟩ | ⟨_, q⟩
    · cases q
    · exact W.ow j p d q
  bw := fun j d h => by
    rcases get_set h with ⟨_, q, _⟩ | ⟨_, q⟩
    · cases q
    · obtain ⟨v, h1, h2⟩ := W.bw j d q
      exact ⟨v, h1, h2.imp id fun ⟨a, q1, q2, q3⟩ => ⟨a, q1, q2, fun o => q3 (Own.of_set (fun p d z => by cases z) o).1⟩⟩
  inj := fun j k p p' d d' a h1 h2 => by
    rcases get_set h1 with ⟨_, q, _⟩ | ⟨_, q⟩
    · cases q
    · rcases get_set h2 with ⟨_, q', _⟩ | ⟨_, q'⟩
      · cases q'
      · exact W.inj j k p p' d d' a q q'
theorem Wd.set_fz (W : Wd K H0 H σ e) {i : Nat} {d : D} {v : V} (hv : σ[i]? = some (some v)) (r : Rep K H0 v d) : Wd K H0 H σ (e.set i (.fz d)) where
  sub := W.sub
  len := by rw [List.length_set]; exact W.len
  fz := fun j d h => by
    rcases get_set h with ⟨rfl, q, _⟩ | ⟨_, q⟩
    · cases q; exact ⟨v, hv, r⟩
    · exact W.fz j d q
  ow := fun j p d h => by
    rcases get_set h with ⟨_, q, _⟩ | ⟨_, q⟩
    · cases q
    · exact W.ow j p d q
  bw := fun j d h => by
    rcases get_set h with ⟨_, q, _⟩ | ⟨_, q⟩
    · cases q
    · obtain ⟨v, h1, h2⟩ := W.bw j d q
      exact ⟨v, h1, h2.imp id fun ⟨a, q1, q2, q3⟩ => ⟨a, q1, q2, fun o => q3 (Own.of_set (fun p d z => by cases z) o).1⟩⟩
  inj := fun j k p p' d d' a h1 h2 => by
    rcases get_set h1 with ⟨_, q, _⟩ | ⟨_, q⟩
    · cases q
    · rcases get_set h2 with ⟨_, q', _⟩ | ⟨_, q'⟩
      · cases q'
      · exact W.inj j k p p' d d' a q q'
/-- an owned slot is frozen -/
theorem Wd.freeze (W : Wd K H0 H σ e) {i : Nat} {d : D} (he : e[i]? = some (.ow false d)) (hd : d.frb = true) :
    ∃ H0' v, σ[i]? = some (some v) ∧ Rep K H0' v d ∧ Wd K H0' H σ (e.set i (.fz d)) ∧ After K H0 H σ e H0' H σ (e.set i (.fz d)) := by
  obtain ⟨a, h1, h2⟩ := W.ow i _ d he
  obtain ⟨o, ho, _, r, hl⟩ := h2.freeze hd
  have W1 := W.set_un i
  have no : ¬ Own σ (e.set i .un) a := fun q => by
    obtain ⟨_, q⟩ := Own.of_set (fun p d z => by cases z) q
    rcases q with q | ⟨j, p', d', ne, q1, q2⟩
    · exact q h1
    · exact ne (W.inj i j _ _ d d' a he q1 h1 q2)
  have W2 := (W1.frz h2.1 ho hl no).set_fz h1 r
  rw [List.set_set] at W2
  refine ⟨_, _, h1, r, W2, same_upd h2.1, fun b u q n => q, fun b u q m n => ?_, fun b u q => ⟨u, q⟩, fun b z => .inl (Own.of_set (fun p d z => by cases z) z).1, fun j d' q => ?_, fun j d' q => ?_⟩
  · have : b ≠ a := fun z => n ⟨i, _, d, he, by rw [z]; exact h1⟩
    rw [upd_ne this]; exact m
  · rcases get_set q with ⟨_, q, _⟩ | ⟨_, q⟩
    · cases q
    · exact ⟨rfl, _, q⟩
  · rcases get_set q with ⟨_, q, _⟩ | ⟨_, q⟩
    · cases q
    · exact ⟨rfl, q⟩
end
end VL

/-! VLb: what an expression denotes; the judgement VE; operators by data. -/
namespace VL
open PySem PySem.Spec L2

/-! ### results -/
/-- a result: frozen data; a new object that nobody else holds; what the slot i holds -/
inductive Tg where
  | fz (d : D) | nw (d : D) | sl (i : Nat)
/-- an error of an own class -/
structure Er where
  c : Str
  fs : List (Str × D)
inductive Rz (α : Type) where
  | ok (a : α) (e : En) | ex (x : Er) (e : En) | bad
def Rz.bind {α β : Type} : Rz α → (α → En → Rz β) → Rz β
  | .ok a e, k => k a e
  | .ex x e, _ => .ex x e
  | .bad, _ => .bad
@[simp] theorem Rz.bind_ok {α β : Type} (a : α) (e : En) (k : α → En → Rz β) : (Rz.ok a e).bind k = k a e := rfl
@[simp] theorem Rz.bind_ex {α β : Type} (x : Er) (e : En) (k : α → En → Rz β) : (Rz.ex x e).bind k = .ex x e := rfl
@[simp] theorem Rz.bind_bad {α β : Type} (k : α → En → Rz β) : (Rz.bad : Rz α).bind k = .bad := rfl
abbrev Fe := En → Rz Tg
abbrev Ft := En → Rz Bool
abbrev Fa := En → Rz (List Tg)

section
variable (K : PySem.W.Frag)
def RepT (H0 H Hs : Hp) (σ : L2.St) (e : En) (v : V) : Tg → Prop
  | .fz d => Rep K H0 v d
  | .nw d => ∃ a, v = .ref a ∧ Hs a = none ∧ ¬ Own σ e a ∧ OwnAt K H0 H a d ∧ ∀ (j : Nat) (b : D), e[j]? = some (Sl.bw b) → σ[j]? = some (some (V.ref a)) → Rep K H0 (.ref a) b
  | .sl i => σ[i]? = some (some v)
/-- an error that has been made: its own dict at dx -/
def ErrAt (H0 H : Hp) (dx : Addr) (x : Er) : Prop := ∃ fvs, H dx = some (.xd fvs) ∧ H0 dx = none ∧ RepF K H0 fvs x.fs
/-- what an end must give: k of a good end, W of an error -/
def Gy {α : Type} (W : WX) (σ : L2.St) (H0 H : Hp) (e : En) (r : Rz α) (k : α → En → Hp → Hp → Prop) : Prop :=
  match r with
  | .ok t e' => ∀ H0' H', Wd K H0' H' σ e' → After K H0 H σ e H0' H' σ e' → k t e' H0' H'
  | .ex x e' => ∀ dx H0' H', Wd K H0' H' σ e' → After K H0 H σ e H0' H' σ e' → ErrAt K H0' H' dx x → W (.ref (He.ga K x.c)) (some dx) σ H'
  | .bad => False
def tE (W : WX) (f : Fe) : TE := fun σ H Q => ∃ H0 e, Wd K H0 H σ e ∧ Gy K W σ H0 H e (f e) fun t e' H0' H' => ∀ v, RepT K H0' H' H σ e' v t → Q v H'
def tT (W : WX) (f : Ft) : TT := fun σ H Q => ∃ H0 e, Wd K H0 H σ e ∧ Gy K W σ H0 H e (f e) fun t e' H0' H' => Q t H'
/-- a stable tag: new objects have been frozen -/
def RepO (H0 : Hp) (σ : L2.St) (v : V) : Tg → Prop
  | .fz d => Rep K H0 v d
  | .nw _ => True
  | .sl i => σ[i]? = some (some v)
inductive RepOs (H0 : Hp) (σ : L2.St) : List V → List Tg → Prop
  | nil : RepOs H0 σ [] []
  | cons {v : V} {t : Tg} {vs : List V} {ts : List Tg} : RepO K H0 σ v t → RepOs H0 σ vs ts → RepOs H0 σ (v :: vs) (t :: ts)
def tA (W : WX) (f : Fa) : TA := fun σ H Q => ∃ H0 e, Wd K H0 H σ e ∧ Gy K W σ H0 H e (f e) fun ts e' H0' H' => ∀ vs, RepOs K H0' σ vs ts → Q vs H'
end
/-- a new object is frozen when it is used -/
def Tg.fr : Tg → Tg
  | .fz d => .fz d
  | .nw d => if d.frb = true then .fz d else .nw d
  | .sl i => .sl i
def look (e : En) : Tg → Option D
  | .fz d => some d
  | .nw _ => none
  | .sl i => match e[i]? with
    | some (.fz d) => some d
    | some (.ow _ d) => some d
    | some (.bw d) => some d
    | _ => none
def looks (e : En) : List Tg → Option (List D)
  | [] => some []
  | t :: ts => match look e t, looks e ts with
    | some d, some ds => some (d :: ds)
    | _, _ => none
inductive Opds (K : PySem.W.Frag) (H0 H : Hp) : List V → List D → Prop
  | nil : Opds K H0 H [] []
  | cons {v : V} {d : D} {vs : List V} {ds : List D} : Opd K H0 H v d → Opds K H0 H vs ds → Opds K H0 H (v :: vs) (d :: ds)

section
variable {K : PySem.W.Frag} {H0 H H0' H' H0'' H'' : Hp} {σ : L2.St} {e e' e'' : En} {W : WX} {α β : Type}
theorem RepO.mono {v : V} {t : Tg} (s : Same H0 H0') (h : RepO K H0 σ v t) : RepO K H0' σ v t := by
  cases t with
  | fz d => exact Rep.mono s h
  | nw d => trivial
  | sl i => exact h
theorem RepOs.mono (s : Same H0 H0') : ∀ {vs : List V} {ts : List Tg}, RepOs K H0 σ vs ts → RepOs K H0' σ vs ts
  | _, _, .nil => .nil
  | _, _, .cons h r => .cons (h.mono s) (RepOs.mono s r)
theorem look_ok {v : V} {t : Tg} {d : D} (w : Wd K H0 H σ e) (h : RepO K H0 σ v t) (l : look e t = some d) : Opd K H0 H v d := by
  cases t with
  | fz d' => have q : d' = d := Option.some.inj l; subst q; exact .inl h
  | nw d' => cases l
  | sl i =>
    have l' : (match e[i]? with | some (Sl.fz d) => some d | some (Sl.ow _ d) => some d | some (Sl.bw d) => some d | _ => none) = some d := l
    have hv : σ[i]? = some (some v) := h
    cases q : e[i]? with
    | none => rw [q] at l'; cases l'
    | some s =>
      rw [q] at l'
      cases s with
      | un => cases l'
      | fz d' =>
        have z : d' = d := Option.some.inj l'
        subst z
        obtain ⟨v', h1, h2⟩ := w.fz i _ q
        rw [hv] at h1; cases h1
        exact .inl h2
      | ow p' d' =>
        have z : d' = d := Option.some.inj l'
        subst z
        obtain ⟨a, h1, h2⟩ := w.ow i _ _ q
        rw [hv] at h1; cases h1
        exact .inr ⟨a, rfl, h2⟩
      | bw d' =>
        have z : d' = d := Option.some.inj l'
        subst z
        obtain ⟨v', h1, h2⟩ := w.bw i _ q
        rw [hv] at h1; cases h1
        exact h2.imp id fun ⟨a, q1, q2, _⟩ => ⟨a, q1, q2⟩
theorem looks_ok (w : Wd K H0 H σ e) : ∀ {vs : List V} {ts : List Tg} {ds : List D}, RepOs K H0 σ vs ts → looks e ts = some ds → Opds K H0 H vs ds
  | _, _, ds, .nil, l => by
    have q : [] = ds := Option.some.inj l
    subst q; exact .nil
  | _, _, ds, .cons (t := t) (ts := ts) h r, l => by
    have l' : (match look e t, looks e ts with | some d, some ds => some (d :: ds) | _, _ => none) = some ds := l
    cases q1 : look e t with
    | none => rw [q1] at l'; cases l'
    | some d =>
      cases q2 : looks e ts with
      | none => rw [q1, q2] at l'; cases l'
      | some es =>
        rw [q1, q2] at l'
        have z : d :: es = ds := Option.some.inj l'
        subst z
        exact .cons (look_ok w h q1) (looks_ok w r q2)
/-- a new object that is used is frozen -/
theorem RepT.fr {v : V} {t : Tg} {Hs H0s : Hp} {es : En} (w : Wd K H0 H σ e) (a : After K H0s Hs σ es H0 H σ e) (h : RepT K H0 H Hs σ e v t) :
    ∃ H0', Wd K H0' H σ e ∧ After K H0s Hs σ es H0' H σ e ∧ Same H0 H0' ∧ RepO K H0' σ v t.fr := by
  cases t with
  | fz d => exact ⟨H0, w, a, .refl _, h⟩
  | sl i => exact ⟨H0, w, a, .refl _, h⟩
  | nw d =>
    obtain ⟨p, rfl, hn, no, ho, _⟩ := h
    by_cases hd : d.frb = true
    · have ef : (Tg.nw d).fr = .fz d := if_pos hd
      rw [ef]
      obtain ⟨o, hp, _, r, hl⟩ := ho.freeze hd
      refine ⟨upd H0 p o, w.frz ho.1 hp hl no, ⟨a.s0.trans (same_upd ho.1), a.keep, fun b u q m n => ?_, a.thr, a.own, a.pin, a.pinb⟩, same_upd ho.1, r⟩
      have : b ≠ p := ne_of_none q hn
      rw [upd_ne this]; exact a.off b u q m n
    · have ef : (Tg.nw d).fr = .nw d := if_neg hd
      rw [ef]
      exact ⟨H0, w, a, .refl _, trivial⟩
/-- two steps in a row: what comes behind f -/
theorem tE_then {f : Fe} {g : Tg → En → Rz β} {k : β → En → Hp → Hp → Prop} {Z : VK} (w : Wd K H0 H σ e) (h : Gy K W σ H0 H e ((f e).bind g) k)
    (hz : ∀ t e1 v H01 H1, f e = .ok t e1 → Wd K H01 H1 σ e1 → After K H0 H σ e H01 H1 σ e1 → RepO K H01 σ v t.fr → Gy K W σ H01 H1 e1 (g t e1) k → Z v H1) : tE K W f σ H Z := by
  refine ⟨H0, e, w, ?_⟩
  cases q : f e with
  | ok t e1 =>
    rw [q] at h
    intro H01 H1 w1 a1 v r1
    obtain ⟨H02, w2, a2, _, r2⟩ := RepT.fr w1 a1 r1
    refine hz t e1 v H02 H1 q w2 a2 r2 ?_
    have h' : Gy K W σ H0 H e (g t e1) k := h
    cases q2 : g t e1 with
    | ok b e2 => rw [q2] at h'; exact fun H03 H3 w3 a3 => h' H03 H3 w3 (a2.trans a3)
    | ex x e2 => rw [q2] at h'; exact fun dx H03 H3 w3 a3 x3 => h' dx H03 H3 w3 (a2.trans a3) x3
    | bad => rw [q2] at h'; exact h'
  | ex x e1 => rw [q] at h; exact h
  | bad => rw [q] at h; exact h
theorem tT_then {f : Ft} {g : Bool → En → Rz β} {k : β → En → Hp → Hp → Prop} {Z : Bool → Hp → Prop} (w : Wd K H0 H σ e) (h : Gy K W σ H0 H e ((f e).bind g) k)
    (hz : ∀ t e1 H01 H1, f e = .ok t e1 → Wd K H01 H1 σ e1 → After K H0 H σ e H01 H1 σ e1 → Gy K W σ H01 H1 e1 (g t e1) k → Z t H1) : tT K W f σ H Z := by
  refine ⟨H0, e, w, ?_⟩
  cases q : f e with
  | ok t e1 =>
    rw [q] at h
    intro H01 H1 w1 a1
    refine hz t e1 H01 H1 q w1 a1 ?_
    have h' : Gy K W σ H0 H e (g t e1) k := h
    cases q2 : g t e1 with
    | ok b e2 => rw [q2] at h'; exact fun H03 H3 w3 a3 => h' H03 H3 w3 (a1.trans a3)
    | ex x e2 => rw [q2] at h'; exact fun dx H03 H3 w3 a3 x3 => h' dx H03 H3 w3 (a1.trans a3) x3
    | bad => rw [q2] at h'; exact h'
  | ex x e1 => rw [q] at h; exact h
  | bad => rw [q] at h; exact h
theorem tA_then {f : Fa} {g : List Tg → En → Rz β} {k : β → En → Hp → Hp → Prop} {Z : List V → Hp → Prop} (w : Wd K H0 H σ e) (h : Gy K W σ H0 H e ((f e).bind g) k)
    (hz : ∀ t e1 vs H01 H1, f e = .ok t e1 → Wd K H01 H1 σ e1 → After K H0 H σ e H01 H1 σ e1 → RepOs K H01 σ vs t → Gy K W σ H01 H1 e1 (g t e1) k → Z vs H1) : tA K W f σ H Z := by
  refine ⟨H0, e, w, ?_⟩
  cases q : f e with
  | ok t e1 =>
    rw [q] at h
    intro H01 H1 w1 a1 vs r1
    refine hz t e1 vs H01 H1 q w1 a1 r1 ?_
    have h' : Gy K W σ H0 H e (g t e1) k := h
    cases q2 : g t e1 with
    | ok b e2 => rw [q2] at h'; exact fun H03 H3 w3 a3 => h' H03 H3 w3 (a1.trans a3)
    | ex x e2 => rw [q2] at h'; exact fun dx H03 H3 w3 a3 x3 => h' dx H03 H3 w3 (a1.trans a3) x3
    | bad => rw [q2] at h'; exact h'
  | ex x e1 => rw [q] at h; exact h
  | bad => rw [q] at h; exact h
theorem Gy.ok_refl {a : α} {k : α → En → Hp → Hp → Prop} (w : Wd K H0 H σ e) (h : Gy K W σ H0 H e (.ok a e) k) : k a e H0 H := h H0 H w .refl
/-- the end of a rule whose last step grows the world -/
theorem Gy.ok_step {a : α} {k : α → En → Hp → Hp → Prop} (w : Wd K H0 H σ e) (x : Step H0 H H0' H') (h : Gy K W σ H0 H e (.ok a e) k) : k a e H0' H' := h H0' H' (w.step x) (.of_step x)
end

/-! ### the judgements -/
def VE (X : Cx) (W : WX) (e : Expr) (f : Fe) : Prop := PE X e (tE X.K W f)
def VT (X : Cx) (W : WX) (e : Expr) (f : Ft) : Prop := PT X e (tT X.K W f)
def VA (X : Cx) (W : WX) (es : List Expr) (f : Fa) : Prop := PA X es (tA X.K W f)
theorem pe_imp {X : Cx} {e : Expr} {t t' : TE} (h : PE X e t) (i : ∀ σ H Q, t' σ H Q → t σ H Q) : PE X e t' := ⟨fun pins s σ H Q I q => h.run pins s σ H Q I (i σ H Q q)⟩
theorem pt_imp {X : Cx} {e : Expr} {t t' : TT} (h : PT X e t) (i : ∀ σ H Q, t' σ H Q → t σ H Q) : PT X e t' := ⟨fun pins s σ H Q I q => h.run pins s σ H Q I (i σ H Q q)⟩
theorem pa_imp {X : Cx} {e : List Expr} {t t' : TA} (h : PA X e t) (i : ∀ σ H Q, t' σ H Q → t σ H Q) : PA X e t' := ⟨fun pos pins s σ H Q I q => h.run pos pins s σ H Q I (i σ H Q q)⟩

/-! ### what an operation by data gives -/
section
variable (K : PySem.W.Frag)
def RepN (H0 H Hs : Hp) (v : V) : Tg → Prop
  | .fz d => Rep K H0 v d
  | .nw d => ∃ a, v = .ref a ∧ Hs a = none ∧ OwnAt K H0 H a d
  | .sl _ => False
def Gives (H0 H : Hp) (t : Tg) (Q : VK) : Prop := ∀ v H0' H', Step H0 H H0' H' → RepN K H0' H' H v t → Q v H'
def rD1 (f : D → Option Tg) : V → Hp → VK → Prop := fun x H Q => ∃ H0 a t, Same H0 H ∧ Opd K H0 H x a ∧ f a = some t ∧ Gives K H0 H t Q
def rD2 (f : D → D → Option Tg) : R2 := fun x y H Q => ∃ H0 a b t, Same H0 H ∧ Opd K H0 H x a ∧ Opd K H0 H y b ∧ f a b = some t ∧ Gives K H0 H t Q
def rDs (f : List D → Option Tg) : List V → Hp → VK → Prop := fun xs H Q => ∃ H0 ds t, Same H0 H ∧ Opds K H0 H xs ds ∧ f ds = some t ∧ Gives K H0 H t Q
end
section
variable {K : PySem.W.Frag} {H0 H H0' H' Hs : Hp} {σ : L2.St} {e : En} {W : WX}
theorem RepN.to {v : V} {t : Tg} (w : Wd K H0 H σ e) (s : Same H0 H0') (h : RepN K H0' H' H v t) : RepT K H0' H' H σ e v t := by
  cases t with
  | fz d => exact h
  | nw d =>
    obtain ⟨a, h1, h2, h3⟩ := h
    refine ⟨a, h1, h2, fun o => ?_, h3, fun j b q1 q2 => ?_⟩
    · obtain ⟨d', q⟩ := w.own_some o
      obtain ⟨u, hu⟩ := q.some
      rw [h2] at hu; cases hu
    · obtain ⟨v', q3, q4⟩ := w.bw j b q1
      rw [q2] at q3; cases q3
      rcases q4 with q4 | ⟨c, q5, q6, _⟩
      · exact q4.mono s
      · cases q5
        obtain ⟨u, hu⟩ := q6.some
        rw [h2] at hu; cases hu
  | sl i => exact h.elim
/-- Hs: the heap at the start of the whole expression -/
theorem gives_of {t : Tg} {Q : VK} {Hs H0s : Hp} {es : En} (w : Wd K H0 H σ e) (a : After K H0s Hs σ es H0 H σ e)
    (h : Gy K W σ H0 H e (.ok t e) fun t e' H0' H' => ∀ v, RepT K H0' H' Hs σ e' v t → Q v H') : Gives K H0 H t Q := by
  intro v H0' H' x r
  refine h H0' H' (w.step x) (.of_step x) v ?_
  have r' := RepN.to w x.s0 r
  cases t with
  | fz d => exact r'
  | sl i => exact r'
  | nw d =>
    obtain ⟨p, h1, h2, h3, h4, h5⟩ := r'
    refine ⟨p, h1, ?_, h3, h4, h5⟩
    cases q : Hs p with
    | none => rfl
    | some o =>
      obtain ⟨o', q'⟩ := a.thr p o q
      rw [h2] at q'; cases q'
end
end VL

/-! VLc: the rules of expressions that do not depend on which operator it is. -/
namespace VL
open PySem PySem.Spec L2

/-! ### what things denote -/
def dName (i : Nat) : Fe := fun e => match e[i]? with
  | some (.fz d) => .ok (.fz d) e
  | some (.ow _ _) => .ok (.sl i) e
  | some (.bw _) => .ok (.sl i) e
  | _ => .bad
def dC (d : D) : Fe := fun e => .ok (.fz d) e
def fin1 (f : D → Option Tg) (t1 : Tg) (e : En) : Rz Tg := match look e t1 with
  | some a => (match f a with
    | some t => .ok t e
    | none => .bad)
  | none => .bad
def fin2 (f : D → D → Option Tg) (t1 t2 : Tg) (e : En) : Rz Tg := match look e t1 with
  | some a => (match look e t2 with
    | some b => (match f a b with
      | some t => .ok t e
      | none => .bad)
    | none => .bad)
  | none => .bad
def fins (f : List D → Option Tg) (ts : List Tg) (e : En) : Rz Tg := match looks e ts with
  | some ds => (match f ds with
    | some t => .ok t e
    | none => .bad)
  | none => .bad
def dUn (f : D → Option Tg) (fa : Fe) : Fe := fun e => (fa e).bind fun t1 e1 => fin1 f t1.fr e1
def dBin (f : D → D → Option Tg) (fa fb : Fe) : Fe := fun e => (fa e).bind fun t1 e1 => (fb e1).bind fun t2 e2 => fin2 f t1.fr t2.fr e2
def dNil : Fa := fun e => .ok [] e
def dCons (fa : Fe) (fs : Fa) : Fa := fun e => (fa e).bind fun t1 e1 => (fs e1).bind fun ts e2 => .ok (t1.fr :: ts) e2
def dApp (f : List D → Option Tg) (fs : Fa) : Fe := fun e => (fs e).bind fun ts e1 => fins f ts e1
/-- a value that is stored within another: it is frozen -/
def frzT (t : Tg) (e : En) : Rz D := match t with
  | .fz d => .ok d e
  | .nw d => if d.frb = true then .ok d e else .bad
  | .sl i => match e[i]? with
    | some (.ow false d) => if d.frb = true then .ok d (e.set i (.fz d)) else .bad
    | some (.fz d) => .ok d e
    | _ => .bad
abbrev Fv := En → Rz (List D)
def vNil : Fv := fun e => .ok [] e
def vCons (fa : Fe) (fs : Fv) : Fv := fun e => (fa e).bind fun t1 e1 => (frzT t1 e1).bind fun d e2 => (fs e2).bind fun ds e3 => .ok (d :: ds) e3
def dTup (fs : Fv) : Fe := fun e => (fs e).bind fun ds e1 => if Nat.ble ds.length 1000 = true then .ok (.fz (.tup ds)) e1 else .bad
def dLst (fs : Fv) : Fe := fun e => (fs e).bind fun ds e1 => if Nat.ble ds.length 1000 = true then .ok (.nw (.lst ds)) e1 else .bad
/-- truth -/
def truD : D → Option Bool
  | .non => some false
  | .bl b => some b
  | .int i => some (i != 0)
  | .str s => if Nat.ble s.length 100000 = true then some (s.length != 0) else none
  | .tup xs => some (!xs.isEmpty)
  | .lst xs => some (!xs.isEmpty)
  | .dct xs => some (!xs.isEmpty)
  | .ins _ _ => none
  | .scr xs => some (!xs.isEmpty)
def finT (t1 : Tg) (e : En) : Rz Bool := match look e t1 with
  | some a => (match truD a with
    | some t => .ok t e
    | none => .bad)
  | none => .bad
def dTru (fa : Fe) : Ft := fun e => (fa e).bind fun t1 e1 => finT t1.fr e1
def isB : Tg → Option Bool
  | .fz (.bl b) => some b
  | _ => none
def dTB (fa : Fe) : Ft := fun e => (fa e).bind fun t1 e1 => match isB t1 with
  | some b => .ok b e1
  | none => .bad
def dAnd (t u : Ft) : Ft := fun e => (t e).bind fun c e1 => match c with
  | true => u e1
  | false => .ok false e1
def dOr (t u : Ft) : Ft := fun e => (t e).bind fun c e1 => match c with
  | true => .ok true e1
  | false => u e1
def dNot (t : Ft) : Ft := fun e => (t e).bind fun c e1 => .ok (!c) e1
def dIf (c : Ft) (a b : Fe) : Fe := fun e => (c e).bind fun c e1 => match c with
  | true => a e1
  | false => b e1
/-- a or b, a and b as values: the left one's truth decides -/
def dOrV (fa fb : Fe) : Fe := fun e => (fa e).bind fun t1 e1 => (finT t1.fr e1).bind fun c e2 => match c with
  | true => .ok t1.fr e2
  | false => fb e2
def dAndV (fa fb : Fe) : Fe := fun e => (fa e).bind fun t1 e1 => (finT t1.fr e1).bind fun c e2 => match c with
  | true => fb e2
  | false => .ok t1.fr e2
def dNotV (fa : Fe) : Fe := fun e => (fa e).bind fun t1 e1 => (finT t1.fr e1).bind fun c e2 => .ok (.fz (.bl (!c))) e2
/-- a op1 b op2 c -/
def dChain (f g : D → D → Option Tg) (fa fb fc : Fe) : Fe := fun e => (fa e).bind fun t1 e1 => (fb e1).bind fun t2 e2 => (fin2 f t1.fr t2.fr e2).bind fun t3 e3 => match isB t3 with
  | some true => (fc e3).bind fun t4 e4 => fin2 g t2.fr t4.fr e4
  | some false => .ok (.fz (.bl false)) e3
  | none => .bad

section
variable {X : Cx} {W : WX} {a b c : Expr} {es : List Expr} {fa fb fc : Fe} {ga gb gc : Ft} {pos : Pos}
variable {K : PySem.W.Frag} {H0 H H0' H' : Hp} {σ : L2.St} {e : En}

/-! ### names and constants -/
theorem ve_name (i : Nat) {x : Str} (hN : X.N[i]? = some x := by rfl) (hv : Vis X.env.scope x := by first | exact Or.inl rfl | exact Or.inr (Or.inl rfl) | exact Or.inr (Or.inr rfl)) (hd : (x == ("__debug__" : Str)) = false := by decide)
    (hcd : (x == ("__classdict__" : Str)) = false := by decide) : VE X W (.Name x pos) (dName i) := by
  refine pe_imp (pe_var hN hv hd hcd) fun σ H Q ⟨H0, e, w, h⟩ => ?_
  unfold dName at h
  cases q : e[i]? with
  | none => rw [q] at h; exact h.elim
  | some s =>
    rw [q] at h
    cases s with
    | un => exact h.elim
    | fz d =>
      obtain ⟨v, h1, h2⟩ := w.fz i d q
      exact ⟨v, h1, h.ok_refl w v h2⟩
    | ow p d =>
      obtain ⟨v, h1, h2⟩ := w.ow i p d q
      exact ⟨_, h1, h.ok_refl w _ h1⟩
    | bw d =>
      obtain ⟨v, h1, h2⟩ := w.bw i d q
      exact ⟨_, h1, h.ok_refl w _ h1⟩
theorem ve_c {a : Expr} {v : V} {d : D} (ha : PE X a (tC v)) (r : ∀ H, Rep X.K H v d) : VE X W a (dC d) :=
  pe_imp ha fun σ H Q ⟨H0, e, w, h⟩ => h.ok_refl w v (r H0)
theorem ve_int {i : Int} {j pos} : VE X W (.Constant (.int i) j pos) (dC (.int i)) := ve_c pe_int fun _ => .int i
theorem ve_bl {i : Bool} {j pos} : VE X W (.Constant (.bool i) j pos) (dC (.bl i)) := ve_c pe_bl fun _ => .bl i
theorem ve_non {j pos} : VE X W (.Constant .none j pos) (dC .non) := ve_c pe_non fun _ => .non
theorem ve_str {i : String} {j pos} : VE X W (.Constant (.str i) j pos) (dC (.str i)) := ve_c pe_str fun _ => .str _
/-- a module's constant -/
theorem ve_glob {x : Str} {v : V} {u : Value} {d : D} (hm : X.mg x = some u) (r : RelV v u) (rd : ∀ H, Rep X.K H v d) (hg : Gl X x := by rfl) (hd : (x == ("__debug__" : Str)) = false := by decide) : VE X W (.Name x pos) (dC d) :=
  ve_c (pe_glob hg hm r hd) rd

/-! ### operators -/
theorem fin1_of {f : D → Option Tg} {t1 : Tg} {v1 : V} {Q : VK} {H0s Hs : Hp} {es : En} (w : Wd K H0 H σ e) (a : After K H0s Hs σ es H0 H σ e) (r1 : RepO K H0 σ v1 t1)
    (h : Gy K W σ H0 H e (fin1 f t1 e) fun t e' H0' H' => ∀ v, RepT K H0' H' Hs σ e' v t → Q v H') : rD1 K f v1 H Q := by
  unfold fin1 at h
  cases q1 : look e t1 with
  | none => rw [q1] at h; exact h.elim
  | some d1 =>
    rw [q1] at h
    cases q3 : f d1 with
    | none =>
      have h' : Gy K W σ H0 H e (match f d1 with | some t => Rz.ok t e | none => Rz.bad) fun t e' H0' H' => ∀ v, RepT K H0' H' Hs σ e' v t → Q v H' := h
      rw [q3] at h'; exact h'.elim
    | some t =>
      have h' : Gy K W σ H0 H e (match f d1 with | some t => Rz.ok t e | none => Rz.bad) fun t e' H0' H' => ∀ v, RepT K H0' H' Hs σ e' v t → Q v H' := h
      rw [q3] at h'
      exact ⟨H0, d1, t, w.sub, look_ok w r1 q1, q3, gives_of w a h'⟩
theorem fin2_of {f : D → D → Option Tg} {t1 t2 : Tg} {v1 v2 : V} {Q : VK} {H0s Hs : Hp} {es : En} (w : Wd K H0 H σ e) (a : After K H0s Hs σ es H0 H σ e) (r1 : RepO K H0 σ v1 t1) (r2 : RepO K H0 σ v2 t2)
    (h : Gy K W σ H0 H e (fin2 f t1 t2 e) fun t e' H0' H' => ∀ v, RepT K H0' H' Hs σ e' v t → Q v H') : rD2 K f v1 v2 H Q := by
  cases q1 : look e t1 with
  | none => simp only [fin2, q1] at h; exact h.elim
  | some d1 =>
    cases q2 : look e t2 with
    | none => simp only [fin2, q1, q2] at h; exact h.elim
    | some d2 =>
      cases q3 : f d1 d2 with
      | none => simp only [fin2, q1, q2, q3] at h; exact h.elim
      | some t =>
        simp only [fin2, q1, q2, q3] at h
        exact ⟨H0, d1, d2, t, w.sub, look_ok w r1 q1, look_ok w r2 q2, q3, gives_of w a h⟩
theorem fins_of {f : List D → Option Tg} {ts : List Tg} {vs : List V} {Q : VK} {H0s Hs : Hp} {es : En} (w : Wd K H0 H σ e) (a : After K H0s Hs σ es H0 H σ e) (r1 : RepOs K H0 σ vs ts)
    (h : Gy K W σ H0 H e (fins f ts e) fun t e' H0' H' => ∀ v, RepT K H0' H' Hs σ e' v t → Q v H') : rDs K f vs H Q := by
  cases q1 : looks e ts with
  | none => simp only [fins, q1] at h; exact h.elim
  | some d1 =>
    cases q3 : f d1 with
    | none => simp only [fins, q1, q3] at h; exact h.elim
    | some t =>
      simp only [fins, q1, q3] at h
      exact ⟨H0, d1, t, w.sub, looks_ok w r1 q1, q3, gives_of w a h⟩
theorem imp_un {f : D → Option Tg} {Q : VK} (h : tE K W (dUn f fa) σ H Q) : tUn (rD1 K f) (tE K W fa) σ H Q := by
  obtain ⟨H0, e, w, h⟩ := h
  exact tE_then w h fun t1 e1 v1 H01 H1 q1 w1 a1 r1 h1 => fin1_of w1 a1 r1 h1
theorem imp_bin {f : D → D → Option Tg} {Q : VK} (h : tE K W (dBin f fa fb) σ H Q) : tOp (rD2 K f) (tE K W fa) (tE K W fb) σ H Q := by
  obtain ⟨H0, e, w, h⟩ := h
  refine tE_then w h fun t1 e1 v1 H01 H1 q1 w1 a1 r1 h1 => ?_
  refine tE_then w1 h1 fun t2 e2 v2 H02 H2 q2 w2 a2 r2 h2 => ?_
  exact fin2_of w2 (a1.trans a2) (r1.mono a2.s0) r2 h2
theorem ve_un {op : UnaryOp} {f : D → Option Tg} (ho : UnR X (unaryOp op) (rD1 X.K f)) (ha : VE X W a fa) : VE X W (.UnaryOp op a pos) (dUn f fa) :=
  pe_imp (pe_un ho ha) fun σ H Q h => imp_un h
theorem ve_bin {op : Operator} {f : D → D → Option Tg} (ho : OpR X (binaryOp op) (rD2 X.K f)) (ha : VE X W a fa) (hb : VE X W b fb) : VE X W (.BinOp a op b pos) (dBin f fa fb) :=
  pe_imp (pe_op ho ha hb) fun σ H Q h => imp_bin h
theorem ve_cmp {op : CmpOp} {f : D → D → Option Tg} (ho : OpR X (compareOp op) (rD2 X.K f)) (ha : VE X W a fa) (hb : VE X W b fb) (hm : behindInMarks op b = false) : VE X W (.Compare a [op] [b] pos) (dBin f fa fb) :=
  pe_imp (pe_cmpR ho ha hb hm) fun σ H Q h => imp_bin h
theorem ve_ix {f : D → D → Option Tg} (ho : IxR X (rD2 X.K f)) (ha : VE X W a fa) (hb : VE X W b fb) (hs : PlainIx b := by exact fun _ _ => rfl) : VE X W (.Subscript a b pos) (dBin f fa fb) :=
  pe_imp (pe_ix ho ha hb hs) fun σ H Q h => imp_bin h
/-- a value that must be True or False, as a test -/
theorem imp_tb {Q : Bool → Hp → Prop} (h : tT K W (dTB fa) σ H Q) : tE K W fa σ H fun x H1 => ∃ k, x = .bl k ∧ Q k H1 := by
  obtain ⟨H0, e, w, h⟩ := h
  refine ⟨H0, e, w, ?_⟩
  unfold dTB at h
  cases q : fa e with
  | ok t e1 =>
    rw [q] at h
    intro H0' H' w' a' v r
    cases t with
    | fz d =>
      cases d with
      | bl b =>
        cases (show Rep K H0' v (.bl b) from r)
        exact ⟨b, rfl, h H0' H' w' a'⟩
      | _ => exact h.elim
    | nw d => exact h.elim
    | sl i => exact h.elim
  | ex x e1 => rw [q] at h; exact h
  | bad => rw [q] at h; exact h
theorem vt_cmp {op : CmpOp} {f : D → D → Option Tg} (ho : OpR X (compareOp op) (rD2 X.K f)) (ha : VE X W a fa) (hb : VE X W b fb) (hm : behindInMarks op b = false) : VT X W (.Compare a [op] [b] pos) (dTB (dBin f fa fb)) :=
  pt_imp (pt_cmpR ho ha hb hm) fun σ H Q h => imp_bin (imp_tb h)
theorem imp_chain {f g : D → D → Option Tg} {Q : VK} (h : tE K W (dChain f g fa fb fc) σ H Q) : tChain (rD2 K f) (rD2 K g) (tE K W fa) (tE K W fb) (tE K W fc) σ H Q := by
  obtain ⟨H0, e, w, h⟩ := h
  refine tE_then w h fun t1 e1 v1 H01 H1 q1 w1 a1 r1 h1 => ?_
  refine tE_then w1 h1 fun t2 e2 v2 H02 H2 q2 w2 a2 r2 h2 => ?_
  have r1' := r1.mono a2.s0
  cases p1 : look e2 t1.fr with
  | none => simp only [fin2, p1] at h2; exact h2.elim
  | some d1 =>
    cases p2 : look e2 t2.fr with
    | none => simp only [fin2, p1, p2] at h2; exact h2.elim
    | some d2 =>
      cases p3 : f d1 d2 with
      | none => simp only [fin2, p1, p2, p3] at h2; exact h2.elim
      | some t =>
        simp only [fin2, p1, p2, p3, Rz.bind_ok] at h2
        refine ⟨H02, d1, d2, t, w2.sub, look_ok w2 r1' p1, look_ok w2 r2 p2, p3, fun v H03 H3 x rn => ?_⟩
        have w3 := w2.step x
        have a3 : After K H02 H2 σ e2 H03 H3 σ e2 := .of_step x
        cases t with
        | fz d =>
          cases d with
          | bl k =>
            cases (show Rep K H03 v (.bl k) from rn)
            refine ⟨k, rfl, ?_⟩
            cases k with
            | false =>
              rw [if_neg Bool.false_ne_true]
              exact h2 H03 H3 w3 a3 _ (.bl false)
            | true =>
              rw [if_pos rfl]
              have h3 : Gy K W σ H03 H3 e2 ((fc e2).bind fun t4 e4 => fin2 g t2.fr t4.fr e4) fun t e' H0' H' => ∀ v, RepT K H0' H' H σ e' v t → Q v H' := by
                have h2' : Gy K W σ H02 H2 e2 ((fc e2).bind fun t4 e4 => fin2 g t2.fr t4.fr e4) fun t e' H0' H' => ∀ v, RepT K H0' H' H σ e' v t → Q v H' := h2
                cases z : (fc e2).bind fun t4 e4 => fin2 g t2.fr t4.fr e4 with
                | ok b e' => rw [z] at h2'; exact fun H04 H4 w4 a4 => h2' H04 H4 w4 (a3.trans a4)
                | ex y e' => rw [z] at h2'; exact fun dx H04 H4 w4 a4 => h2' dx H04 H4 w4 (a3.trans a4)
                | bad => rw [z] at h2'; exact h2'
              refine tE_then w3 h3 fun t4 e4 v4 H04 H4 q4 w4 a4 r4 h4 => ?_
              exact fin2_of w4 (((a1.trans a2).trans a3).trans a4) (r2.mono (a3.s0.trans a4.s0)) r4 h4
          | _ => exact h2.elim
        | nw d => exact h2.elim
        | sl i => exact h2.elim
theorem ve_chain {op op' : CmpOp} {f g : D → D → Option Tg} (ho : OpR X (compareOp op) (rD2 X.K f)) (ho' : OpR X (compareOp op') (rD2 X.K g)) (ha : VE X W a fa) (hb : VE X W b fb) (hc : VE X W c fc)
    (hm : lastMarks [op, op'] [b, c] = false := by with_unfolding_all rfl) : VE X W (.Compare a [op, op'] [b, c] pos) (dChain f g fa fb fc) := pe_imp (pe_chain ho ho' ha hb hc hm) fun σ H Q h => imp_chain h
theorem vt_chain {op op' : CmpOp} {f g : D → D → Option Tg} (ho : OpR X (compareOp op) (rD2 X.K f)) (ho' : OpR X (compareOp op') (rD2 X.K g)) (ha : VE X W a fa) (hb : VE X W b fb) (hc : VE X W c fc)
    (hm : lastMarks [op, op'] [b, c] = false := by with_unfolding_all rfl) : VT X W (.Compare a [op, op'] [b, c] pos) (dTB (dChain f g fa fb fc)) := pt_imp (pt_chain ho ho' ha hb hc hm) fun σ H Q h => imp_chain (imp_tb h)

/-! ### truth, and, or, not, if -/
theorem truV_of {v : V} {d : D} {k : Bool} (s : Same H0 H) (h : Opd K H0 H v d) (l : truD d = some k) : TruV K v H k := by
  have str : ∀ {s : Str}, truD (.str s) = some k → s.length ≤ sizeLine ∧ k = ((s.length : Int) != 0) := fun {s} l => by
    have l' : (if Nat.ble s.length 100000 = true then some (s.length != 0) else none) = some k := l
    by_cases z : Nat.ble s.length 100000 = true
    · rw [if_pos z] at l'
      have z' := Nat.le_of_ble_eq_true z
      refine ⟨by rw [sizeLine_eq]; omega, ?_⟩
      rw [← Option.some.inj l']
      by_cases y : s.length = 0
      · rw [y]; rfl
      · rw [bne_iff_ne.mpr y]
        exact (bne_iff_ne.mpr (by omega)).symm
    · rw [if_neg z] at l'; cases l'
  rcases h with h | ⟨a, rfl, n, h⟩
  · cases h with
    | non => exact (Option.some.inj l).symm
    | bl b => exact (Option.some.inj l).symm
    | int i => exact (Option.some.inj l).symm
    | str s => exact str l
    | tup h r =>
      refine .inr (.inl ⟨_, TupX.sq (h.mono s), ?_⟩)
      rw [← Option.some.inj l]
      cases r <;> rfl
    | lst h r =>
      refine .inl ⟨_, SqL.of (s _ _ h), ?_⟩
      rw [← Option.some.inj l]
      cases r <;> rfl
    | dct h r =>
      refine .inr (.inr ⟨_, s _ _ h, ?_⟩)
      rw [← Option.some.inj l]
      cases r <;> rfl
    | ins _ _ _ => cases l
    | @scr a ns h =>
      refine .inl ⟨_, s.seq h, ?_⟩
      rw [← Option.some.inj l]
      cases ns <;> rfl
  · cases d with
    | lst ds =>
      obtain ⟨vs, e, r⟩ := h
      refine .inl ⟨_, SqL.of e, ?_⟩
      rw [← Option.some.inj l]
      cases r <;> rfl
    | dct ds =>
      obtain ⟨vs, e, r⟩ := h
      refine .inr (.inr ⟨_, e, ?_⟩)
      rw [← Option.some.inj l]
      cases r <;> rfl
    | ins c fs => cases l
    | _ => exact h.elim
theorem finT_of {t1 : Tg} {v1 : V} {β : Type} {g : Bool → En → Rz β} {k : β → En → Hp → Hp → Prop} (w : Wd K H0 H σ e) (r1 : RepO K H0 σ v1 t1) (h : Gy K W σ H0 H e ((finT t1 e).bind g) k) :
    ∃ c, TruV K v1 H c ∧ Gy K W σ H0 H e (g c e) k := by
  cases q1 : look e t1 with
  | none => simp only [finT, q1] at h; exact h.elim
  | some d1 =>
    cases q3 : truD d1 with
    | none => simp only [finT, q1, q3] at h; exact h.elim
    | some t =>
      simp only [finT, q1, q3] at h
      exact ⟨t, truV_of w.sub (look_ok w r1 q1) q3, h⟩
theorem vt_tru (ha : VE X W a fa) (he : ∀ whole, isTrue a X.env whole = (do let v ← whole; standAt a.pos; holding [v] (truthy v)) := by intro _; rfl) : VT X W a (dTru fa) := by
  refine pt_imp (pt_truth ha he) fun σ H Q ⟨H0, e, w, h⟩ => ?_
  refine tE_then w h fun t1 e1 v1 H01 H1 q1 w1 a1 r1 h1 => ?_
  have h1' : Gy X.K W σ H01 H1 e1 ((finT t1.fr e1).bind fun c e => .ok c e) fun t e' H0' H' => Q t H' := by
    have h2 : Gy X.K W σ H01 H1 e1 (finT t1.fr e1) fun t e' H0' H' => Q t H' := h1
    cases z : finT t1.fr e1 with
    | ok c e' => rw [z] at h2; exact h2
    | ex x e' => rw [z] at h2; exact h2
    | bad => rw [z] at h2; exact h2
  obtain ⟨c, q, h2⟩ := finT_of w1 r1 h1'
  exact ⟨c, q, h2 H01 H1 w1 .refl⟩
theorem imp_and {Q : Bool → Hp → Prop} (h : tT K W (dAnd ga gb) σ H Q) : tAnd (tT K W ga) (tT K W gb) σ H Q := by
  obtain ⟨H0, e, w, h⟩ := h
  refine tT_then w h fun c e1 H01 H1 q1 w1 a1 h1 => ?_
  cases c with
  | true => rw [if_pos rfl]; exact ⟨H01, e1, w1, h1⟩
  | false => rw [if_neg Bool.false_ne_true]; exact h1.ok_refl w1
theorem imp_or {Q : Bool → Hp → Prop} (h : tT K W (dOr ga gb) σ H Q) : tOr (tT K W ga) (tT K W gb) σ H Q := by
  obtain ⟨H0, e, w, h⟩ := h
  refine tT_then w h fun c e1 H01 H1 q1 w1 a1 h1 => ?_
  cases c with
  | true => rw [if_pos rfl]; exact h1.ok_refl w1
  | false => rw [if_neg Bool.false_ne_true]; exact ⟨H01, e1, w1, h1⟩
def VW (X : Cx) (W : WX) (e : Expr) (f : Ft) : Prop := PW X e (tT X.K W f)
theorem pw_imp {X : Cx} {e : Expr} {t t' : TT} (h : PW X e t) (i : ∀ σ H Q, t' σ H Q → t σ H Q) : PW X e t' := ⟨fun wh pins s σ H Q I q => h.run wh pins s σ H Q I (i σ H Q q)⟩
theorem vw_one_and (ha : VT X W a ga) : VW X W (.BoolOp .And [a] pos) ga := pw_and1 ha
theorem vw_one_or (ha : VT X W a ga) : VW X W (.BoolOp .Or [a] pos) ga := pw_or1 ha
theorem vw_and {rest : List Expr} (ha : VT X W a ga) (hb : VW X W (.BoolOp .And (b :: rest) pos) gb) : VW X W (.BoolOp .And (a :: b :: rest) pos) (dAnd ga gb) := pw_imp (pw_and ha hb) fun σ H Q h => imp_and h
theorem vw_or {rest : List Expr} (ha : VT X W a ga) (hb : VW X W (.BoolOp .Or (b :: rest) pos) gb) : VW X W (.BoolOp .Or (a :: b :: rest) pos) (dOr ga gb) := pw_imp (pw_or ha hb) fun σ H Q h => imp_or h
theorem vt_w {e : Expr} (h : VW X W e ga) : VT X W e ga := PW.pt h
theorem vt_not (ha : VT X W a ga) : VT X W (.UnaryOp .Not a pos) (dNot ga) := by
  refine pt_imp (pt_not ha) fun σ H Q ⟨H0, e, w, h⟩ => ?_
  exact tT_then w h fun c e1 H01 H1 q1 w1 a1 h1 => h1.ok_refl w1
/-- what is left of an expression is an expression -/
theorem tE_tail {f : Fe} {Q : VK} {Hs H0s : Hp} {es : En} (w : Wd K H0 H σ e) (a : After K H0s Hs σ es H0 H σ e) (h : Gy K W σ H0 H e (f e) fun t e' H0' H' => ∀ v, RepT K H0' H' Hs σ e' v t → Q v H') : tE K W f σ H Q := by
  refine ⟨H0, e, w, ?_⟩
  cases z : f e with
  | ok t e2 =>
    rw [z] at h
    intro H0' H' w' a' v r
    refine h H0' H' w' a' v ?_
    cases t with
    | fz d => exact r
    | sl i => exact r
    | nw d =>
      obtain ⟨p, r1, r2, r3, r4, r5⟩ := r
      refine ⟨p, r1, ?_, r3, r4, r5⟩
      cases y : Hs p with
      | none => rfl
      | some o =>
        obtain ⟨o', y'⟩ := a.thr p o y
        rw [r2] at y'; cases y'
  | ex x e2 => rw [z] at h; exact h
  | bad => rw [z] at h; exact h
theorem imp_if {Q : VK} (h : tE K W (dIf ga fa fb) σ H Q) : tIf (tT K W ga) (tE K W fa) (tE K W fb) σ H Q := by
  obtain ⟨H0, e, w, h⟩ := h
  refine tT_then w h fun c e1 H01 H1 q1 w1 a1 h1 => ?_
  cases c with
  | true => rw [if_pos rfl]; exact tE_tail w1 a1 h1
  | false => rw [if_neg Bool.false_ne_true]; exact tE_tail w1 a1 h1
theorem ve_if (hc : VT X W c ga) (ha : VE X W a fa) (hb : VE X W b fb) : VE X W (.IfExp c a b pos) (dIf ga fa fb) := pe_imp (pe_ifExp hc ha hb) fun σ H Q h => imp_if h

/-! ### and, or, not as values -/
theorem RepO.toT {v : V} {t : Tg} {Hs : Hp} (h : RepO K H0 σ v t) (hn : ∀ d, t ≠ .nw d) : RepT K H0 H Hs σ e v t := by
  cases t with
  | fz d => exact h
  | sl i => exact h
  | nw d => exact (hn d rfl).elim
theorem look_nn {t : Tg} {d : D} (h : look e t = some d) : ∀ d', t ≠ .nw d' := fun d' z => by subst z; cases h
theorem finT_nn {t : Tg} {β : Type} {g : Bool → En → Rz β} {k : β → En → Hp → Hp → Prop} (h : Gy K W σ H0 H e ((finT t e).bind g) k) : ∀ d', t ≠ .nw d' := by
  cases q : look e t with
  | none => simp only [finT, q] at h; exact h.elim
  | some d => exact look_nn q
theorem ve_one {op : BoolOp} (h : VE X W a fa) : VE X W (.BoolOp op [a] pos) fa := pe_one h
theorem ve_or {rest : List Expr} (ha : VE X W a fa) (hb : VE X W (.BoolOp .Or (b :: rest) pos) fb) : VE X W (.BoolOp .Or (a :: b :: rest) pos) (dOrV fa fb) := by
  refine pe_imp (pe_orT ha hb) fun σ H Q ⟨H0, e, w, h⟩ => ?_
  refine tE_then w h fun t1 e1 v1 H01 H1 q1 w1 a1 r1 h1 => ?_
  have nn := finT_nn h1
  obtain ⟨c, q, h2⟩ := finT_of w1 r1 h1
  refine ⟨c, q, ?_⟩
  cases c with
  | true => rw [if_pos rfl]; exact h2 H01 H1 w1 .refl _ (r1.toT nn)
  | false => rw [if_neg Bool.false_ne_true]; exact tE_tail w1 a1 h2
theorem ve_and {rest : List Expr} (ha : VE X W a fa) (hb : VE X W (.BoolOp .And (b :: rest) pos) fb) : VE X W (.BoolOp .And (a :: b :: rest) pos) (dAndV fa fb) := by
  refine pe_imp (pe_andT ha hb) fun σ H Q ⟨H0, e, w, h⟩ => ?_
  refine tE_then w h fun t1 e1 v1 H01 H1 q1 w1 a1 r1 h1 => ?_
  have nn := finT_nn h1
  obtain ⟨c, q, h2⟩ := finT_of w1 r1 h1
  refine ⟨c, q, ?_⟩
  cases c with
  | true => rw [if_pos rfl]; exact tE_tail w1 a1 h2
  | false => rw [if_neg Bool.false_ne_true]; exact h2 H01 H1 w1 .refl _ (r1.toT nn)
theorem ve_not (ha : VE X W a fa) : VE X W (.UnaryOp .Not a pos) (dNotV fa) := by
  refine pe_imp (pe_notT ha) fun σ H Q ⟨H0, e, w, h⟩ => ?_
  refine tE_then w h fun t1 e1 v1 H01 H1 q1 w1 a1 r1 h1 => ?_
  obtain ⟨c, q, h2⟩ := finT_of w1 r1 h1
  exact ⟨c, q, h2 H01 H1 w1 .refl _ (.bl _)⟩

/-! ### arguments -/
theorem va_nil : VA X W [] dNil := pa_imp pa_nil fun σ H Q ⟨H0, e, w, h⟩ => h H0 H w .refl _ .nil
theorem va_cons {fs : Fa} (ha : VE X W a fa) (hr : VA X W es fs) (hs : starEach (a :: es) X.env = (false, eval a X.env) :: starEach es X.env := by rfl) : VA X W (a :: es) (dCons fa fs) := by
  refine pa_imp (pa_cons ha hr hs) fun σ H Q ⟨H0, e, w, h⟩ => ?_
  refine tE_then w h fun t1 e1 v1 H01 H1 q1 w1 a1 r1 h1 => ?_
  exact tA_then w1 h1 fun ts e2 vs H02 H2 q2 w2 a2 r2 h2 => h2 H02 H2 w2 .refl _ (.cons (r1.mono a2.s0) r2)
theorem imp_app {fs : Fa} {f : List D → Option Tg} {Q : VK} (h : tE K W (dApp f fs) σ H Q) : tCB (rDs K f) (tA K W fs) σ H Q := by
  obtain ⟨H0, e, w, h⟩ := h
  exact tA_then w h fun ts e1 vs H01 H1 q1 w1 a1 r1 h1 => fins_of w1 a1 r1 h1
section
variable {x : Str} {id T : String} {p : Pos} {fs : Fa} {f : List D → Option Tg}
theorem ve_callB (hc : CallR X (.builtin id) (rDs X.K f)) (hm : X.mg x = none) (hv : bootBuiltins x = some (.builtin id)) (ha : VA X W (a :: es) fs) (hg : Gl X x := by rfl) (hn : x ≠ "__name__" := by decide) (hdb : (x == ("__debug__" : Str)) = false := by decide)
    (he : starEach (a :: es) X.env = (false, eval a X.env) :: starEach es X.env := by rfl) (hpl : (backTo pos (starEach es X.env)).any (·.1) = false := by rfl) : VE X W (.Call (.Name x p) (a :: es) [] pos) (dApp f fs) :=
  pe_imp (pe_callB hc hg hm hv ha hn hdb he hpl) fun σ H Q h => imp_app h
theorem ve_callTy (hc : CallR X (.type T) (rDs X.K f)) (hm : X.mg x = none) (hv : bootBuiltins x = some (.type T)) (ha : VA X W (a :: es) fs) (hg : Gl X x := by rfl) (hn : x ≠ "__name__" := by decide) (hdb : (x == ("__debug__" : Str)) = false := by decide)
    (he : starEach (a :: es) X.env = (false, eval a X.env) :: starEach es X.env := by rfl) (hpl : (backTo pos (starEach es X.env)).any (·.1) = false := by rfl) : VE X W (.Call (.Name x p) (a :: es) [] pos) (dApp f fs) :=
  pe_imp (pe_callTy hc hg hm hv ha hn hdb he hpl) fun σ H Q h => imp_app h
end
end
end VL

/-! VLd: displays; operators by data. -/
namespace VL
open PySem PySem.Spec L2

/-! ### operands by their form -/
section
variable {K : PySem.W.Frag} {H0 H : Hp} {v : V}
theorem Opd.int {i : Int} (h : Opd K H0 H v (.int i)) : v = .int i := by
  rcases h with h | ⟨a, _, _, h⟩
  · cases h; rfl
  · exact h.elim
theorem Opd.bl {i : Bool} (h : Opd K H0 H v (.bl i)) : v = .bl i := by
  rcases h with h | ⟨a, _, _, h⟩
  · cases h; rfl
  · exact h.elim
theorem Opd.str {i : Str} (h : Opd K H0 H v (.str i)) : v = .str i := by
  rcases h with h | ⟨a, _, _, h⟩
  · cases h; rfl
  · exact h.elim
theorem Opd.non (h : Opd K H0 H v .non) : v = .non := by
  rcases h with h | ⟨a, _, _, h⟩
  · cases h; rfl
  · exact h.elim
theorem Opd.tup {ds : List D} (s : Same H0 H) (h : Opd K H0 H v (.tup ds)) : ∃ a vs, v = .ref a ∧ TupX K H a vs ∧ TupX K H0 a vs ∧ Reps K H0 vs ds := by
  rcases h with h | ⟨a, _, _, h⟩
  · cases h with
    | tup h r => exact ⟨_, _, rfl, h.mono s, h, r⟩
  · exact h.elim
theorem Opd.lst {ds : List D} (s : Same H0 H) (h : Opd K H0 H v (.lst ds)) : ∃ a vs, v = .ref a ∧ H a = some (.lst vs) ∧ Reps K H0 vs ds := by
  rcases h with h | ⟨a, rfl, _, vs, h, r⟩
  · cases h with
    | lst h r => exact ⟨_, _, rfl, s _ _ h, r⟩
  · exact ⟨a, vs, rfl, h, r⟩
theorem Opd.dct {ds : List (D × D)} (s : Same H0 H) (h : Opd K H0 H v (.dct ds)) : ∃ a vs, v = .ref a ∧ H a = some (.dK vs) ∧ RepK K H0 vs ds := by
  rcases h with h | ⟨a, rfl, _, vs, h, r⟩
  · cases h with
    | dct h r => exact ⟨_, _, rfl, s _ _ h, r⟩
  · exact ⟨a, vs, rfl, h, r⟩
theorem Opd.scr {ns : List Int} (s : Same H0 H) (h : Opd K H0 H v (.scr ns)) : ∃ a, v = .ref a ∧ SqL K H a (ns.map V.int) := by
  rcases h with h | ⟨a, _, _, h⟩
  · cases h with
    | scr h => exact ⟨_, rfl, s.seq h⟩
  · exact h.elim
theorem Opds.one {vs : List V} {d : D} (h : Opds K H0 H vs [d]) : ∃ v, vs = [v] ∧ Opd K H0 H v d := by
  cases h with
  | cons h r => cases r; exact ⟨_, rfl, h⟩
theorem Opds.two {vs : List V} {d e : D} (h : Opds K H0 H vs [d, e]) : ∃ v w, vs = [v, w] ∧ Opd K H0 H v d ∧ Opd K H0 H w e := by
  cases h with
  | cons h r =>
    obtain ⟨w, rfl, h2⟩ := r.one
    exact ⟨_, w, rfl, h, h2⟩
theorem gives_fz {d : D} {Q : VK} {v : V} (s : Same H0 H) (h : Gives K H0 H (.fz d) Q) (r : Rep K H0 v d) : Q v H := h v H0 H (.refl s) r
theorem gives_lst {ds : List D} {vs : List V} {Q : VK} {p : Addr} (s : Same H0 H) (h : Gives K H0 H (.nw (.lst ds)) Q) (n : H p = none) (r : Reps K H0 vs ds) : Q (.ref p) (upd H p (.lst vs)) :=
  h _ H0 _ (.new s n) ⟨p, rfl, n, s.free n, vs, upd_same, r⟩
theorem gives_dct {ds : List (D × D)} {vs : List (Key × V)} {Q : VK} {p : Addr} (s : Same H0 H) (h : Gives K H0 H (.nw (.dct ds)) Q) (n : H p = none) (r : RepK K H0 vs ds) : Q (.ref p) (upd H p (.dK vs)) :=
  h _ H0 _ (.new s n) ⟨p, rfl, n, s.free n, vs, upd_same, r⟩
theorem gives_tup {ds : List D} {vs : List V} {Q : VK} {p : Addr} {o : Obj} (s : Same H0 H) (h : Gives K H0 H (.fz (.tup ds)) Q) (n : H p = none) (hd : o.dict = none) (r : Reps K H0 vs ds) : Q (.ref p) (upd H p (.frz o (.tup vs))) :=
  h _ _ _ (.frozen s n) (.tup (.inl ⟨o, upd_same, hd⟩) (r.mono (same_upd (s.free n))))
end

/-! ### new tuples -/
section
variable {X : Cx} {pins : List (Addr × Obj)} {σ : L2.St} {H : Hp} {s : Shared} {vs : List V} {us : List Value}
theorem newT (I : Inv X pins σ H s) (r : Vals vs us) (z : vs.length ≤ sizeLine) {Q : VK} (q : ∀ p o, H p = none → o.dict = none → Q (.ref p) (upd H p (.frz o (.tup vs)))) :
    EP X pins σ Q (.ref s.heap.objs.size) { s with heap := s.heap.push { cls := .type "tuple", data := .seq us.toArray } } := by
  refine ⟨.ref s.heap.objs.size, upd H s.heap.objs.size (.frz { cls := .type "tuple", data := .seq us.toArray } (.tup vs)), I.laid (t' := s.toks) (fun b u e => Heap.get?_push_of_some _ e) (Nat.le_refl _) ?_, rfl, q _ _ (I.hok.fresh (Nat.le_refl _)) rfl⟩
  exact ⟨Heap.get?_push_size _ rfl, z, us, r, ⟨_, Heap.get?_push_size _ rfl, rfl, _, rfl⟩⟩
end
/-- a tuple, with its object -/
def tTupZ (t : TA) : TE := fun σ H Q => t σ H fun xs H1 => xs.length ≤ sizeLine ∧ ∀ p (o : Obj), H1 p = none → o.dict = none → Q (.ref p) (upd H1 p (.frz o (.tup xs)))
section
variable {X : Cx} {W : WX} {a b c : Expr} {es : List Expr} {fa fb fc : Fe} {pos : Pos} {t : TA}
variable {K : PySem.W.Frag} {H0 H H0' H' : Hp} {σ : L2.St} {e : En}
theorem pe_tupZ {x1} (h : PA X es t) : PE X (.Tuple es x1 pos) (tTupZ t) := by
  refine ⟨fun pins s σ H Q I hq => ?_⟩
  refine wpAny_Tuple_spliced (thn (h.run pos pins s σ H _ I hq) fun us s1 ⟨xs, H1, I1, r, z, q⟩ => ⟨by rw [← r.length]; exact z, newT I1 r z q⟩)
/-- values for a display -/
def tV (K : PySem.W.Frag) (W : WX) (f : Fv) : TA := fun σ H Q => ∃ H0 e, Wd K H0 H σ e ∧ Gy K W σ H0 H e (f e) fun ds e' H0' H' => ∀ vs, Reps K H0' vs ds → Q vs H'
def VV (X : Cx) (W : WX) (es : List Expr) (f : Fv) : Prop := PA X es (tV X.K W f)
theorem vv_nil : VV X W [] vNil := pa_imp pa_nil fun σ H Q ⟨H0, e, w, h⟩ => h H0 H w .refl _ .nil
theorem frzT_of {v : V} {t : Tg} {Hs H0s : Hp} {es : En} {β : Type} {g : D → En → Rz β} {k : β → En → Hp → Hp → Prop} (w : Wd K H0 H σ e) (a : After K H0s Hs σ es H0 H σ e) (r : RepT K H0 H Hs σ e v t)
    (h : Gy K W σ H0s Hs es ((frzT t e).bind g) k) : ∃ d e1 H01, Wd K H01 H σ e1 ∧ After K H0s Hs σ es H01 H σ e1 ∧ Rep K H01 v d ∧ Gy K W σ H0s Hs es (g d e1) k := by
  cases t with
  | fz d => exact ⟨d, e, H0, w, a, r, h⟩
  | nw d =>
    by_cases hd : d.frb = true
    · have q : frzT (.nw d) e = .ok d e := if_pos hd
      rw [q] at h
      obtain ⟨H01, w1, a1, _, r1⟩ := RepT.fr w a r
      have ef : (Tg.nw d).fr = .fz d := if_pos hd
      rw [ef] at r1
      exact ⟨d, e, H01, w1, a1, r1, h⟩
    · have q : frzT (.nw d) e = .bad := if_neg hd
      rw [q] at h; exact h.elim
  | sl i =>
    have r' : σ[i]? = some (some v) := r
    cases q : e[i]? with
    | none => simp only [frzT, q] at h; exact h.elim
    | some s =>
      cases s with
      | un => simp only [frzT, q] at h; exact h.elim
      | bw d => simp only [frzT, q] at h; exact h.elim
      | fz d =>
        simp only [frzT, q] at h
        obtain ⟨v', h1, h2⟩ := w.fz i d q
        rw [r'] at h1; cases h1
        exact ⟨d, e, H0, w, a, h2, h⟩
      | ow p d =>
        cases p with
        | true => simp only [frzT, q] at h; exact h.elim
        | false =>
        by_cases hd : d.frb = true
        · have q2 : frzT (.sl i) e = .ok d (e.set i (.fz d)) := by simp only [frzT, q, if_pos hd]
          rw [q2] at h
          obtain ⟨H01, v', h1, h2, w1, a1⟩ := w.freeze q hd
          rw [r'] at h1; cases h1
          exact ⟨d, _, H01, w1, a.trans a1, h2, h⟩
        · have q2 : frzT (.sl i) e = .bad := by simp only [frzT, q, if_neg hd]
          rw [q2] at h; exact h.elim
theorem tE_frz {f : Fe} {β : Type} {g : D → En → Rz β} {k : β → En → Hp → Hp → Prop} {Z : VK} (w : Wd K H0 H σ e) (h : Gy K W σ H0 H e ((f e).bind fun t1 e1 => (frzT t1 e1).bind g) k)
    (hz : ∀ d e1 v H01 H1, Wd K H01 H1 σ e1 → After K H0 H σ e H01 H1 σ e1 → Rep K H01 v d → Gy K W σ H01 H1 e1 (g d e1) k → Z v H1) : tE K W f σ H Z := by
  refine ⟨H0, e, w, ?_⟩
  cases q : f e with
  | ok t e1 =>
    rw [q] at h
    intro H01 H1 w1 a1 v r1
    obtain ⟨d, e2, H02, w2, a2, r2, h2⟩ := frzT_of w1 a1 r1 h
    refine hz d e2 v H02 H1 w2 a2 r2 ?_
    cases q2 : g d e2 with
    | ok b e2 => rw [q2] at h2; exact fun H03 H3 w3 a3 => h2 H03 H3 w3 (a2.trans a3)
    | ex x e2 => rw [q2] at h2; exact fun dx H03 H3 w3 a3 x3 => h2 dx H03 H3 w3 (a2.trans a3) x3
    | bad => rw [q2] at h2; exact h2
  | ex x e1 => rw [q] at h; exact h
  | bad => rw [q] at h; exact h
theorem tV_then {f : Fv} {β : Type} {g : List D → En → Rz β} {k : β → En → Hp → Hp → Prop} {Z : List V → Hp → Prop} (w : Wd K H0 H σ e) (h : Gy K W σ H0 H e ((f e).bind g) k)
    (hz : ∀ ds e1 vs H01 H1, f e = .ok ds e1 → Wd K H01 H1 σ e1 → After K H0 H σ e H01 H1 σ e1 → Reps K H01 vs ds → Gy K W σ H01 H1 e1 (g ds e1) k → Z vs H1) : tV K W f σ H Z := by
  refine ⟨H0, e, w, ?_⟩
  cases q : f e with
  | ok t e1 =>
    rw [q] at h
    intro H01 H1 w1 a1 vs r1
    refine hz t e1 vs H01 H1 q w1 a1 r1 ?_
    have h' : Gy K W σ H0 H e (g t e1) k := h
    cases q2 : g t e1 with
    | ok b e2 => rw [q2] at h'; exact fun H03 H3 w3 a3 => h' H03 H3 w3 (a1.trans a3)
    | ex x e2 => rw [q2] at h'; exact fun dx H03 H3 w3 a3 x3 => h' dx H03 H3 w3 (a1.trans a3) x3
    | bad => rw [q2] at h'; exact h'
  | ex x e1 => rw [q] at h; exact h
  | bad => rw [q] at h; exact h
theorem vv_cons {fs : Fv} (ha : VE X W a fa) (hr : VV X W es fs) (hs : starEach (a :: es) X.env = (false, eval a X.env) :: starEach es X.env := by rfl) : VV X W (a :: es) (vCons fa fs) := by
  refine pa_imp (pa_cons ha hr hs) fun σ H Q ⟨H0, e, w, h⟩ => ?_
  refine tE_frz w h fun d e1 v H01 H1 w1 a1 r1 h1 => ?_
  exact tV_then w1 h1 fun ds e2 vs H02 H2 q2 w2 a2 r2 h2 => h2 H02 H2 w2 .refl _ (.cons (r1.mono a2.s0) r2)
theorem ble1000 {n : Nat} (h : Nat.ble n 1000 = true) : n ≤ sizeLine := Nat.le_trans (Nat.le_of_ble_eq_true h) (by rw [sizeLine_eq]; omega)
theorem ble100000 {n : Nat} (h : Nat.ble n 100000 = true) : n ≤ sizeLine := Nat.le_trans (Nat.le_of_ble_eq_true h) (by rw [sizeLine_eq]; omega)
theorem ve_tup {fs : Fv} {x1} (h : VV X W es fs) : VE X W (.Tuple es x1 pos) (dTup fs) := by
  refine pe_imp (pe_tupZ h) fun σ H Q ⟨H0, e, w, h⟩ => ?_
  refine tV_then w h fun ds e1 vs H01 H1 q1 w1 a1 r1 h1 => ?_
  by_cases z : Nat.ble ds.length 1000 = true
  · rw [if_pos z] at h1
    refine ⟨by rw [r1.length]; exact ble1000 z, fun p o n hd => ?_⟩
    exact gives_tup w1.sub (gives_of w1 a1 h1) n hd r1
  · rw [if_neg z] at h1; exact h1.elim
theorem ve_lst {fs : Fv} (h : VV X W es fs) : VE X W (.List es pos) (dLst fs) := by
  refine pe_imp (pe_lst h) fun σ H Q ⟨H0, e, w, h⟩ => ?_
  refine tV_then w h fun ds e1 vs H01 H1 q1 w1 a1 r1 h1 => ?_
  by_cases z : Nat.ble ds.length 1000 = true
  · rw [if_pos z] at h1
    refine ⟨by rw [r1.length]; exact ble1000 z, fun p n => ?_⟩
    exact gives_lst w1.sub (gives_of w1 a1 h1) n r1
  · rw [if_neg z] at h1; exact h1.elim
end
end VL

/-! VLe: operators, comparisons, subscripts, slices by data. -/
namespace VL
open PySem PySem.Spec L2

/-! ### data as PyData -/
mutual
def D.py : D → PyData
  | .non => .none
  | .bl b => .bool b
  | .int i => .int i
  | .str s => .str s
  | .tup xs => .tuple (D.pys xs)
  | .lst xs => .list (D.pys xs)
  | .dct _ => .dict []
  | .ins _ _ => .dict []
  | .scr _ => .dict []
def D.pys : List D → List PyData
  | [] => []
  | x :: xs => D.py x :: D.pys xs
end
def okD (d : D) : Bool := d.py.plain && Nat.ble d.py.depth 60
theorem okD_plain {d : D} (h : okD d = true) : d.py.plain = true := (Bool.and_eq_true_iff.mp h).1
theorem okD_room {d : D} (h : okD d = true) {A : Around} {n : Nat} (hu : A.units + 70 < cLine) : A.units + 1 + min n d.py.depth < cLine := by
  have := Nat.le_of_ble_eq_true (Bool.and_eq_true_iff.mp h).2
  omega
theorem okD_room0 {d : D} (h : okD d = true) {A : Around} {n : Nat} (hu : A.units + 70 < cLine) : A.units + min n d.py.depth < cLine := by
  have := okD_room (n := n) h hu
  omega
section
variable {K : PySem.W.Frag} {H0 H : Hp}
mutual
theorem Rep.dp : ∀ {v : V} {d : D}, Rep K H v d → d.py.plain = true → Dp K H v d.py
  | _, _, .non, _ => by rw [D.py]; exact .non
  | _, _, .bl b, _ => by rw [D.py]; exact .bl b
  | _, _, .int b, _ => by rw [D.py]; exact .int b
  | _, _, .str b, _ => by rw [D.py]; exact .str b
  | _, _, .tup h r, c => by
    rw [D.py] at c ⊢
    exact .tup h.sq (Reps.dp r (by simpa [PyData.plain] using c))
  | _, _, .lst h r, c => by
    rw [D.py] at c ⊢
    exact .lst (SqL.of h) (Reps.dp r (by simpa [PyData.plain] using c))
  | _, _, .dct _ _, c => by rw [D.py] at c; simp [PyData.plain] at c
  | _, _, .ins _ _ _, c => by rw [D.py] at c; simp [PyData.plain] at c
  | _, _, .scr _, c => by rw [D.py] at c; simp [PyData.plain] at c
theorem Reps.dp : ∀ {vs : List V} {ds : List D}, Reps K H vs ds → PyData.plainAll (D.pys ds) = true → DpAll K H vs (D.pys ds)
  | _, _, .nil, _ => by rw [D.pys]; exact .nil
  | _, _, .cons h r, c => by
    rw [D.pys] at c ⊢
    have c' := c
    simp only [PyData.plainAll, Bool.and_eq_true] at c'
    exact .cons (Rep.dp h c'.1) (Reps.dp r c'.2)
end
theorem Opd.dp {v : V} {d : D} (s : Same H0 H) (h : Opd K H0 H v d) (o : okD d = true) : Dp K H v d.py := by
  have c := okD_plain o
  rcases h with h | ⟨a, rfl, _, h⟩
  · exact (h.mono s).dp c
  · cases d with
    | lst ds =>
      obtain ⟨vs, e, r⟩ := h
      exact Rep.dp (.lst e (r.mono s)) c
    | dct ds => rw [D.py] at c; simp [PyData.plain] at c
    | ins c' fs => rw [D.py] at c; simp [PyData.plain] at c
    | _ => exact h.elim
end

/-! ### arithmetic -/
def addD : D → D → Option Tg
  | .int i, .int j => some (.fz (.int (i + j)))
  | .str s, .str t => if Nat.ble (s.length + t.length) 100000 = true then some (.fz (.str (s ++ t))) else none
  | .tup xs, .tup ys => if Nat.ble (xs.length + ys.length) 100000 = true then some (.fz (.tup (xs ++ ys))) else none
  | .lst xs, .lst ys => if Nat.ble (xs.length + ys.length) 100000 = true then some (.nw (.lst (xs ++ ys))) else none
  | _, _ => none
def subD : D → D → Option Tg
  | .int i, .int j => some (.fz (.int (i - j)))
  | _, _ => none
def smallI (i : Int) : Bool := decide (-18446744073709551616 < i) && decide (i < 18446744073709551616)
def mulD : D → D → Option Tg
  | .int i, .int j => if (smallI i || smallI j) = true then some (.fz (.int (i * j))) else none
  | _, _ => none
def fdivD : D → D → Option Tg
  | .int i, .int j => if (decide (0 < j) && decide (j < 1073741824)) = true then some (.fz (.int (i / j))) else none
  | _, _ => none
def modD : D → D → Option Tg
  | .int i, .int j => if decide (0 < j) = true then some (.fz (.int (i % j))) else none
  | _, _ => none
def powD : D → D → Option Tg
  | .int i, .int j => if (decide (0 ≤ j) && decide (j ≤ 1000) && smallI i) = true then some (.fz (.int (i ^ j.toNat))) else none
  | _, _ => none
def negD : D → Option Tg
  | .int i => some (.fz (.int (-i)))
  | _ => none
section
variable {X : Cx} {K : PySem.W.Frag} {H0 H : Hp}
theorem op_addD : OpR X (binaryOp .Add) (rD2 X.K addD) := by
  intro pins s σ H x y v u Q I rx ry ⟨H0, a, b, t, sm, ha, hb, e, g⟩
  cases a <;> cases b <;> first | (cases e; done) | skip
  case int.int i j =>
    have e : some (Tg.fz (.int (i + j))) = some t := e
    cases e
    exact op_add pins s σ H x y v u Q I rx ry ⟨i, j, ha.int, hb.int, gives_fz sm g (.int _)⟩
  case str.str i j =>
    have e : (if Nat.ble (i.length + j.length) 100000 = true then some (Tg.fz (.str (i ++ j))) else none) = some t := e
    by_cases z : Nat.ble (i.length + j.length) 100000 = true
    · rw [if_pos z] at e
      cases e
      exact op_add_str pins s σ H x y v u Q I rx ry ⟨i, j, ha.str, hb.str, ble100000 z, gives_fz sm g (.str _)⟩
    · rw [if_neg z] at e; cases e
  case tup.tup xs ys =>
    have e : (if Nat.ble (xs.length + ys.length) 100000 = true then some (Tg.fz (.tup (xs ++ ys))) else none) = some t := e
    by_cases z : Nat.ble (xs.length + ys.length) 100000 = true
    · rw [if_pos z] at e
      cases e
      obtain ⟨p, vs, ev, h1, h1', r1⟩ := ha.tup sm
      obtain ⟨q, ws, eu, h2, h2', r2⟩ := hb.tup sm
      have hz : vs.length + ws.length ≤ sizeLine := by rw [r1.length, r2.length]; exact ble100000 z
      subst ev eu
      by_cases n1 : vs = []
      · subst n1
        have e1 : xs = [] := by cases r1; rfl
        subst e1
        exact op_catA pins s σ H _ _ v u Q I rx ry ⟨p, q, [], ws, rfl, rfl, h1.sq, h2.sq, hz, fun _ => gives_fz sm g (.tup h2' (by simpa using r2)), fun n => (n rfl).elim, fun n => (n rfl).elim⟩
      · by_cases n2 : ws = []
        · subst n2
          have e2 : ys = [] := by cases r2; rfl
          subst e2
          exact op_catA pins s σ H _ _ v u Q I rx ry ⟨p, q, vs, [], rfl, rfl, h1.sq, h2.sq, hz, fun n => (n1 n).elim, fun _ _ => gives_fz sm g (.tup h1' (by simpa using r1)), fun _ n => (n rfl).elim⟩
        · cases rx
          cases ry
          obtain ⟨its, q1, p1, _⟩ := I.tuple h1.sq
          obtain ⟨its2, q2, p2, _⟩ := I.tuple h2.sq
          refine HT.cat_tup p1 p2 (fun z => n1 (q1.nil_iff.mp z)) (fun z => (n2 (q2.nil_iff.mp z)).elim) (fun _ => ?_) (by rw [← q1.length, ← q2.length]; exact hz)
          exact newT I (q1.append q2) (by rw [List.length_append]; exact hz) fun p o n hd => gives_tup sm g n hd (r1.append r2)
    · rw [if_neg z] at e; cases e
  case lst.lst xs ys =>
    have e : (if Nat.ble (xs.length + ys.length) 100000 = true then some (Tg.nw (.lst (xs ++ ys))) else none) = some t := e
    by_cases z : Nat.ble (xs.length + ys.length) 100000 = true
    · rw [if_pos z] at e
      cases e
      obtain ⟨p, vs, ev, h1, r1⟩ := ha.lst sm
      obtain ⟨q, ws, eu, h2, r2⟩ := hb.lst sm
      exact op_cat pins s σ H x y v u Q I rx ry ⟨p, q, vs, ws, ev, eu, h1, h2, by rw [r1.length, r2.length]; exact ble100000 z, fun p n => gives_lst sm g n (r1.append r2)⟩
    · rw [if_neg z] at e; cases e
theorem op_subD : OpR X (binaryOp .Sub) (rD2 X.K subD) := by
  intro pins s σ H x y v u Q I rx ry ⟨H0, a, b, t, sm, ha, hb, e, g⟩
  cases a <;> cases b <;> first | (cases e; done) | skip
  rename_i i j
  have e : some (Tg.fz (.int (i - j))) = some t := e
  cases e
  exact op_sub pins s σ H x y v u Q I rx ry ⟨i, j, ha.int, hb.int, gives_fz sm g (.int _)⟩
theorem smallI_ok {i : Int} (h : smallI i = true) : -(2 ^ 64) < i ∧ i < 2 ^ 64 := by
  unfold smallI at h
  simp only [Bool.and_eq_true, decide_eq_true_eq] at h
  omega
theorem op_mulD : OpR X (binaryOp .Mult) (rD2 X.K mulD) := by
  intro pins s σ H x y v u Q I rx ry ⟨H0, a, b, t, sm, ha, hb, e, g⟩
  cases a <;> cases b <;> first | (cases e; done) | skip
  rename_i i j
  have e : (if (smallI i || smallI j) = true then some (Tg.fz (.int (i * j))) else none) = some t := e
  by_cases z : (smallI i || smallI j) = true
  · rw [if_pos z] at e
    cases e
    refine op_mul pins s σ H x y v u Q I rx ry ⟨i, j, ha.int, hb.int, ?_, gives_fz sm g (.int _)⟩
    rcases Bool.or_eq_true_iff.mp z with z | z
    · exact .inl (smallI_ok z)
    · exact .inr (smallI_ok z)
  · rw [if_neg z] at e; cases e
theorem op_fdivD : OpR X (binaryOp .FloorDiv) (rD2 X.K fdivD) := by
  intro pins s σ H x y v u Q I rx ry ⟨H0, a, b, t, sm, ha, hb, e, g⟩
  cases a <;> cases b <;> first | (cases e; done) | skip
  rename_i i j
  have e : (if (decide (0 < j) && decide (j < 1073741824)) = true then some (Tg.fz (.int (i / j))) else none) = some t := e
  by_cases z : (decide (0 < j) && decide (j < 1073741824)) = true
  · rw [if_pos z] at e
    cases e
    simp only [Bool.and_eq_true, decide_eq_true_eq] at z
    refine op_fdivN pins s σ H x y v u Q I rx ry ⟨i, j, ha.int, hb.int, ⟨by omega, by omega⟩, ?_⟩
    show Q (.int (i.fdiv j)) H
    have : i.fdiv j = i / j := Int.fdiv_eq_ediv_of_nonneg _ (by omega)
    rw [this]
    exact gives_fz sm g (.int _)
  · rw [if_neg z] at e; cases e
theorem op_modD : OpR X (binaryOp .Mod) (rD2 X.K modD) := by
  intro pins s σ H x y v u Q I rx ry ⟨H0, a, b, t, sm, ha, hb, e, g⟩
  cases a <;> cases b <;> first | (cases e; done) | skip
  rename_i i j
  have e : (if decide (0 < j) = true then some (Tg.fz (.int (i % j))) else none) = some t := e
  by_cases z : decide (0 < j) = true
  · rw [if_pos z] at e
    cases e
    exact op_mod pins s σ H x y v u Q I rx ry ⟨i, j, ha.int, hb.int, of_decide_eq_true z, gives_fz sm g (.int _)⟩
  · rw [if_neg z] at e; cases e
theorem op_powD : OpR X (binaryOp .Pow) (rD2 X.K powD) := by
  intro pins s σ H x y v u Q I rx ry ⟨H0, a, b, t, sm, ha, hb, e, g⟩
  cases a <;> cases b <;> first | (cases e; done) | skip
  rename_i i j
  have e : (if (decide (0 ≤ j) && decide (j ≤ 1000) && smallI i) = true then some (Tg.fz (.int (i ^ j.toNat))) else none) = some t := e
  by_cases z : (decide (0 ≤ j) && decide (j ≤ 1000) && smallI i) = true
  · rw [if_pos z] at e
    cases e
    rw [Bool.and_eq_true, Bool.and_eq_true] at z
    have z2 := smallI_ok z.2
    exact op_pow pins s σ H x y v u Q I rx ry ⟨i, j, ha.int, hb.int, ⟨of_decide_eq_true z.1.1, by have := of_decide_eq_true z.1.2; omega, by omega⟩, gives_fz sm g (.int _)⟩
  · rw [if_neg z] at e; cases e
theorem un_negD : UnR X (unaryOp .USub) (rD1 X.K negD) := by
  intro pins s σ H x v Q I rx ⟨H0, a, t, sm, ha, e, g⟩
  cases a <;> first | (cases e; done) | skip
  rename_i i
  have e : some (Tg.fz (.int (-i))) = some t := e
  cases e
  exact un_neg pins s σ H x v Q I rx ⟨i, ha.int, gives_fz sm g (.int _)⟩
end

/-! ### comparisons -/
def eqvD (a b : D) : Bool := PyData.eqv a.py b.py
def eqD (a b : D) : Option Tg := if (okD a && okD b) = true then some (.fz (.bl (eqvD a b))) else none
def neD (a b : D) : Option Tg := if (okD a && okD b) = true then some (.fz (.bl (!eqvD a b))) else none
def ltI (f : Int → Int → Bool) : D → D → Option Tg
  | .int i, .int j => some (.fz (.bl (f i j)))
  | _, _ => none
/-- a key of a dict -/
def toKey : D → Option Key
  | .int i => some (.inl i)
  | .str s => some (.inr s)
  | _ => none
def dlook (ks : List (D × D)) (k : Key) : Option D := match ks with
  | [] => none
  | (k', d) :: r => if toKey k' = some k then some d else dlook r k
def inB (x : D) : D → Option Bool
  | .str s => (match x with
    | .str t => (match t.cps.toList with
      | [c] => some (decide (c ∈ s.cps.toList))
      | _ => none)
    | _ => none)
  | .tup ds => if (okD x && okD (.tup ds)) = true then some (ds.any fun z => eqvD z x) else none
  | .lst ds => if (okD x && okD (.lst ds)) = true then some (ds.any fun z => eqvD z x) else none
  | .dct ks => (match toKey x with
    | some k => some (dlook ks k).isSome
    | none => none)
  | _ => none
def inD (x c : D) : Option Tg := (inB x c).map fun b => .fz (.bl b)
def notInD (x c : D) : Option Tg := (inB x c).map fun b => .fz (.bl (!b))
def isD : D → D → Option Bool
  | .non, .non => some true
  | .bl a, .bl b => some (decide (a = b))
  | .bl _, .non => some false
  | .int _, .non => some false
  | .str _, .non => some false
  | .tup _, .non => some false
  | .lst _, .non => some false
  | _, _ => none
def isO (x c : D) : Option Tg := (isD x c).map fun b => .fz (.bl b)
def isNotO (x c : D) : Option Tg := (isD x c).map fun b => .fz (.bl (!b))
theorem and2 {a b : Bool} (h : (a && b) = true) : a = true ∧ b = true := by simpa using h
theorem pys_any (x : D) : ∀ ds : List D, ((D.pys ds).any fun z => PyData.eqv z x.py) = ds.any fun z => eqvD z x
  | [] => by rw [D.pys]; rfl
  | d :: ds => by rw [D.pys, List.any_cons, List.any_cons, pys_any x ds]; rfl
section
variable {X : Cx} {K : PySem.W.Frag} {H0 H : Hp} {k : Nat}
theorem op_eqDD (hr : Room k X.A) : OpR X (compareOp .Eq) (rD2 X.K eqD) := by
  intro pins s σ H x y v u Q I rx ry ⟨H0, a, b, t, sm, ha, hb, e, g⟩
  unfold eqD at e
  by_cases z : (okD a && okD b) = true
  · rw [if_pos z] at e
    cases e
    obtain ⟨za, zb⟩ := and2 z
    obtain ⟨as, r1⟩ := Dp.reads I _ x v (ha.dp sm za) rx
    obtain ⟨bs, r2⟩ := Dp.reads I _ y u (hb.dp sm zb) ry
    exact SeqAt.eq_plain r1 r2 (okD_plain za) (okD_plain zb) (okD_room0 zb (by have := hr.un; omega)) ⟨.bl _, H, I, rfl, gives_fz sm g (.bl _)⟩
  · rw [if_neg z] at e; cases e
theorem op_neDD (hr : Room k X.A) : OpR X (compareOp .NotEq) (rD2 X.K neD) := by
  intro pins s σ H x y v u Q I rx ry ⟨H0, a, b, t, sm, ha, hb, e, g⟩
  unfold neD at e
  by_cases z : (okD a && okD b) = true
  · rw [if_pos z] at e
    cases e
    obtain ⟨za, zb⟩ := and2 z
    obtain ⟨as, r1⟩ := Dp.reads I _ x v (ha.dp sm za) rx
    obtain ⟨bs, r2⟩ := Dp.reads I _ y u (hb.dp sm zb) ry
    exact SeqAt.ne_plain r1 r2 (okD_plain za) (okD_plain zb) (okD_room0 zb (by have := hr.un; omega)) ⟨.bl _, H, I, rfl, gives_fz sm g (.bl _)⟩
  · rw [if_neg z] at e; cases e
theorem op_cmpI {op : CmpOp} {f : Int → Int → Bool} (ho : OpR X (compareOp op) (rI0 fun i j => .bl (f i j))) : OpR X (compareOp op) (rD2 X.K (ltI f)) := by
  intro pins s σ H x y v u Q I rx ry ⟨H0, a, b, t, sm, ha, hb, e, g⟩
  cases a <;> cases b <;> first | (cases e; done) | skip
  rename_i i j
  have e : some (Tg.fz (.bl (f i j))) = some t := e
  cases e
  exact ho pins s σ H x y v u Q I rx ry ⟨i, j, ha.int, hb.int, gives_fz sm g (.bl _)⟩
abbrev ltD : D → D → Option Tg := ltI fun i j => decide (i < j)
abbrev leD : D → D → Option Tg := ltI fun i j => decide (i ≤ j)
abbrev gtD : D → D → Option Tg := ltI fun i j => decide (j < i)
abbrev geD : D → D → Option Tg := ltI fun i j => decide (j ≤ i)
theorem op_ltDD : OpR X (compareOp .Lt) (rD2 X.K ltD) := op_cmpI op_lt
theorem op_leDD : OpR X (compareOp .LtE) (rD2 X.K leD) := op_cmpI op_le
theorem op_gtDD : OpR X (compareOp .Gt) (rD2 X.K gtD) := op_cmpI op_gt
theorem op_geDD : OpR X (compareOp .GtE) (rD2 X.K geD) := op_cmpI op_ge
theorem keyD_inj {k : Key} : toKey (keyD k) = some k := by cases k <;> rfl
theorem toKey_eq {d : D} {k : Key} (h : toKey d = some k) : d = keyD k := by
  cases d <;> first | (cases h; done) | (cases (Option.some.inj h); rfl)
theorem RepK.look : ∀ {kvs : List (Key × V)} {ks : List (D × D)} {k : Key}, RepK K H kvs ks → (∀ d, dlook ks k = some d → ∃ v, valV kvs k = some v ∧ Rep K H v d) ∧ (dlook ks k = none → valV kvs k = none)
  | _, _, k, .nil => ⟨fun d e => (nomatch e), fun _ => rfl⟩
  | _, _, k, .cons (k := k') (v := v) (d := d') (kvs := kvs) (ks := ks) h r => by
    obtain ⟨h1, h2⟩ := RepK.look (k := k) r
    by_cases z : k' = k
    · subst z
      have e1 : dlook ((keyD k', d') :: ks) k' = some d' := if_pos keyD_inj
      have e2 : valV ((k', v) :: kvs) k' = some v := valV_pos (p := (k', v)) rfl
      rw [e1, e2]
      exact ⟨fun d e => ⟨v, rfl, by cases e; exact h⟩, fun e => (nomatch e)⟩
    · have e1 : dlook ((keyD k', d') :: ks) k = dlook ks k := if_neg (fun q => z (by rw [keyD_inj] at q; exact Option.some.inj q))
      have e2 : valV ((k', v) :: kvs) k = valV kvs k := valV_neg (p := (k', v)) z
      rw [e1, e2]
      exact ⟨h1, h2⟩
theorem Opd.key {v : V} {d : D} {k : Key} (h : Opd K H0 H v d) (e : toKey d = some k) : v = kV k := by
  have := toKey_eq e
  subst this
  cases k with
  | inl i => exact h.int
  | inr s => exact h.str
theorem dget_of {a : Addr} {kvs : List (Key × V)} {ks : List (D × D)} {k : Key} (h : H a = some (.dK kvs)) (r : RepK K H0 kvs ks) : ∃ o, DGet H a (kV k) o ∧ o.isSome = (dlook ks k).isSome ∧ ∀ d, dlook ks k = some d → ∃ v, o = some v ∧ Rep K H0 v d := by
  refine ⟨valV kvs k, .k h, ?_, fun d e => (RepK.look r).1 d e⟩
  cases q : dlook ks k with
  | none => rw [(RepK.look r).2 q]; rfl
  | some d => obtain ⟨v, e, _⟩ := (RepK.look r).1 d q; rw [e]; rfl
theorem in_core (hr : Room k X.A) {neg : Bool} {op : CmpOp} (hop : op = if neg = true then .NotIn else .In) : OpR X (compareOp op) (rD2 X.K fun x c => (inB x c).map fun b => .fz (.bl (if neg = true then !b else b))) := by
  intro pins s σ H x y v u Q I rx ry ⟨H0, a, b, t, sm, ha, hb, e, g⟩
  cases q : inB a b with
  | none => simp only [q, Option.map_none] at e; cases e
  | some r =>
    simp only [q, Option.map_some] at e
    cases e
    have fin := fun v (r : Rep X.K H0 v _) => gives_fz sm g r
    have hu1 : X.A.units + 1 < cLine := hu_of hr
    have hu65 : X.A.units + 70 < cLine := by have := hr.un; omega
    cases b with
    | str z =>
      cases a <;> first | (cases q; done) | skip
      rename_i w
      have q : (match w.cps.toList with | [c] => some (decide (c ∈ z.cps.toList)) | _ => none) = some r := q
      split at q
      · rename_i c hc
        cases q
        have hw : w = ⟨#[c]⟩ := by
          obtain ⟨arr⟩ := w
          have : arr.toList = [c] := hc
          congr 1
          exact Array.toList_inj.mp this
        cases neg with
        | false => subst hop; exact op_in_sign pins s σ H x y v u Q I rx ry ⟨c, z, by rw [ha.str, hw], hb.str, fin _ (.bl _)⟩
        | true => subst hop; exact op_notIn_sign pins s σ H x y v u Q I rx ry ⟨c, z, by rw [ha.str, hw], hb.str, fin _ (.bl _)⟩
      · cases q
    | tup ds =>
      have q : (if (okD a && okD (.tup ds)) = true then some (ds.any fun z => eqvD z a) else none) = some r := q
      by_cases z : (okD a && okD (.tup ds)) = true
      · rw [if_pos z] at q
        cases q
        obtain ⟨za, zb⟩ := and2 z
        obtain ⟨as, r1⟩ := Dp.reads I _ x v (ha.dp sm za) rx
        obtain ⟨bs, r2⟩ := Dp.reads I _ y u (hb.dp sm zb) ry
        have e2 : (D.tup ds).py = .tuple (D.pys ds) := by rw [D.py]
        rw [e2] at r2
        have cl : PyData.plainAll (D.pys ds) = true := by have := okD_plain zb; rw [e2] at this; simpa [PyData.plain] using this
        cases neg with
        | false =>
          subst hop
          refine SeqAt.in_tuple_data r2 r1 cl (okD_plain za) (okD_room za (by omega)) ⟨.bl _, H, I, rfl, ?_⟩
          rw [pys_any]; exact fin _ (.bl _)
        | true =>
          subst hop
          refine SeqAt.notIn_tuple_data r2 r1 cl (okD_plain za) (okD_room za (by omega)) ⟨.bl _, H, I, rfl, ?_⟩
          rw [pys_any]; exact fin _ (.bl _)
      · rw [if_neg z] at q; cases q
    | lst ds =>
      have q : (if (okD a && okD (.lst ds)) = true then some (ds.any fun z => eqvD z a) else none) = some r := q
      by_cases z : (okD a && okD (.lst ds)) = true
      · rw [if_pos z] at q
        cases q
        obtain ⟨za, zb⟩ := and2 z
        obtain ⟨as, r1⟩ := Dp.reads I _ x v (ha.dp sm za) rx
        obtain ⟨bs, r2⟩ := Dp.reads I _ y u (hb.dp sm zb) ry
        have e2 : (D.lst ds).py = .list (D.pys ds) := by rw [D.py]
        rw [e2] at r2
        have cl : PyData.plainAll (D.pys ds) = true := by have := okD_plain zb; rw [e2] at this; simpa [PyData.plain] using this
        cases neg with
        | false =>
          subst hop
          refine SeqAt.in_list_data r2 r1 cl (okD_plain za) (okD_room za (by omega)) ⟨.bl _, H, I, rfl, ?_⟩
          rw [pys_any]; exact fin _ (.bl _)
        | true =>
          subst hop
          refine SeqAt.notIn_list_data r2 r1 cl (okD_plain za) (okD_room za (by omega)) ⟨.bl _, H, I, rfl, ?_⟩
          rw [pys_any]; exact fin _ (.bl _)
      · rw [if_neg z] at q; cases q
    | dct ks =>
      have q : (match toKey a with | some k => some (dlook ks k).isSome | none => none) = some r := q
      cases qk : toKey a with
      | none => rw [qk] at q; cases q
      | some key =>
        rw [qk] at q
        cases q
        obtain ⟨p, kvs, ey, h1, r1⟩ := hb.dct sm
        obtain ⟨o, hg, ho, _⟩ := dget_of (k := key) h1 r1
        subst ey
        cases ry
        rw [ha.key qk] at rx
        cases neg with
        | false => subst hop; exact d_in hu1 I hg rx fun s3 I3 => ⟨.bl o.isSome, H, I3, rfl, by rw [ho]; exact fin _ (.bl _)⟩
        | true => subst hop; exact d_notIn hu1 I hg rx fun s3 I3 => ⟨.bl (!o.isSome), H, I3, rfl, by rw [ho]; exact fin _ (.bl _)⟩
    | _ => exact nomatch q
theorem op_inDD (hr : Room k X.A) : OpR X (compareOp .In) (rD2 X.K inD) := in_core (neg := false) hr rfl
theorem op_notInDD (hr : Room k X.A) : OpR X (compareOp .NotIn) (rD2 X.K notInD) := in_core (neg := true) hr rfl
theorem op_isDD : OpR X (compareOp .Is) (rD2 X.K isO) := by
  intro pins s σ H x y v u Q I rx ry ⟨H0, a, b, t, sm, ha, hb, e, g⟩
  unfold isO at e
  cases a <;> cases b <;> first | (cases e; done) | skip
  case bl.bl i j => cases (show some _ = some t from e); exact op_isBl pins s σ H x y v u Q I rx ry ⟨i, j, ha.bl, hb.bl, gives_fz sm g (.bl _)⟩
  case non.non => cases (show some _ = some t from e); exact op_isN pins s σ H x y v u Q I rx ry ⟨hb.non, by rw [ha.non]; exact gives_fz sm g (.bl _)⟩
  case bl.non => cases (show some _ = some t from e); exact op_isN pins s σ H x y v u Q I rx ry ⟨hb.non, by rw [ha.bl]; exact gives_fz sm g (.bl _)⟩
  case int.non => cases (show some _ = some t from e); exact op_isN pins s σ H x y v u Q I rx ry ⟨hb.non, by rw [ha.int]; exact gives_fz sm g (.bl _)⟩
  case str.non => cases (show some _ = some t from e); exact op_isN pins s σ H x y v u Q I rx ry ⟨hb.non, by rw [ha.str]; exact gives_fz sm g (.bl _)⟩
  case tup.non => cases (show some _ = some t from e); obtain ⟨p, vs, e1, _⟩ := ha.tup sm; exact op_isN pins s σ H x y v u Q I rx ry ⟨hb.non, by rw [e1]; exact gives_fz sm g (.bl _)⟩
  case lst.non => cases (show some _ = some t from e); obtain ⟨p, vs, e1, _⟩ := ha.lst sm; exact op_isN pins s σ H x y v u Q I rx ry ⟨hb.non, by rw [e1]; exact gives_fz sm g (.bl _)⟩
theorem op_isNotDD : OpR X (compareOp .IsNot) (rD2 X.K isNotO) := by
  intro pins s σ H x y v u Q I rx ry ⟨H0, a, b, t, sm, ha, hb, e, g⟩
  unfold isNotO at e
  cases a <;> cases b <;> first | (cases e; done) | skip
  case bl.bl i j => cases (show some _ = some t from e); exact op_notBl pins s σ H x y v u Q I rx ry ⟨i, j, ha.bl, hb.bl, gives_fz sm g (.bl _)⟩
  case non.non => cases (show some _ = some t from e); exact op_notN pins s σ H x y v u Q I rx ry ⟨hb.non, by rw [ha.non]; exact gives_fz sm g (.bl _)⟩
  case bl.non => cases (show some _ = some t from e); exact op_notN pins s σ H x y v u Q I rx ry ⟨hb.non, by rw [ha.bl]; exact gives_fz sm g (.bl _)⟩
  case int.non => cases (show some _ = some t from e); exact op_notN pins s σ H x y v u Q I rx ry ⟨hb.non, by rw [ha.int]; exact gives_fz sm g (.bl _)⟩
  case str.non => cases (show some _ = some t from e); exact op_notN pins s σ H x y v u Q I rx ry ⟨hb.non, by rw [ha.str]; exact gives_fz sm g (.bl _)⟩
  case tup.non => cases (show some _ = some t from e); obtain ⟨p, vs, e1, _⟩ := ha.tup sm; exact op_notN pins s σ H x y v u Q I rx ry ⟨hb.non, by rw [e1]; exact gives_fz sm g (.bl _)⟩
  case lst.non => cases (show some _ = some t from e); obtain ⟨p, vs, e1, _⟩ := ha.lst sm; exact op_notN pins s σ H x y v u Q I rx ry ⟨hb.non, by rw [e1]; exact gives_fz sm g (.bl _)⟩
end
end VL

/-! VLf: order of data, subscripts, slices, built-in functions by data. -/
namespace VL
open PySem PySem.Spec L2

/-! ### lists of one kind -/
def intsOf : List D → Option (List Int)
  | [] => some []
  | .int i :: r => (intsOf r).map (i :: ·)
  | _ :: _ => none
def blsOf : List D → Option (List Bool)
  | [] => some []
  | .bl i :: r => (blsOf r).map (i :: ·)
  | _ :: _ => none
def strsOf : List D → Option (List Str)
  | [] => some []
  | .str i :: r => (strsOf r).map (i :: ·)
  | _ :: _ => none
@[simp] theorem intsOf_map : ∀ ns : List Int, intsOf (ns.map D.int) = some ns
  | [] => rfl
  | n :: ns => by rw [List.map_cons, intsOf, intsOf_map ns]; rfl
@[simp] theorem blsOf_map : ∀ ns : List Bool, blsOf (ns.map D.bl) = some ns
  | [] => rfl
  | n :: ns => by rw [List.map_cons, blsOf, blsOf_map ns]; rfl
@[simp] theorem strsOf_map : ∀ ns : List Str, strsOf (ns.map D.str) = some ns
  | [] => rfl
  | n :: ns => by rw [List.map_cons, strsOf, strsOf_map ns]; rfl
section
variable {K : PySem.W.Frag} {H0 H : Hp}
theorem intsOf_eq : ∀ {ds : List D} {ns : List Int}, intsOf ds = some ns → ds = ns.map D.int
  | [], ns, h => by cases h; rfl
  | d :: ds, ns, h => by
    cases d with
    | int i =>
      have h : (intsOf ds).map (i :: ·) = some ns := h
      cases q : intsOf ds with
      | none => rw [q] at h; cases h
      | some ms => rw [q] at h; cases h; rw [List.map_cons, intsOf_eq q]
    | _ => cases h
theorem blsOf_eq : ∀ {ds : List D} {ns : List Bool}, blsOf ds = some ns → ds = ns.map D.bl
  | [], ns, h => by cases h; rfl
  | d :: ds, ns, h => by
    cases d with
    | bl i =>
      have h : (blsOf ds).map (i :: ·) = some ns := h
      cases q : blsOf ds with
      | none => rw [q] at h; cases h
      | some ms => rw [q] at h; cases h; rw [List.map_cons, blsOf_eq q]
    | _ => cases h
theorem strsOf_eq : ∀ {ds : List D} {ns : List Str}, strsOf ds = some ns → ds = ns.map D.str
  | [], ns, h => by cases h; rfl
  | d :: ds, ns, h => by
    cases d with
    | str i =>
      have h : (strsOf ds).map (i :: ·) = some ns := h
      cases q : strsOf ds with
      | none => rw [q] at h; cases h
      | some ms => rw [q] at h; cases h; rw [List.map_cons, strsOf_eq q]
    | _ => cases h
theorem Reps.ints : ∀ {vs : List V} {ns : List Int}, Reps K H vs (ns.map D.int) → vs = ns.map V.int
  | _, [], r => by cases r; rfl
  | _, n :: ns, r => by
    rw [List.map_cons] at r
    cases r with
    | cons h r => cases h; rw [List.map_cons, Reps.ints r]
theorem Reps.bls : ∀ {vs : List V} {ns : List Bool}, Reps K H vs (ns.map D.bl) → vs = ns.map V.bl
  | _, [], r => by cases r; rfl
  | _, n :: ns, r => by
    rw [List.map_cons] at r
    cases r with
    | cons h r => cases h; rw [List.map_cons, Reps.bls r]
theorem Reps.strs : ∀ {vs : List V} {ns : List Str}, Reps K H vs (ns.map D.str) → vs = ns.map V.str
  | _, [], r => by cases r; rfl
  | _, n :: ns, r => by
    rw [List.map_cons] at r
    cases r with
    | cons h r => cases h; rw [List.map_cons, Reps.strs r]
theorem Reps.of_ints : ∀ (ns : List Int), Reps K H (ns.map V.int) (ns.map D.int)
  | [] => .nil
  | n :: ns => .cons (.int n) (Reps.of_ints ns)
theorem Reps.of_strs : ∀ (ns : List Str), Reps K H (ns.map V.str) (ns.map D.str)
  | [] => .nil
  | n :: ns => .cons (.str n) (Reps.of_strs ns)
end

/-! ### order -/
def ordO (a b : D) : Bool := (okD a && okD b) && PySem.W.alike a.py b.py
def ordD (f : Int → Int → Bool) (g : PyData → PyData → Bool) : D → D → Option Tg
  | .int i, .int j => some (.fz (.bl (f i j)))
  | .tup xs, .tup ys => if ordO (.tup xs) (.tup ys) = true then some (.fz (.bl (g (D.tup xs).py (D.tup ys).py))) else none
  | .lst xs, .lst ys => if ordO (.lst xs) (.lst ys) = true then some (.fz (.bl (g (D.lst xs).py (D.lst ys).py))) else none
  | _, _ => none
abbrev oLt : D → D → Option Tg := ordD (fun i j => decide (i < j)) fun x y => PySem.W.dataLt x y
abbrev oLe : D → D → Option Tg := ordD (fun i j => decide (i ≤ j)) fun x y => !PySem.W.dataLt y x
abbrev oGt : D → D → Option Tg := ordD (fun i j => decide (j < i)) fun x y => PySem.W.dataLt y x
abbrev oGe : D → D → Option Tg := ordD (fun i j => decide (j ≤ i)) fun x y => !PySem.W.dataLt x y
section
variable {X : Cx} {K : PySem.W.Frag} {H0 H : Hp} {k : Nat}
theorem ord_core (hr : Room k X.A) {op : CmpOp} {f : Int → Int → Bool} {g : PyData → PyData → Bool} (hi : OpR X (compareOp op) (rI0 fun i j => .bl (f i j)))
    (hd : ∀ {a b : Value} {da db : PyData} {as bs : List Addr} {s : Shared} {Q E : Value → Shared → Prop}, Reads s.heap a da as → Reads s.heap b db bs → PySem.W.alike da db = true → da ≠ .none → X.A.units + min da.depth db.depth < cLine → Q (.bool (g da db)) s → wpAny (model X.prog X.w) X.A (compareOp op a b) Q E s) :
    OpR X (compareOp op) (rD2 X.K (ordD f g)) := by
  have hu : X.A.units + 70 < cLine := by have := hr.un; omega
  intro pins s σ H x y v u Q I rx ry ⟨H0, a, b, t, sm, ha, hb, e, gv⟩
  have fin : ordO a b = true → a.py ≠ .none → t = .fz (.bl (g a.py b.py)) → wpAny (model X.prog X.w) X.A (compareOp op v u) (EP X pins σ Q) X.xe s := fun z nn et => by
    subst et
    obtain ⟨z1, z2⟩ := and2 z
    obtain ⟨za, zb⟩ := and2 z1
    obtain ⟨as, r1⟩ := Dp.reads I _ x v (ha.dp sm za) rx
    obtain ⟨bs, r2⟩ := Dp.reads I _ y u (hb.dp sm zb) ry
    exact hd r1 r2 z2 nn (okD_room0 zb hu) ⟨.bl _, H, I, rfl, gives_fz sm gv (.bl _)⟩
  cases a <;> cases b <;> first | (cases e; done) | skip
  case int.int i j =>
    have e : some (Tg.fz (.bl (f i j))) = some t := e
    cases e
    exact hi pins s σ H x y v u Q I rx ry ⟨i, j, ha.int, hb.int, gives_fz sm gv (.bl _)⟩
  case tup.tup xs ys =>
    have e : (if ordO (.tup xs) (.tup ys) = true then some (Tg.fz (.bl (g (D.tup xs).py (D.tup ys).py))) else none) = some t := e
    by_cases z : ordO (.tup xs) (.tup ys) = true
    · rw [if_pos z] at e
      exact fin z (by rw [D.py]; intro q; cases q) (Option.some.inj e).symm
    · rw [if_neg z] at e; cases e
  case lst.lst xs ys =>
    have e : (if ordO (.lst xs) (.lst ys) = true then some (Tg.fz (.bl (g (D.lst xs).py (D.lst ys).py))) else none) = some t := e
    by_cases z : ordO (.lst xs) (.lst ys) = true
    · rw [if_pos z] at e
      exact fin z (by rw [D.py]; intro q; cases q) (Option.some.inj e).symm
    · rw [if_neg z] at e; cases e
theorem op_oLt (hr : Room k X.A) : OpR X (compareOp .Lt) (rD2 X.K oLt) := ord_core hr op_lt fun a b c d e q => PySem.W.lt_data a b c d e q
theorem op_oLe (hr : Room k X.A) : OpR X (compareOp .LtE) (rD2 X.K oLe) := ord_core hr op_le fun a b c d e q => PySem.W.le_data a b c d e q
theorem op_oGt (hr : Room k X.A) : OpR X (compareOp .Gt) (rD2 X.K oGt) := ord_core hr op_gt fun a b c d e q => PySem.W.gt_data a b c d e q
theorem op_oGe (hr : Room k X.A) : OpR X (compareOp .GtE) (rD2 X.K oGe) := ord_core hr op_ge fun a b c d e q => PySem.W.ge_data a b c d e q

/-! ### subscripts -/
def ixD : D → D → Option Tg
  | .tup xs, .int i => (atI xs i).map .fz
  | .lst xs, .int i => (atI xs i).map .fz
  | .scr ns, .int i => (atI ns i).map fun n => .fz (.int n)
  | .str s, .int i => if Nat.ble s.length 100000 = true then (atI s.cps.toList i).map fun c => .fz (.str ⟨#[c]⟩) else none
  | .dct ks, k => match toKey k with
    | some k => (dlook ks k).map .fz
    | none => none
  | _, _ => none
theorem atI_reps {vs : List V} {ds : List D} {i : Int} {d : D} (r : Reps K H vs ds) (h : atI ds i = some d) : ∃ v, atI vs i = some v ∧ Rep K H v d := by
  have hl := r.length
  unfold atI at h ⊢
  rw [hl]
  cases q : ixN ds.length i with
  | none => rw [q] at h; cases h
  | some j =>
    rw [q] at h
    obtain ⟨v, h1, h2⟩ := r.get (show ds[j]? = some d from h)
    exact ⟨v, h1, h2⟩
theorem atI_map {α β : Type} (f : α → β) (xs : List α) (i : Int) : atI (xs.map f) i = (atI xs i).map f := by
  unfold atI
  rw [List.length_map]
  cases q : ixN xs.length i with
  | none => rfl
  | some j => simp only [Option.bind_some, List.getElem?_map]
theorem ix_dict (hr : Room k X.A) : IxR X (fun x y H Q => ∃ a v, x = .ref a ∧ DGet H a y (some v) ∧ Q v H) := by
  intro value slice pins s σ H x y v u Q I rx ry ⟨a, w, ex, g, q⟩ hs
  subst ex
  obtain rfl : v = Value.ref a := rx
  have hT := dict_typeIs I g
  unfold PyProof.Rows.subscriptTail
  refine wpAny_bind ?_
  rw [getitemInPython_of_ne hT.not_modules]
  refine wpAny_bind (wpAny_specialOf hT PySem.F.slot_dict_getitem.lookup ?_)
  have step : wpAny (model X.prog X.w) X.A (subscripted slice false (.ref a) u >>= fun r => letTemporaryGo value (.ref a) r >>= fun _ => pure r) (EP X pins σ Q) X.xe s := by
    rw [hs]
    exact wpAny_bind (wpAny_operating (d_getItem (hu_of hr) I g ry fun w' s' I' rw' => wpAny_bind (wpAny_letTemporaryGo (wpAny_pure ⟨w, H, I', rw', q⟩))))
  first
    | exact wpAny_pure step
    | exact wpAny_bind (wpAny_pure step)
    | exact step
theorem ix_D (hr : Room k X.A) : IxR X (rD2 X.K ixD) := by
  intro value slice pins s σ H x y v u Q I rx ry ⟨H0, a, b, t, sm, ha, hb, e, g⟩ hs
  cases a with
  | tup xs =>
    cases b <;> first | (cases e; done) | skip
    rename_i i
    have e : (atI xs i).map Tg.fz = some t := e
    cases q : atI xs i with
    | none => rw [q] at e; cases e
    | some d =>
      rw [q] at e; cases e
      obtain ⟨p, vs, ev, h1, h1', r1⟩ := ha.tup sm
      obtain ⟨z, h2, h3⟩ := atI_reps r1 q
      exact ix_tup value slice pins s σ H x y v u Q I rx ry ⟨p, vs, i, z, ev, hb.int, h1.sq, h2, gives_fz sm g h3⟩ hs
  | lst xs =>
    cases b <;> first | (cases e; done) | skip
    rename_i i
    have e : (atI xs i).map Tg.fz = some t := e
    cases q : atI xs i with
    | none => rw [q] at e; cases e
    | some d =>
      rw [q] at e; cases e
      obtain ⟨p, vs, ev, h1, r1⟩ := ha.lst sm
      obtain ⟨z, h2, h3⟩ := atI_reps r1 q
      exact ix_list value slice pins s σ H x y v u Q I rx ry ⟨p, vs, i, z, ev, hb.int, SqL.of h1, h2, gives_fz sm g h3⟩ hs
  | scr ns =>
    cases b <;> first | (cases e; done) | skip
    rename_i i
    have e : ((atI ns i).map fun n => Tg.fz (.int n)) = some t := e
    cases q : atI ns i with
    | none => rw [q] at e; cases e
    | some n =>
      rw [q] at e; cases e
      obtain ⟨p, ev, h1⟩ := ha.scr sm
      exact ix_list value slice pins s σ H x y v u Q I rx ry ⟨p, _, i, .int n, ev, hb.int, h1, by rw [atI_map, q]; rfl, gives_fz sm g (.int _)⟩ hs
  | str z =>
    cases b <;> first | (cases e; done) | skip
    rename_i i
    have e : (if Nat.ble z.length 100000 = true then (atI z.cps.toList i).map fun c => Tg.fz (.str ⟨#[c]⟩) else none) = some t := e
    by_cases hz : Nat.ble z.length 100000 = true
    · rw [if_pos hz] at e
      cases q : atI z.cps.toList i with
      | none => rw [q] at e; cases e
      | some c =>
        rw [q] at e; cases e
        exact ix_str value slice pins s σ H x y v u Q I rx ry ⟨z, i, c, ha.str, hb.int, ble100000 hz, q, gives_fz sm g (.str _)⟩ hs
    · rw [if_neg hz] at e; cases e
  | dct ks =>
    have e : (match toKey b with | some k => (dlook ks k).map Tg.fz | none => none) = some t := by cases b <;> exact e
    cases qk : toKey b with
    | none => rw [qk] at e; cases e
    | some key =>
      rw [qk] at e
      cases q : dlook ks key with
      | none =>
        have e : (dlook ks key).map Tg.fz = some t := e
        rw [q] at e; cases e
      | some d =>
        have e : (dlook ks key).map Tg.fz = some t := e
        rw [q] at e; cases e
        obtain ⟨p, kvs, ey, h1, r1⟩ := ha.dct sm
        obtain ⟨o, hg, _, ho⟩ := dget_of (k := key) h1 r1
        obtain ⟨z, ez, rz⟩ := ho d q
        subst ez
        rw [← hb.key qk] at hg
        exact ix_dict hr value slice pins s σ H x y v u Q I rx ry ⟨p, z, ey, hg, gives_fz sm g rz⟩ hs
  | _ => cases e
end
end VL

/-! VLg: slices by data. -/
namespace VL
open PySem PySem.Spec L2

def cutL {α : Type} (xs : List α) (lo hi : Option Int) : List α := (xs.drop (HT.sIx xs.length 0 lo)).take (HT.sIx xs.length xs.length hi - HT.sIx xs.length 0 lo)
def cutD : D → Option Int → Option Int → Option Tg
  | .tup xs, lo, hi => some (.fz (.tup (cutL xs lo hi)))
  | .lst xs, lo, hi => some (.nw (.lst (cutL xs lo hi)))
  | .str s, lo, hi => if Nat.ble s.length 100000 = true then some (.fz (.str (cutS s lo hi))) else none
  | _, _, _ => none
def rSlD (K : PySem.W.Frag) : V → Option Int → Option Int → Hp → VK → Prop := fun x lo hi H Q => ∃ H0 a t, Same H0 H ∧ Opd K H0 H x a ∧ cutD a lo hi = some t ∧ Gives K H0 H t Q
abbrev Fo := En → Rz (Option Int)
def oNone : Fo := fun e => .ok none e
def oSome (f : Fe) : Fo := fun e => (f e).bind fun t e1 => match look e1 t.fr with
  | some (.int i) => .ok (some i) e1
  | _ => .bad
def finS (t : Tg) (lo hi : Option Int) (e : En) : Rz Tg := match look e t with
  | some d => (match cutD d lo hi with
    | some t => .ok t e
    | none => .bad)
  | none => .bad
def dSl (fa : Fe) (lo hi : Fo) : Fe := fun e => (fa e).bind fun t1 e1 => (lo e1).bind fun l e2 => (hi e2).bind fun h e3 => finS t1.fr l h e3
def tOO (K : PySem.W.Frag) (W : WX) (f : Fo) : TO := fun σ H Q => ∃ H0 e, Wd K H0 H σ e ∧ Gy K W σ H0 H e (f e) fun o e' H0' H' => Q o H'
def VO (X : Cx) (W : WX) (e : Option Expr) (f : Fo) : Prop := PO X e (tOO X.K W f)
section
variable {X : Cx} {W : WX} {a b c : Expr} {es : List Expr} {fa fb fc : Fe} {pos : Pos}
variable {K : PySem.W.Frag} {H0 H H0' H' : Hp} {σ : L2.St} {e : En}
theorem po_imp {e : Option Expr} {t t' : TO} (h : PO X e t) (i : ∀ σ H Q, t' σ H Q → t σ H Q) : PO X e t' := ⟨fun pins s σ H Q I q => h.run pins s σ H Q I (i σ H Q q)⟩
theorem vo_none : VO X W none oNone := po_imp po_none fun σ H Q ⟨H0, e, w, h⟩ => h H0 H w .refl
theorem vo_some (h : VE X W a fa) : VO X W (some a) (oSome fa) := by
  refine po_imp (po_some h) fun σ H Q ⟨H0, e, w, h⟩ => ?_
  refine tE_then w h fun t1 e1 v1 H01 H1 q1 w1 a1 r1 h1 => ?_
  cases q : look e1 t1.fr with
  | none => simp only [q] at h1; exact h1.elim
  | some d =>
    cases d with
    | int i =>
      simp only [q] at h1
      exact ⟨i, (look_ok w1 r1 q).int, h1 H01 H1 w1 .refl⟩
    | _ => simp only [q] at h1; exact h1.elim
theorem tOO_then {β : Type} {f : Fo} {g : Option Int → En → Rz β} {k : β → En → Hp → Hp → Prop} {Z : Option Int → Hp → Prop} (w : Wd K H0 H σ e) (h : Gy K W σ H0 H e ((f e).bind g) k)
    (hz : ∀ t e1 H01 H1, f e = .ok t e1 → Wd K H01 H1 σ e1 → After K H0 H σ e H01 H1 σ e1 → Gy K W σ H01 H1 e1 (g t e1) k → Z t H1) : tOO K W f σ H Z := by
  refine ⟨H0, e, w, ?_⟩
  cases q : f e with
  | ok t e1 =>
    rw [q] at h
    intro H01 H1 w1 a1
    refine hz t e1 H01 H1 q w1 a1 ?_
    have h' : Gy K W σ H0 H e (g t e1) k := h
    cases q2 : g t e1 with
    | ok b e2 => rw [q2] at h'; exact fun H03 H3 w3 a3 => h' H03 H3 w3 (a1.trans a3)
    | ex x e2 => rw [q2] at h'; exact fun dx H03 H3 w3 a3 x3 => h' dx H03 H3 w3 (a1.trans a3) x3
    | bad => rw [q2] at h'; exact h'
  | ex x e1 => rw [q] at h; exact h
  | bad => rw [q] at h; exact h
theorem Reps.cut {vs : List V} {ds : List D} (r : Reps K H vs ds) (lo hi : Option Int) : Reps K H (cutV vs lo hi) (cutL ds lo hi) := by
  unfold cutV cutL
  rw [r.length]
  exact (r.drop _).take _
theorem cutL_whole {α : Type} {xs : List α} {lo hi : Option Int} (h : HT.sIx xs.length 0 lo = 0 ∧ HT.sIx xs.length xs.length hi = xs.length) : cutL xs lo hi = xs := by
  unfold cutL
  rw [h.1, h.2, Nat.sub_zero, List.drop_zero, List.take_length]
theorem sl_D : SlR X (rSlD X.K) := by
  intro pins s σ H x v vl vu lo hi sl Q I rx hs pl pu ⟨H0, a, t, sm, ha, e, g⟩
  cases a with
  | tup xs =>
    have e : some (Tg.fz (.tup (cutL xs lo hi))) = some t := e
    cases e
    obtain ⟨p, vs, ev, h1, h1', r1⟩ := ha.tup sm
    subst ev
    by_cases hw : HT.sIx vs.length 0 lo = 0 ∧ HT.sIx vs.length vs.length hi = vs.length
    · refine sl_tupA pins s σ H _ v vl vu lo hi sl Q I rx hs pl pu ⟨p, vs, rfl, h1.sq, fun _ => gives_fz sm g ?_, fun n => (n hw).elim⟩
      rw [cutL_whole (by rw [← r1.length]; exact hw)]
      exact .tup h1' r1
    · cases rx
      obtain ⟨its, r, ht, hz⟩ := I.tuple h1.sq
      have hl : its.toArray.size = vs.length := by rw [List.size_toArray]; exact r.length.symm
      refine ⟨"tuple", _, PyProof.Rows.slot_tuple_getitem.lookup, ht.typeIs, HT.getItem_tuple_cut ht hs pl pu (by rw [hl]; exact hw) ?_ (by rw [hl]; exact hz)⟩
      rw [hl]
      exact newT I ((r.drop (HT.sIx vs.length 0 lo)).take (HT.sIx vs.length vs.length hi - HT.sIx vs.length 0 lo)) (Nat.le_trans (cutV_length vs lo hi) hz) fun p o n hd => gives_tup sm g n hd (r1.cut lo hi)
  | lst xs =>
    have e : some (Tg.nw (.lst (cutL xs lo hi))) = some t := e
    cases e
    obtain ⟨p, vs, ev, h1, r1⟩ := ha.lst sm
    exact sl_list pins s σ H x v vl vu lo hi sl Q I rx hs pl pu ⟨p, vs, ev, SqL.of h1, fun p n => gives_lst sm g n (r1.cut lo hi)⟩
  | str z =>
    have e : (if Nat.ble z.length 100000 = true then some (Tg.fz (.str (cutS z lo hi))) else none) = some t := e
    by_cases hz : Nat.ble z.length 100000 = true
    · rw [if_pos hz] at e
      cases e
      exact sl_str pins s σ H x v vl vu lo hi sl Q I rx hs pl pu ⟨z, ha.str, ble100000 hz, gives_fz sm g (.str _)⟩
    · rw [if_neg hz] at e; cases e
  | _ => cases e
theorem ve_sl {lo hi : Option Expr} {fl fh : Fo} {p2 : Pos} (ha : VE X W a fa) (hl : VO X W lo fl) (hu : VO X W hi fh) : VE X W (.Subscript a (.Slice lo hi none p2) pos) (dSl fa fl fh) := by
  refine pe_imp (pe_slice sl_D ha hl hu) fun σ H Q ⟨H0, e, w, h⟩ => ?_
  refine tE_then w h fun t1 e1 v1 H01 H1 q1 w1 a1 r1 h1 => ?_
  refine tOO_then w1 h1 fun l e2 H02 H2 q2 w2 a2 h2 => ?_
  refine tOO_then w2 h2 fun u e3 H03 H3 q3 w3 a3 h3 => ?_
  cases p1 : look e3 t1.fr with
  | none => simp only [finS, p1] at h3; exact h3.elim
  | some d =>
    cases p2 : cutD d l u with
    | none => simp only [finS, p1, p2] at h3; exact h3.elim
    | some t =>
      simp only [finS, p1, p2] at h3
      exact ⟨H03, d, t, w3.sub, look_ok w3 (r1.mono (a2.trans a3).s0) p1, p2, gives_of w3 ((a1.trans a2).trans a3) h3⟩

/-! ### x[::-1] -/
def revD : D → Option Tg
  | .tup xs => some (.fz (.tup xs.reverse))
  | .lst xs => some (.nw (.lst xs.reverse))
  | _ => none
section
variable {prog : Program} {w : World} {A : Around} {E : Value → Shared → Prop} {s : Shared}
theorem applied_rev {sl : Addr} {vl vu vs : Value} {n : Nat} {Q : Int × Int × Nat → Shared → Prop} (hs : s.heap.IsSliceOf sl vl vu vs) (pl : IsPart vl none) (pu : IsPart vu none) (ps : IsPart vs (some (-1)))
    (h : Q ((n : Int) - 1, -1, n) s) : wpAny (model prog w) A (Builtin.Slice.sliceApplied (.ref sl) (pure (n : Int))) Q E s := by
  obtain ⟨o, ho, hc, hd⟩ := id hs
  unfold Builtin.Slice.sliceApplied Builtin.Slice.sliceFields
  have f0 := fun {Q : Value → Shared → Prop} (q : Q vl s) => wpAny_field (M := model prog w) (A := A) (E := E) (i := 0) ho hd (x := vl) rfl q
  have f1 := fun {Q : Value → Shared → Prop} (q : Q vu s) => wpAny_field (M := model prog w) (A := A) (E := E) (i := 1) ho hd (x := vu) rfl q
  have f2 := fun {Q : Value → Shared → Prop} (q : Q vs s) => wpAny_field (M := model prog w) (A := A) (E := E) (i := 2) ho hd (x := vs) rfl q
  refine wpAny_bind (wpAny_bind (f0 (wpAny_bind (f1 (wpAny_bind (f2 (wpAny_pure ?_)))))))
  refine wpAny_bind (HT.slicePart_ ps ?_)
  show wpAny _ _ (if ((-1 : Int) == 0) = true then _ else _) _ _ s
  rw [if_neg (by decide)]
  refine wpAny_bind (HT.slicePart_ pl (wpAny_bind (HT.slicePart_ pu (wpAny_bind (wpAny_pure ?_)))))
  have e1 : Builtin.Slice.sliceAdjust none none (-1) (n : Int) = ((n : Int) - 1, -1) := by
    unfold Builtin.Slice.sliceAdjust
    simp
  have e2 : Builtin.Slice.slicePlaces ((n : Int) - 1) (-1) (-1) = n := by
    unfold Builtin.Slice.slicePlaces
    rw [if_neg (by decide)]
    by_cases z : (n : Int) - 1 > -1
    · rw [if_pos z]
      have : ((n : Int) - 1 - -1 - 1) / (- -1) = (n : Int) - 1 := by
        rw [show (- -1 : Int) = 1 from rfl, Int.ediv_one]; omega
      rw [this]; omega
    · rw [if_neg z]; show (0 : Int).toNat = n; omega
  show wpAny _ _ (match Builtin.Slice.sliceAdjust none none (-1) (n : Int) with | (lo, hi) => pure (lo, (-1 : Int), Builtin.Slice.slicePlaces lo hi (-1))) _ _ s
  rw [e1]
  show wpAny _ _ (pure ((n : Int) - 1, (-1 : Int), Builtin.Slice.slicePlaces ((n : Int) - 1) (-1) (-1))) _ _ s
  rw [e2]
  exact wpAny_pure h
theorem pick_rev {α : Type} (xs : List α) : ∀ k : Nat, k ≤ xs.length → (List.range k).filterMap (fun (m : Nat) => xs[((k : Int) - 1 + (m : Int) * -1).toNat]?) = (xs.take k).reverse := by
  intro k
  induction k with
  | zero => intro _; rfl
  | succ k ih =>
    intro hk
    rw [List.range_succ_eq_map, List.filterMap_cons]
    have e0 : ((((k + 1 : Nat) : Int)) - 1 + ((0 : Nat) : Int) * -1).toNat = k := by omega
    rw [e0, List.getElem?_eq_getElem (by omega)]
    have ih' := ih (by omega)
    rw [List.filterMap_map]
    have e1 : ((fun (m : Nat) => xs[((((k + 1 : Nat) : Int)) - 1 + (m : Int) * -1).toNat]?) ∘ Nat.succ) = fun (m : Nat) => xs[((k : Int) - 1 + (m : Int) * -1).toNat]? := by
      funext m
      have : ((((k + 1 : Nat) : Int)) - 1 + ((Nat.succ m : Nat) : Int) * -1).toNat = ((k : Int) - 1 + (m : Int) * -1).toNat := by omega
      show xs[((((k + 1 : Nat) : Int)) - 1 + ((Nat.succ m : Nat) : Int) * -1).toNat]? = _
      rw [this]
    show xs[k] :: List.filterMap _ _ = _
    rw [e1, ih', List.take_succ_eq_append_getElem (by omega), List.reverse_append]
    rfl
theorem getItem_tup_rev {t sl : Addr} {items : Array Value} {vl vu vs : Value} {Q : Value → Shared → Prop} (ht : PyProof.Rows.IsTup s.heap t items) (hs : s.heap.IsSliceOf sl vl vu vs) (pl : IsPart vl none) (pu : IsPart vu none) (ps : IsPart vs (some (-1)))
    (h : Q (.ref s.heap.objs.size) { s with heap := s.heap.push { cls := .type "tuple", data := .seq items.toList.reverse.toArray } }) (hsz : items.size ≤ sizeLine) : wpAny (model prog w) A (getItem (.ref t) (.ref sl)) Q E s := by
  obtain ⟨os, hos, hcs, hds⟩ := id hs
  have hTs : s.TypeIs (.ref sl) "slice" := ⟨os, hos, hcs⟩
  have hz : sizeOk (.seq items.toList.reverse.toArray) := by
    show items.toList.reverse.toArray.size ≤ sizeLine
    rw [List.size_toArray, List.length_reverse, Array.length_toList]; exact hsz
  unfold getItem
  try with_reducible refine wpAny_holding ?_
  first | refine wpAny_bind (wpAny_pure ?_) | skip
  refine wpAny_bind (wpAny_sequenceKey ht.typeIs (by decide) ?_)
  refine wpAny_bind (wpAny_callSpecial?_slot (name := Str.ofString "__getitem__") ht.typeIs PyProof.Rows.slot_tuple_getitem (wpAny_call_entry PyProof.Rows.slot_tuple_getitem ht.typeIs PyProof.Rows.entry_tuple_getitem ?_ (PyProof.Rows.args_tuple_getitem _ _)))
  show wpAny _ _ (Builtin.Tuple.tupleItemsOf (.ref t) >>= _) _ _ s
  refine wpAny_bind (PyProof.Rows.tupleItemsOf_ ht ?_)
  refine wpAny_bind (wpAny_typeOf hTs ?_)
  rw [if_pos (by decide)]
  refine wpAny_bind (applied_rev hs pl pu ps ?_)
  have hno : ¬ (((((items.size : Nat) : Int) - 1) == 0 && (-1 : Int) == 1 && items.size == items.size) = true) := by simp
  show wpAny _ _ (if ((((items.size : Nat) : Int) - 1) == 0 && (-1 : Int) == 1 && items.size == items.size) = true then _ else _) _ _ s
  rw [if_neg hno]
  have e : ((List.range items.size).filterMap fun (k : Nat) => items[(((items.size : Nat) : Int) - 1 + (k : Int) * -1).toNat]?).toArray = items.toList.reverse.toArray := by
    have := pick_rev items.toList items.size (by rw [Array.length_toList]; exact Nat.le_refl _)
    simp only [Array.getElem?_toList] at this
    rw [this, ← Array.length_toList, List.take_length]
  rw [e]
  first
    | exact wpAny_bind (m := Builtin.Tuple.tupleExact _) (wpAny_newObj_type (wpAny_pure ⟨_, rfl, wpAny_pure h⟩) hz)
    | exact wpAny_bind (wpAny_bind (m := Builtin.Tuple.tupleExact _) (wpAny_newObj_type (wpAny_pure ⟨_, rfl, wpAny_pure h⟩) hz))
end
def tRevT (K : PySem.W.Frag) (te : TE) : TE := fun σ H Q => te σ H fun x H1 => rD1 K revD x H1 Q
theorem pe_revT {k : Nat} {p1 p2 p3 : Pos} {te : TE} (he : PE X a te) : PE X (.Subscript a (.Slice none none (some (.UnaryOp .USub (.Constant (.int 1) k p1) p2)) p3) pos) (tRevT X.K te) := by
  refine ⟨fun pins s σ H Q I h => ?_⟩
  refine PyProof.Rows.Subscript_ (thn (he.run pins s σ H _ I h) fun v s1 ⟨x, H1, I1, r1, q1⟩ => ?_)
  obtain ⟨H0, d, t, sm, hd, et, g⟩ := q1
  have hst : PO X (some (.UnaryOp .USub (.Constant (.int 1) k p1) p2)) (tPart (tUn (rU fun i => .int (-i)) (tC (.int 1)))) := po_some (pe_un un_neg pe_int)
  refine wpAny_Slice (thn (po_none.run pins s1 σ H1 (fun o H2 => o = none ∧ H2 = H1) I1 ⟨rfl, rfl⟩) fun vl s2 ⟨l, H2, I2, pl, el, e2⟩ => ?_)
  subst el e2
  refine thn (po_none.run pins s2 σ H2 (fun o H3 => o = none ∧ H3 = H2) I2 ⟨rfl, rfl⟩) fun vu s3 ⟨u, H3, I3, pu, eu, e3⟩ => ?_
  subst eu e3
  refine thn (hst.run pins s3 σ H3 (fun o H4 => o = some (-1) ∧ H4 = H3) I3 ⟨1, rfl, -1, rfl, rfl, rfl⟩) fun vs s4 ⟨o, H4, I4, ps, eo, e4⟩ => ?_
  subst eo e4
  have I5 : Inv X pins σ H4 { s4 with heap := s4.heap.push { cls := .type "slice", data := .fields #[vl, vu, vs] } } := I4.kept (t' := s4.toks) fun b ob q => Heap.get?_push_of_some _ q
  cases d with
  | tup xs =>
    cases (show some _ = some t from et)
    obtain ⟨p, ws, ev, h1, h1', rr⟩ := hd.tup sm
    subst ev
    cases r1
    obtain ⟨its, r, ht, hz⟩ := I5.tuple h1.sq
    have hl := r.length
    show wpAny (model X.prog X.w) X.A (PyProof.Rows.subscriptTail a (.Slice none none (some (.UnaryOp .USub (.Constant (.int 1) k p1) p2)) p3) (.ref p) (.ref s4.heap.objs.size)) (EP X pins σ Q) X.xe { s4 with heap := s4.heap.push { cls := .type "slice", data := .fields #[vl, vu, vs] } }
    refine PyProof.Rows.tail_any (ops := [.ref p, .ref s4.heap.objs.size]) ht.typeIs PyProof.Rows.slot_tuple_getitem.lookup ?_ (by with_unfolding_all rfl)
    refine getItem_tup_rev ht (Heap.IsSliceOf.new _ vl vu vs) pl pu ps ?_ (by rw [List.size_toArray]; omega)
    exact newT I5 r.reverse (by rw [List.length_reverse]; exact hz) fun p o n hd => gives_tup sm g n hd rr.reverse
  | lst xs =>
    cases (show some _ = some t from et)
    obtain ⟨p, ws, ev, h1, rr⟩ := hd.lst sm
    subst ev
    cases r1
    obtain ⟨its, r, ht, hz⟩ := I5.list (SqL.of h1)
    have hl := r.length
    show wpAny (model X.prog X.w) X.A (PyProof.Rows.subscriptTail a (.Slice none none (some (.UnaryOp .USub (.Constant (.int 1) k p1) p2)) p3) (.ref p) (.ref s4.heap.objs.size)) (EP X pins σ Q) X.xe { s4 with heap := s4.heap.push { cls := .type "slice", data := .fields #[vl, vu, vs] } }
    refine PyProof.Rows.tail_any (ops := [.ref p, .ref s4.heap.objs.size]) ht.isList.typeIs PySem.slot_list_getitem.lookup ?_ (by with_unfolding_all rfl)
    refine wpAny_getItem_list_slice ht.isList (Heap.IsSliceOf.new _ vl vu vs) pl pu ps (by decide) ?_ (by rw [List.size_toArray]; omega)
    rw [PySem.W.krv_pick]
    exact ⟨.ref _, _, I5.laid (t' := s4.toks) (o := .lst ws.reverse) (fun b ob q => Heap.get?_push_of_some _ q) (Nat.le_refl _) ⟨by rw [List.length_reverse]; exact hz, _, 0, r.reverse, Heap.get?_push_size _ rfl⟩, rfl,
      gives_lst sm g (I5.hok.fresh (Nat.le_refl _)) rr.reverse⟩
  | _ => cases et
theorem ve_rev {k : Nat} {p1 p2 p3 : Pos} (ha : VE X W a fa) : VE X W (.Subscript a (.Slice none none (some (.UnaryOp .USub (.Constant (.int 1) k p1) p2)) p3) pos) (dUn revD fa) := by
  refine pe_imp (pe_revT ha) fun σ H Q ⟨H0, e, w, h⟩ => ?_
  exact tE_then w h fun t1 e1 v1 H01 H1 q1 w1 a1 r1 h1 => fin1_of w1 a1 r1 h1
end
end VL

/-! VLh: calls of builtins by value. -/
namespace VL
open PySem PySem.Spec L2

theorem CallR.imp {X : Cx} {c : Value} {r r' : List V → Hp → VK → Prop} (h : CallR X c r) (i : ∀ xs H Q, r' xs H Q → r xs H Q) : CallR X c r' := fun pins s σ H xs us Q I rv q => h pins s σ H xs us Q I rv (i xs H Q q)
def f1 (f : D → Option Tg) : List D → Option Tg
  | [a] => f a
  | _ => none
def f2 (f : D → D → Option Tg) : List D → Option Tg
  | [a, b] => f a b
  | _ => none
section
variable {K : PySem.W.Frag} {H0 H : Hp}
theorem rds1 {f : D → Option Tg} {xs : List V} {Q : VK} (h : rDs K (f1 f) xs H Q) : ∃ H0 v a t, xs = [v] ∧ Same H0 H ∧ Opd K H0 H v a ∧ f a = some t ∧ Gives K H0 H t Q := by
  obtain ⟨H0, ds, t, sm, o, e, g⟩ := h
  cases o with
  | nil => cases e
  | cons o os =>
    cases os with
    | nil => exact ⟨H0, _, _, t, rfl, sm, o, e, g⟩
    | cons _ _ => cases e
theorem rds2 {f : D → D → Option Tg} {xs : List V} {Q : VK} (h : rDs K (f2 f) xs H Q) : ∃ H0 v u a b t, xs = [v, u] ∧ Same H0 H ∧ Opd K H0 H v a ∧ Opd K H0 H u b ∧ f a b = some t ∧ Gives K H0 H t Q := by
  obtain ⟨H0, ds, t, sm, o, e, g⟩ := h
  cases o with
  | nil => cases e
  | cons o os =>
    cases os with
    | nil => cases e
    | cons o2 os =>
      cases os with
      | nil => exact ⟨H0, _, _, _, _, t, rfl, sm, o, o2, e, g⟩
      | cons _ _ => cases e
end

/-! ### len, abs, int, bool, str -/
def lenD : D → Option Tg
  | .str z => if Nat.ble z.length 100000 = true then some (.fz (.int z.length)) else none
  | .tup xs => some (.fz (.int xs.length))
  | .lst xs => some (.fz (.int xs.length))
  | .scr xs => some (.fz (.int xs.length))
  | .dct xs => some (.fz (.int xs.length))
  | _ => none
def absD : D → Option Tg
  | .int i => some (.fz (.int (if i < 0 then -i else i)))
  | _ => none
def intD : D → Option Tg
  | .int i => some (.fz (.int i))
  | .bl b => some (.fz (.int (if b then 1 else 0)))
  | _ => none
def boolD : D → Option Tg
  | .int i => some (.fz (.bl (i != 0)))
  | .bl b => some (.fz (.bl b))
  | _ => none
def strD : D → Option Tg
  | .int i => if Nat.ble i.natAbs 1000000 = true then some (.fz (.str (toString i))) else none
  | .str z => some (.fz (.str z))
  | _ => none
def reprD : D → Option Tg
  | .int i => if Nat.ble i.natAbs 1000000 = true then some (.fz (.str (toString i))) else none
  | _ => none
theorem log_small {n : Nat} (h : Nat.ble n 1000000 = true) : n.log2 < 1920 := by
  have h := Nat.le_of_ble_eq_true h
  by_cases z : n = 0
  · subst z; decide
  · have := (Nat.log2_lt z (k := 1920)).mpr (Nat.lt_of_le_of_lt h (Nat.lt_of_lt_of_le (show 1000000 < 2 ^ 20 by decide) (Nat.pow_le_pow_right (by decide) (by decide))))
    exact this
section
variable {X : Cx} {k : Nat}
theorem cr_len : CallR X (.builtin "len") (rDs X.K (f1 lenD)) := by
  refine CallR.imp (CallR.or call_len call_lenD) fun xs H Q h => ?_
  obtain ⟨H0, v, a, t, rfl, sm, o, e, g⟩ := rds1 h
  cases a with
  | str z =>
    have e : (if Nat.ble z.length 100000 = true then some (Tg.fz (.int z.length)) else none) = some t := e
    by_cases hz : Nat.ble z.length 100000 = true
    · rw [if_pos hz] at e
      cases e
      have := o.str
      subst this
      exact .inl ⟨_, _, rfl, ⟨ble100000 hz, rfl⟩, gives_fz sm g (.int _)⟩
    · rw [if_neg hz] at e; cases e
  | tup ds =>
    cases (show some _ = some t from e)
    obtain ⟨p, vs, rfl, h1, _, r⟩ := o.tup sm
    exact .inl ⟨_, _, rfl, .inr ⟨_, h1.sq, rfl⟩, by rw [r.length]; exact gives_fz sm g (.int _)⟩
  | lst ds =>
    cases (show some _ = some t from e)
    obtain ⟨p, vs, rfl, h1, r⟩ := o.lst sm
    exact .inl ⟨_, _, rfl, .inl ⟨_, SqL.of h1, rfl⟩, by rw [r.length]; exact gives_fz sm g (.int _)⟩
  | scr ds =>
    cases (show some _ = some t from e)
    obtain ⟨p, rfl, h1⟩ := o.scr sm
    exact .inl ⟨_, _, rfl, .inl ⟨_, h1, rfl⟩, by rw [List.length_map]; exact gives_fz sm g (.int _)⟩
  | dct ds =>
    cases (show some _ = some t from e)
    obtain ⟨p, vs, rfl, h1, r⟩ := o.dct sm
    exact .inr ⟨_, _, rfl, h1, by rw [r.length]; exact gives_fz sm g (.int _)⟩
  | _ => cases e
theorem cr_abs : CallR X (.builtin "abs") (rDs X.K (f1 absD)) := by
  refine CallR.imp call_abs fun xs H Q h => ?_
  obtain ⟨H0, v, a, t, rfl, sm, o, e, g⟩ := rds1 h
  cases a with
  | int i => cases (show some _ = some t from e); exact ⟨i, by rw [o.int], gives_fz sm g (.int _)⟩
  | _ => cases e
theorem cr_int : CallR X (.type "int") (rDs X.K (f1 intD)) := by
  refine CallR.imp call_int1 fun xs H Q h => ?_
  obtain ⟨H0, v, a, t, rfl, sm, o, e, g⟩ := rds1 h
  cases a with
  | int i => cases (show some _ = some t from e); exact .inl ⟨i, by rw [o.int], gives_fz sm g (.int _)⟩
  | bl i => cases (show some _ = some t from e); exact .inr ⟨i, by rw [o.bl], gives_fz sm g (.int _)⟩
  | _ => cases e
theorem cr_bool : CallR X (.type "bool") (rDs X.K (f1 boolD)) := by
  refine CallR.imp call_bool1 fun xs H Q h => ?_
  obtain ⟨H0, v, a, t, rfl, sm, o, e, g⟩ := rds1 h
  cases a with
  | int i => cases (show some _ = some t from e); exact .inl ⟨i, by rw [o.int], gives_fz sm g (.bl _)⟩
  | bl i => cases (show some _ = some t from e); exact .inr ⟨i, by rw [o.bl], gives_fz sm g (.bl _)⟩
  | _ => cases e
theorem cr_str : CallR X (.type "str") (rDs X.K (f1 strD)) := by
  refine CallR.imp (CallR.or call_str_int SkE.call_str_str) fun xs H Q h => ?_
  obtain ⟨H0, v, a, t, rfl, sm, o, e, g⟩ := rds1 h
  cases a with
  | int i =>
    have e : (if Nat.ble i.natAbs 1000000 = true then some (Tg.fz (.str (toString i))) else none) = some t := e
    by_cases z : Nat.ble i.natAbs 1000000 = true
    · rw [if_pos z] at e; cases e
      exact .inl ⟨i, by rw [o.int], log_small z, gives_fz sm g (.str _)⟩
    · rw [if_neg z] at e; cases e
  | str i => cases (show some _ = some t from e); exact .inr ⟨i, by rw [o.str], gives_fz sm g (.str _)⟩
  | _ => cases e
theorem cr_repr : CallR X (.builtin "repr") (rDs X.K (f1 reprD)) := by
  refine CallR.imp SkE.call_repr_int fun xs H Q h => ?_
  obtain ⟨H0, v, a, t, rfl, sm, o, e, g⟩ := rds1 h
  cases a with
  | int i =>
    have e : (if Nat.ble i.natAbs 1000000 = true then some (Tg.fz (.str (toString i))) else none) = some t := e
    by_cases z : Nat.ble i.natAbs 1000000 = true
    · rw [if_pos z] at e; cases e
      exact ⟨i, by rw [o.int], log_small z, gives_fz sm g (.str _)⟩
    · rw [if_neg z] at e; cases e
  | _ => cases e

/-! ### all, any, sum, max, min -/
def allD : D → Option Tg
  | .lst ds => (blsOf ds).map fun bs => .fz (.bl (bs.all id))
  | _ => none
def anyD : D → Option Tg
  | .lst ds => (blsOf ds).map fun bs => .fz (.bl (bs.any id))
  | _ => none
def sumD : D → Option Tg
  | .lst ds => (intsOf ds).map fun ns => .fz (.int ns.sum)
  | _ => none
theorem cr_allD (hc : X.calm = true) : CallR X (.builtin "all") (rDs X.K (f1 allD)) := by
  refine CallR.imp (cr_all hc) fun xs H Q h => ?_
  obtain ⟨H0, v, a, t, rfl, sm, o, e, g⟩ := rds1 h
  cases a with
  | lst ds =>
    have e : (blsOf ds).map (fun bs => Tg.fz (.bl (bs.all id))) = some t := e
    cases q : blsOf ds with
    | none => rw [q] at e; cases e
    | some bs =>
      rw [q] at e
      cases e
      obtain ⟨p, vs, rfl, h1, r⟩ := o.lst sm
      rw [blsOf_eq q] at r
      have := r.bls
      subst this
      exact ⟨p, bs, rfl, SqL.of h1, gives_fz sm g (.bl _)⟩
  | _ => cases e
theorem cr_anyD (hc : X.calm = true) : CallR X (.builtin "any") (rDs X.K (f1 anyD)) := by
  refine CallR.imp (cr_any hc) fun xs H Q h => ?_
  obtain ⟨H0, v, a, t, rfl, sm, o, e, g⟩ := rds1 h
  cases a with
  | lst ds =>
    have e : (blsOf ds).map (fun bs => Tg.fz (.bl (bs.any id))) = some t := e
    cases q : blsOf ds with
    | none => rw [q] at e; cases e
    | some bs =>
      rw [q] at e
      cases e
      obtain ⟨p, vs, rfl, h1, r⟩ := o.lst sm
      rw [blsOf_eq q] at r
      have := r.bls
      subst this
      exact ⟨p, bs, rfl, SqL.of h1, gives_fz sm g (.bl _)⟩
  | _ => cases e
theorem cr_sumD (hc : X.calm = true) : CallR X (.builtin "sum") (rDs X.K (f1 sumD)) := by
  refine CallR.imp (cr_sum hc) fun xs H Q h => ?_
  obtain ⟨H0, v, a, t, rfl, sm, o, e, g⟩ := rds1 h
  cases a with
  | lst ds =>
    have e : (intsOf ds).map (fun bs => Tg.fz (.int bs.sum)) = some t := e
    cases q : intsOf ds with
    | none => rw [q] at e; cases e
    | some bs =>
      rw [q] at e
      cases e
      obtain ⟨p, vs, rfl, h1, r⟩ := o.lst sm
      rw [intsOf_eq q] at r
      have := r.ints
      subst this
      exact ⟨p, bs, rfl, SqL.of h1, gives_fz sm g (.int _)⟩
  | _ => cases e
def maxI : List Int → Option Tg
  | [] => none
  | n :: ns => some (.fz (.int (ns.foldl max n)))
def minI : List Int → Option Tg
  | [] => none
  | n :: ns => some (.fz (.int (ns.foldl min n)))
def itemsD : D → Option (List D)
  | .lst ds => some ds
  | .tup ds => some ds
  | _ => none
def max1 (d : D) : Option Tg := ((itemsD d).bind intsOf).bind maxI
def min1 (d : D) : Option Tg := ((itemsD d).bind intsOf).bind minI
def max2 : D → D → Option Tg
  | .int i, .int j => some (.fz (.int (if j > i then j else i)))
  | _, _ => none
def min2 : D → D → Option Tg
  | .int i, .int j => some (.fz (.int (if j < i then j else i)))
  | _, _ => none
/-- the items of a list or a tuple, with where they stand -/
theorem Opd.items {H0 H : Hp} {v : V} {d : D} {ds : List D} (s : Same H0 H) (o : Opd X.K H0 H v d) (h : itemsD d = some ds) : ∃ a vs, v = .ref a ∧ Reps X.K H0 vs ds ∧ (SqL X.K H a vs ∨ SqT X.K H a vs) := by
  cases d with
  | lst xs =>
    cases (show some _ = some ds from h)
    obtain ⟨p, vs, rfl, h1, r⟩ := o.lst s
    exact ⟨p, vs, rfl, r, .inl (SqL.of h1)⟩
  | tup xs =>
    cases (show some _ = some ds from h)
    obtain ⟨p, vs, rfl, h1, _, r⟩ := o.tup s
    exact ⟨p, vs, rfl, r, .inr h1.sq⟩
  | _ => cases h
theorem ints_alike (ns : List Int) : PySem.W.AlikeAll (ns.map PyData.int) := by
  refine ⟨fun a ha b hb => ?_, fun a ha => ?_⟩
  · obtain ⟨i, _, rfl⟩ := List.mem_map.mp ha
    obtain ⟨j, _, rfl⟩ := List.mem_map.mp hb
    rfl
  · obtain ⟨i, _, rfl⟩ := List.mem_map.mp ha
    intro z; cases z
theorem plain_ints : ∀ ns : List Int, PyData.plainAll (ns.map PyData.int) = true
  | [] => rfl
  | n :: ns => by
    rw [List.map_cons, PyData.plainAll, plain_ints ns]
    rfl
theorem pys_ints : ∀ ns : List Int, D.pys (ns.map D.int) = ns.map PyData.int
  | [] => by rw [List.map_nil, D.pys]; rfl
  | n :: ns => by rw [List.map_cons, D.pys, D.py, pys_ints ns]; rfl
theorem cr_min1 (hc : X.calm = true) (hr : Room k X.A) : CallR X (.builtin "min") (rDs X.K (f1 min1)) := by
  intro pins s σ H xs us Q I rv h
  obtain ⟨H0, v, a, t, rfl, sm, o, e, g⟩ := rds1 h
  have e : ((itemsD a).bind intsOf).bind minI = some t := e
  cases q1 : itemsD a with
  | none => rw [q1] at e; cases e
  | some ds =>
    rw [q1] at e
    have e : (intsOf ds).bind minI = some t := e
    cases q2 : intsOf ds with
    | none => rw [q2] at e; cases e
    | some ns =>
      rw [q2] at e
      cases ns with
      | nil => cases e
      | cons n ns =>
        cases (show some _ = some t from e)
        obtain ⟨p, vs, rfl, r, sq⟩ := o.items sm q1
        obtain ⟨u, rfl, ru⟩ := vals1 rv
        cases ru
        rw [intsOf_eq q2] at r
        have ev := r.ints
        subst ev
        have dp : DpAll X.K H ((n :: ns).map V.int) ((n :: ns).map PyData.int) := by
          have := (Reps.mono sm r).dp (by rw [pys_ints]; exact plain_ints _)
          rw [pys_ints] at this
          exact this
        have hu : X.A.units + 1 + PyData.depthAll (.int n :: ns.map PyData.int) < cLine := by
          rw [show (PyData.int n :: ns.map PyData.int) = (n :: ns).map PyData.int from rfl, PySem.W.depth_ints]
          have := hr.un; omega
        have fin : ∀ (w : Value) (h' : Heap) (tk : Nat) (bs : List Addr), Reads h' w (PySem.W.minD (.int n) (ns.map PyData.int)) bs → (∀ b o, s.heap.get? b = some o → h'.get? b = some o) → EP X pins σ Q w { s with heap := h', toks := tk } := fun w h' tk bs rd kp => by
          rw [PySem.W.minD_ints] at rd
          cases rd
          exact ⟨.int _, H, I.kept kp, ⟨_, rfl⟩, gives_fz sm g (.int _)⟩
        rcases sq with sq | sq
        · obtain ⟨its, rv', pl, _⟩ := I.list sq
          obtain ⟨as, ra⟩ := Dp.readsAll I _ _ its dp rv'
          exact PySem.W.min_list_data (I.ok.hd hc) pl.isList (x := .int n) (xs := ns.map PyData.int) (by simpa using ra) (ints_alike (n :: ns)) hu fun i w h' tk bs _ rd kp => fin w h' tk bs rd kp
        · obtain ⟨its, rv', pl, _⟩ := I.tuple sq
          obtain ⟨as, ra⟩ := Dp.readsAll I _ _ its dp rv'
          exact PySem.W.min_tuple_data (I.ok.hd hc) (show s.heap.IsTuple p its.toArray from pl) (x := .int n) (xs := ns.map PyData.int) (by simpa using ra) (ints_alike (n :: ns)) hu fun i w h' tk bs _ rd kp => fin w h' tk bs rd kp
theorem cr_max1 (hc : X.calm = true) (hr : Room k X.A) : CallR X (.builtin "max") (rDs X.K (f1 max1)) := by
  intro pins s σ H xs us Q I rv h
  obtain ⟨H0, v, a, t, rfl, sm, o, e, g⟩ := rds1 h
  have e : ((itemsD a).bind intsOf).bind maxI = some t := e
  cases q1 : itemsD a with
  | none => rw [q1] at e; cases e
  | some ds =>
    rw [q1] at e
    have e : (intsOf ds).bind maxI = some t := e
    cases q2 : intsOf ds with
    | none => rw [q2] at e; cases e
    | some ns =>
      rw [q2] at e
      cases ns with
      | nil => cases e
      | cons n ns =>
        cases (show some _ = some t from e)
        obtain ⟨p, vs, rfl, r, sq⟩ := o.items sm q1
        obtain ⟨u, rfl, ru⟩ := vals1 rv
        cases ru
        rw [intsOf_eq q2] at r
        have ev := r.ints
        subst ev
        have dp : DpAll X.K H ((n :: ns).map V.int) ((n :: ns).map PyData.int) := by
          have := (Reps.mono sm r).dp (by rw [pys_ints]; exact plain_ints _)
          rw [pys_ints] at this
          exact this
        have hu : X.A.units + 1 + PyData.depthAll (.int n :: ns.map PyData.int) < cLine := by
          rw [show (PyData.int n :: ns.map PyData.int) = (n :: ns).map PyData.int from rfl, PySem.W.depth_ints]
          have := hr.un; omega
        have fin : ∀ (w : Value) (h' : Heap) (tk : Nat) (bs : List Addr), Reads h' w (PySem.W.maxD (.int n) (ns.map PyData.int)) bs → (∀ b o, s.heap.get? b = some o → h'.get? b = some o) → EP X pins σ Q w { s with heap := h', toks := tk } := fun w h' tk bs rd kp => by
          rw [PySem.W.maxD_ints] at rd
          cases rd
          exact ⟨.int _, H, I.kept kp, ⟨_, rfl⟩, gives_fz sm g (.int _)⟩
        rcases sq with sq | sq
        · obtain ⟨its, rv', pl, _⟩ := I.list sq
          obtain ⟨as, ra⟩ := Dp.readsAll I _ _ its dp rv'
          exact PySem.W.max_list_data (I.ok.hd hc) pl.isList (x := .int n) (xs := ns.map PyData.int) (by simpa using ra) (ints_alike (n :: ns)) hu fun i w h' tk bs _ rd kp => fin w h' tk bs rd kp
        · obtain ⟨its, rv', pl, _⟩ := I.tuple sq
          obtain ⟨as, ra⟩ := Dp.readsAll I _ _ its dp rv'
          exact PySem.W.max_tuple_data (I.ok.hd hc) (show s.heap.IsTuple p its.toArray from pl) (x := .int n) (xs := ns.map PyData.int) (by simpa using ra) (ints_alike (n :: ns)) hu fun i w h' tk bs _ rd kp => fin w h' tk bs rd kp
theorem cr_max2 (hc : X.calm = true) : CallR X (.builtin "max") (rDs X.K (f2 max2)) := by
  refine CallR.imp (call_max2 hc) fun xs H Q h => ?_
  obtain ⟨H0, v, u, a, b, t, rfl, sm, o, o2, e, g⟩ := rds2 h
  cases a <;> cases b <;> first | (cases e; done) | skip
  cases (show some _ = some t from e)
  exact ⟨_, _, by rw [o.int, o2.int], gives_fz sm g (.int _)⟩
theorem cr_min2 (hc : X.calm = true) : CallR X (.builtin "min") (rDs X.K (f2 min2)) := by
  refine CallR.imp (call_min2 hc) fun xs H Q h => ?_
  obtain ⟨H0, v, u, a, b, t, rfl, sm, o, o2, e, g⟩ := rds2 h
  cases a <;> cases b <;> first | (cases e; done) | skip
  cases (show some _ = some t from e)
  exact ⟨_, _, by rw [o.int, o2.int], gives_fz sm g (.int _)⟩

/-! ### list, tuple -/
def seqD : D → Option (List D)
  | .lst ds => some ds
  | .tup ds => some ds
  | .scr ns => some (ns.map D.int)
  | _ => none
theorem Opd.seq {H0 H : Hp} {v : V} {d : D} {ds : List D} (s : Same H0 H) (o : Opd X.K H0 H v d) (h : seqD d = some ds) : ∃ a vs, v = .ref a ∧ Reps X.K H0 vs ds ∧ (SqL X.K H a vs ∨ SqT X.K H a vs) := by
  cases d with
  | lst xs =>
    cases (show some _ = some ds from h)
    obtain ⟨p, vs, rfl, h1, r⟩ := o.lst s
    exact ⟨p, vs, rfl, r, .inl (SqL.of h1)⟩
  | tup xs =>
    cases (show some _ = some ds from h)
    obtain ⟨p, vs, rfl, h1, _, r⟩ := o.tup s
    exact ⟨p, vs, rfl, r, .inr h1.sq⟩
  | scr xs =>
    cases (show some _ = some ds from h)
    obtain ⟨p, rfl, h1⟩ := o.scr s
    exact ⟨p, _, rfl, Reps.of_ints _, .inl h1⟩
  | _ => cases h
def listD (d : D) : Option Tg := (seqD d).map fun ds => .nw (.lst ds)
def tupleD : D → Option Tg
  | .tup ds => some (.fz (.tup ds))
  | .lst ds => some (.fz (.tup ds))
  | .scr ns => some (.fz (.tup (ns.map D.int)))
  | _ => none
theorem cr_list : CallR X (.type "list") (rDs X.K (f1 listD)) := by
  refine CallR.imp call_list_of fun xs H Q h => ?_
  obtain ⟨H0, v, a, t, rfl, sm, o, e, g⟩ := rds1 h
  have e : (seqD a).map (fun ds => Tg.nw (.lst ds)) = some t := e
  cases q : seqD a with
  | none => rw [q] at e; cases e
  | some ds =>
    rw [q] at e
    cases e
    obtain ⟨p, vs, rfl, r, sq⟩ := o.seq sm q
    exact ⟨p, vs, rfl, sq, fun l n => gives_lst sm g n r⟩
theorem cr_tuple : CallR X (.type "tuple") (rDs X.K (f1 tupleD)) := by
  intro pins s σ H xs us Q I rv h
  obtain ⟨H0, v, a, t, rfl, sm, o, e, g⟩ := rds1 h
  obtain ⟨u, rfl, rx⟩ := vals1 rv
  have lst : ∀ {p : Addr} {vs : List V} {ds : List D}, v = .ref p → SqL X.K H p vs → Reps X.K H0 vs ds → t = .fz (.tup ds) → wpAny (model X.prog X.w) X.A (call (.type "tuple") [u]) (EP X pins σ Q) X.xe s := fun {p vs ds} ev sq r et => by
    subst ev et
    cases rx
    obtain ⟨its, r', pl, hz⟩ := I.list sq
    have hlen := r'.length
    refine call_tuple_list pl.isList (fun h' kp => ?_) (by simp only [List.size_toArray] <;> omega)
    have I1 : Inv X pins σ H { s with heap := h' } := I.kept (t' := s.toks) kp
    exact newT I1 r' hz fun p o n hd => gives_tup sm g n hd r
  cases a with
  | tup ds =>
    cases (show some _ = some t from e)
    obtain ⟨p, vs, rfl, h1, h0, r⟩ := o.tup sm
    cases rx
    obtain ⟨its, r', pl, hz⟩ := I.tuple h1.sq
    exact call_tuple_same pl ⟨.ref p, H, I, rfl, gives_fz sm g (.tup h0 r)⟩
  | lst ds =>
    cases (show some _ = some t from e)
    obtain ⟨p, vs, rfl, h1, r⟩ := o.lst sm
    exact lst rfl (SqL.of h1) r rfl
  | scr ns =>
    cases (show some _ = some t from e)
    obtain ⟨p, rfl, h1⟩ := o.scr sm
    exact lst rfl h1 (Reps.of_ints _) rfl
  | _ => cases e

/-! ### isinstance -/
inductive Ty where
  | int | bool | str | tuple | list
def Ty.nm : Ty → String
  | .int => "int"
  | .bool => "bool"
  | .str => "str"
  | .tuple => "tuple"
  | .list => "list"
def isiD : Ty → D → Option Bool
  | .int, .int _ => some true
  | .int, .bl _ => some true
  | .bool, .bl _ => some true
  | .str, .str _ => some true
  | .tuple, .tup _ => some true
  | .list, .lst _ => some true
  | .list, .scr _ => some true
  | _, .dct _ => none
  | _, .ins _ _ => none
  | _, _ => some false
def isiT (T : Ty) (d : D) : Option Tg := (isiD T d).map fun b => .fz (.bl b)
def tyN : D → String
  | .non => "NoneType"
  | .bl _ => "bool"
  | .int _ => "int"
  | .str _ => "str"
  | .tup _ => "tuple"
  | .lst _ => "list"
  | .scr _ => "list"
  | .dct _ => "dict"
  | .ins _ _ => ""
theorem sq_ty {K : PySem.W.Frag} {H : Hp} {a : Addr} {vs : List V} (h : SqL K H a vs) : TyX K H (.ref a) (.type "list") := by
  rcases h with (h | ⟨o, h⟩) | h
  · exact .base (.lst h)
  · exact .base (.frz h)
  · obtain ⟨o, its, n, h1, h2, _⟩ := h
    exact .kList h1 h2
theorem tup_ty {K : PySem.W.Frag} {H : Hp} {a : Addr} {vs : List V} (h : TupX K H a vs) : TyX K H (.ref a) (.type "tuple") := by
  rcases h with ⟨o, h, _⟩ | ⟨o, its, n, h1, h2, _⟩
  · exact .fTuple h
  · exact .kTuple h1 h2
theorem Opd.ty {H0 H : Hp} {v : V} {d : D} (s : Same H0 H) (o : Opd X.K H0 H v d) (h : tyN d ≠ "" ∧ tyN d ≠ "dict") : TyX X.K H v (.type (tyN d)) := by
  cases d with
  | non => rw [o.non]; exact .base .non
  | bl b => rw [o.bl]; exact .base (.bl b)
  | int b => rw [o.int]; exact .base (.int b)
  | str b => rw [o.str]; exact .base (.str b)
  | tup ds => obtain ⟨p, vs, rfl, h1, _, r⟩ := o.tup s; exact tup_ty h1
  | lst ds => obtain ⟨p, vs, rfl, h1, r⟩ := o.lst s; exact .base (.lst h1)
  | scr ds => obtain ⟨p, rfl, h1⟩ := o.scr s; exact sq_ty h1
  | dct ds => exact (h.2 rfl).elim
  | ins c fs => exact (h.1 rfl).elim
theorem isi_kit {T : Ty} {d : D} {b : Bool} (h : isiD T d = some b) : (tyN d ≠ "" ∧ tyN d ≠ "dict") ∧ kitB (tyN d) T.nm = some b := by
  cases T <;> cases d <;> first | (cases h; done) | (cases h; exact ⟨⟨by simp [tyN], by simp [tyN]⟩, by simp only [tyN, Ty.nm]; decide +kernel⟩)
end
section
variable {X : Cx} {W : WX} {a : Expr} {fa : Fe} {p p2 pos : Pos}
theorem ve_isi (T : Ty) (hm : X.mg "isinstance" = none) (hmT : X.mg T.nm = none) (ha : VE X W a fa) (hg : Gl X "isinstance" := by rfl) (hgT : Gl X (Str.ofString T.nm) := by rfl)
    (he : ∀ es, es = [Expr.Name (Str.ofString T.nm) p2] → starEach (a :: es) X.env = (false, eval a X.env) :: starEach es X.env := by intro _ h; subst h; rfl) (he2 : starEach [Expr.Name (Str.ofString T.nm) p2] X.env = [(false, eval (Expr.Name (Str.ofString T.nm) p2) X.env)] := by rfl)
    (hpl : (backTo pos (starEach [Expr.Name (Str.ofString T.nm) p2] X.env)).any (·.1) = false := by rfl) :
    VE X W (.Call (.Name "isinstance" p) [a, .Name (Str.ofString T.nm) p2] [] pos) (dUn (isiT T) fa) := by
  have hT : PE X (.Name (Str.ofString T.nm) p2) (tC (.ty T.nm)) := by
    cases T <;> exact pe_bltn (u := .type _) hgT hmT (by with_unfolding_all rfl) rfl
  have hargs : PA X [a, .Name (Str.ofString T.nm) p2] (tCons (tE X.K W fa) (tCons (tC (.ty T.nm)) tNil)) := pa_cons ha (pa_cons hT pa_nil he2) (he _ rfl)
  refine pe_imp (pe_callB call_isi hg hm (by with_unfolding_all rfl) hargs (by decide) (by decide) (he _ rfl) hpl) fun σ H Q ⟨H0, e, w, h⟩ => ?_
  refine tE_then w h fun t1 e1 v1 H01 H1 q1 w1 a1 r1 h1 => ?_
  obtain ⟨H02, d, t, sm, o, e, g⟩ := fin1_of w1 a1 r1 h1
  have e : (isiD T d).map (fun b => Tg.fz (.bl b)) = some t := e
  cases q : isiD T d with
  | none => rw [q] at e; cases e
  | some b =>
    rw [q] at e
    cases e
    obtain ⟨z1, z2⟩ := isi_kit q
    exact ⟨v1, .ty T.nm, .type (tyN d), .type T.nm, b, rfl, .ty _, o.ty sm z1, kit_ty z2, gives_fz sm g (.bl _)⟩
end
end VL

/-! VLi: statements by value: set, unpack, if, return, while, for. -/
namespace VL
open PySem PySem.Spec L2

inductive RS where
  | nx (e : En) | rt (t : Tg) (e : En) | bk (e : En) | ct (e : En) | ex (x : Er) (e : En) | bad
abbrev Fs := En → RS
def Rz.to {α : Type} : Rz α → (α → En → RS) → RS
  | .ok a e, k => k a e
  | .ex x e, _ => .ex x e
  | .bad, _ => .bad
@[simp] theorem Rz.to_ok {α : Type} (a : α) (e : En) (k : α → En → RS) : (Rz.ok a e).to k = k a e := rfl
@[simp] theorem Rz.to_ex {α : Type} (x : Er) (e : En) (k : α → En → RS) : (Rz.ex x e : Rz α).to k = .ex x e := rfl
@[simp] theorem Rz.to_bad {α : Type} (k : α → En → RS) : (Rz.bad : Rz α).to k = .bad := rfl
def RS.andThen : RS → (En → RS) → RS
  | .nx e, k => k e
  | .rt t e, _ => .rt t e
  | .bk e, _ => .bk e
  | .ct e, _ => .ct e
  | .ex x e, _ => .ex x e
  | .bad, _ => .bad
/-- behind a loop's body -/
def RS.turn : RS → (En → RS) → RS
  | .nx e, k => k e
  | .ct e, k => k e
  | .bk e, _ => .nx e
  | .rt t e, _ => .rt t e
  | .ex x e, _ => .ex x e
  | .bad, _ => .bad

section
variable (K : PySem.W.Frag)
def GyS (W : WX) (σ : L2.St) (H0 H : Hp) (e : En) (r : RS) (D : Ends) : Prop :=
  match r with
  | .nx e' => ∀ σ' H0' H', Wd K H0' H' σ' e' → After K H0 H σ e H0' H' σ' e' → D.nx σ' H'
  | .bk e' => ∀ σ' H0' H', Wd K H0' H' σ' e' → After K H0 H σ e H0' H' σ' e' → D.bk σ' H'
  | .ct e' => ∀ σ' H0' H', Wd K H0' H' σ' e' → After K H0 H σ e H0' H' σ' e' → D.ct σ' H'
  | .rt t e' => ∀ v σ' H0' H', Wd K H0' H' σ' e' → After K H0 H σ e H0' H' σ' e' → RepT K H0' H' H σ' e' v t → D.rt v H'
  | .ex x e' => ∀ dx σ' H0' H', Wd K H0' H' σ' e' → After K H0 H σ e H0' H' σ' e' → ErrAt K H0' H' dx x → W (.ref (He.ga K x.c)) (some dx) σ' H'
  | .bad => False
def tS (W : WX) (f : Fs) : TS := fun D σ H => ∃ H0 e, Wd K H0 H σ e ∧ GyS K W σ H0 H e (f e) D
end
def VS (X : Cx) (W : WX) (st : Stmt) (f : Fs) : Prop := PS X st (tS X.K W f)
def VSs (X : Cx) (W : WX) (st : List Stmt) (f : Fs) : Prop := PSs X st (tS X.K W f)
theorem ps_imp {X : Cx} {e : Stmt} {t t' : TS} (h : PS X e t) (i : ∀ D σ H, t' D σ H → t D σ H) : PS X e t' := ⟨fun pins s σ H Q I q => h.run pins s σ H Q I (i Q σ H q)⟩
theorem pss_imp {X : Cx} {e : List Stmt} {t t' : TS} (h : PSs X e t) (i : ∀ D σ H, t' D σ H → t D σ H) : PSs X e t' := ⟨fun pins s σ H Q I q => h.run pins s σ H Q I (i Q σ H q)⟩

section
variable {K : PySem.W.Frag} {H0 H H01 H1 H0' H' H0s Hs : Hp} {σ σ1 σs : L2.St} {e e1 es : En} {W : WX} {Ez : Ends} {r : RS}
theorem RepT.back {Hs H1 : Hp} {v : V} {t : Tg} (thr : ∀ b o, Hs b = some o → ∃ o', H1 b = some o') (h : RepT K H0 H H1 σ e v t) : RepT K H0 H Hs σ e v t := by
  cases t with
  | fz d => exact h
  | sl i => exact h
  | nw d =>
    obtain ⟨p, h1, h2, h3⟩ := h
    refine ⟨p, h1, ?_, h3⟩
    cases q : Hs p with
    | none => rfl
    | some o =>
      obtain ⟨o', q'⟩ := thr p o q
      rw [h2] at q'; cases q'
/-- from a later place -/
theorem GyS.mid (a : After K H0 H σ e H01 H1 σ1 e1) (h : GyS K W σ H0 H e r Ez) : GyS K W σ1 H01 H1 e1 r Ez := by
  cases r with
  | nx e' => exact fun σ' H0' H' w' a' => h σ' H0' H' w' (a.trans a')
  | bk e' => exact fun σ' H0' H' w' a' => h σ' H0' H' w' (a.trans a')
  | ct e' => exact fun σ' H0' H' w' a' => h σ' H0' H' w' (a.trans a')
  | rt t e' => exact fun v σ' H0' H' w' a' q => h v σ' H0' H' w' (a.trans a') (q.back a.thr)
  | ex x e' => exact fun dx σ' H0' H' w' a' => h dx σ' H0' H' w' (a.trans a')
  | bad => exact h
theorem GyS.nx {e' : En} (w : Wd K H01 H1 σ1 e') (a : After K H0 H σ e H01 H1 σ1 e') (h : GyS K W σ H0 H e (.nx e') Ez) : Ez.nx σ1 H1 := h σ1 H01 H1 w a
/-- behind an expression -/
theorem tE_s {f : Fe} {g : Tg → En → RS} {Z : VK} (w : Wd K H0 H σ e) (h : GyS K W σ H0 H e ((f e).to g) Ez)
    (hz : ∀ t e1 v H01 H1, f e = .ok t e1 → Wd K H01 H1 σ e1 → After K H0 H σ e H01 H1 σ e1 → RepT K H01 H1 H σ e1 v t → GyS K W σ H0 H e (g t e1) Ez → Z v H1) : tE K W f σ H Z := by
  refine ⟨H0, e, w, ?_⟩
  cases q : f e with
  | ok t e1 =>
    rw [q] at h
    exact fun H01 H1 w1 a1 v r1 => hz t e1 v H01 H1 q w1 a1 r1 h
  | ex x e1 => rw [q] at h; exact fun dx H01 H1 w1 a1 x1 => h dx σ H01 H1 w1 a1 x1
  | bad => rw [q] at h; exact h
theorem tT_s {f : Ft} {g : Bool → En → RS} {Z : Bool → Hp → Prop} (w : Wd K H0 H σ e) (h : GyS K W σ H0 H e ((f e).to g) Ez)
    (hz : ∀ t e1 H01 H1, f e = .ok t e1 → Wd K H01 H1 σ e1 → After K H0 H σ e H01 H1 σ e1 → GyS K W σ H0 H e (g t e1) Ez → Z t H1) : tT K W f σ H Z := by
  refine ⟨H0, e, w, ?_⟩
  cases q : f e with
  | ok t e1 =>
    rw [q] at h
    exact fun H01 H1 w1 a1 => hz t e1 H01 H1 q w1 a1 h
  | ex x e1 => rw [q] at h; exact fun dx H01 H1 w1 a1 x1 => h dx σ H01 H1 w1 a1 x1
  | bad => rw [q] at h; exact h

/-! ### stores -/
theorem After.store {i : Nat} {s : Sl} {v : V} (w : Wd K H0 H σ e) (a : After K H0s Hs σs es H0 H σ e) (np : ∀ d, e[i]? ≠ some (.ow true d)) (hp : ∀ d, s ≠ .ow true d)
    (hn : ∀ d b, s = .ow false d → v = .ref b → Own σs es b ∨ Hs b = none) (hb : ∀ d, s ≠ .bw d := by intro _ z; cases z) : After K H0s Hs σs es H0 H (σ.set i (some v)) (e.set i s) where
  s0 := a.s0
  keep := a.keep
  off := a.off
  thr := a.thr
  own := fun b o => by
    obtain ⟨j, p, d, h1, h2⟩ := o
    rcases get_set h1 with ⟨rfl, q, l⟩ | ⟨ne, q⟩
    · rw [List.getElem?_set_self (by rw [w.len]; exact l)] at h2
      cases h2
      cases p with
      | true => exact (hp d q.symm).elim
      | false => exact hn d b q.symm rfl
    · rw [List.getElem?_set_ne ne] at h2
      exact a.own b ⟨j, p, d, q, h2⟩
  pin := fun j d' h1 => by
    rcases get_set h1 with ⟨rfl, q, l⟩ | ⟨ne, q⟩
    · exact (hp d' q.symm).elim
    · rw [List.getElem?_set_ne ne]
      exact a.pin j d' q
  pinb := fun j d' h1 => by
    rcases get_set h1 with ⟨rfl, q, l⟩ | ⟨ne, q⟩
    · exact (hb d' q.symm).elim
    · rw [List.getElem?_set_ne ne]
      exact a.pinb j d' q
theorem Own.of_store {i : Nat} {s : Sl} {v : V} (w : Wd K H0 H σ e) {b : Addr} (o : Own (σ.set i (some v)) (e.set i s) b) : Own σ e b ∨ ∃ p d, s = .ow p d ∧ v = .ref b := by
  obtain ⟨j, p, d, h1, h2⟩ := o
  rcases get_set h1 with ⟨rfl, q, l⟩ | ⟨ne, q⟩
  · rw [List.getElem?_set_self (by rw [w.len]; exact l)] at h2
    cases h2
    exact .inr ⟨p, d, q.symm, rfl⟩
  · rw [List.getElem?_set_ne ne] at h2
    exact .inl ⟨j, p, d, q, h2⟩
theorem set_get {α : Type} {xs : List α} {i : Nat} {x : α} (h : i < xs.length) : (xs.set i x)[i]? = some x := List.getElem?_set_self h
/-- the slot i gets v -/
theorem Wd.store {i : Nat} {s : Sl} {v : V} (w : Wd K H0 H σ e) (hs : match s with
    | .un => True
    | .fz d => Rep K H0 v d
    | .ow p d => ∃ a, v = .ref a ∧ OwnAt K H0 H a d ∧ (∀ j p' d', i ≠ j → e[j]? = some (.ow p' d') → σ[j]? ≠ some (some (.ref a))) ∧ ∀ (j : Nat) (b : D), i ≠ j → e[j]? = some (Sl.bw b) → σ[j]? = some (some (V.ref a)) → Rep K H0 (.ref a) b
    | .bw d => Rep K H0 v d ∨ ∃ a, v = .ref a ∧ OwnAt K H0 H a d ∧ ¬ Own σ e a) : Wd K H0 H (σ.set i (some v)) (e.set i s) where
  sub := w.sub
  len := by rw [List.length_set, List.length_set]; exact w.len
  fz := fun j d h => by
    rcases get_set h with ⟨rfl, q, l⟩ | ⟨ne, q⟩
    · subst q; exact ⟨v, set_get (by rw [w.len]; exact l), hs⟩
    · rw [List.getElem?_set_ne ne]; exact w.fz j d q
  ow := fun j p d h => by
    rcases get_set h with ⟨rfl, q, l⟩ | ⟨ne, q⟩
    · subst q
      obtain ⟨a, rfl, h2, _⟩ := hs
      exact ⟨a, set_get (by rw [w.len]; exact l), h2⟩
    · rw [List.getElem?_set_ne ne]; exact w.ow j p d q
  bw := fun j d h => by
    rcases get_set h with ⟨rfl, q, l⟩ | ⟨ne, q⟩
    · subst q
      refine ⟨v, set_get (by rw [w.len]; exact l), ?_⟩
      rcases hs with hs | ⟨a, h1, h2, h3⟩
      · exact .inl hs
      · refine .inr ⟨a, h1, h2, fun o => ?_⟩
        rcases Own.of_store w o with o | ⟨p, d, z, _⟩
        · exact h3 o
        · cases z
    · rw [List.getElem?_set_ne ne]
      obtain ⟨u, h1, h2⟩ := w.bw j d q
      refine ⟨u, h1, ?_⟩
      rcases h2 with h2 | ⟨a, q1, q2, q3⟩
      · exact .inl h2
      · by_cases z : ∃ p d', s = .ow p d' ∧ v = .ref a
        · obtain ⟨p, d', rfl, rfl⟩ := z
          obtain ⟨a', q4, _, _, h4⟩ := hs
          cases q4
          subst q1
          exact .inl (h4 j d ne q h1)
        · refine .inr ⟨a, q1, q2, fun o => ?_⟩
          rcases Own.of_store w o with o | ⟨p, d', z1, z2⟩
          · exact q3 o
          · exact z ⟨p, d', z1, z2⟩
  inj := fun j k p p' d d' a h1 h2 h3 h4 => by
    rcases get_set h1 with ⟨rfl, q, l⟩ | ⟨ne, q⟩
    · rcases get_set h2 with ⟨rfl, q', l'⟩ | ⟨ne', q'⟩
      · rfl
      · rw [set_get (by rw [w.len]; exact l)] at h3
        rw [List.getElem?_set_ne ne'] at h4
        cases h3
        subst q
        obtain ⟨a', q4, _, h5, _⟩ := hs
        cases q4
        exact (h5 k p' d' ne' q' h4).elim
    · rw [List.getElem?_set_ne ne] at h3
      rcases get_set h2 with ⟨rfl, q', l'⟩ | ⟨ne', q'⟩
      · rw [set_get (by rw [w.len]; exact l')] at h4
        cases h4
        subst q'
        obtain ⟨a', q4, _, h5, _⟩ := hs
        cases q4
        exact (h5 j p d ne q h3).elim
      · rw [List.getElem?_set_ne ne'] at h4
        exact w.inj j k p p' d d' a q q' h3 h4
end
def pinned : Option Sl → Bool
  | some (.ow true _) => true
  | none => true
  | _ => false
theorem not_pinned {o : Option Sl} (h : pinned o = false) : ∀ d, o ≠ some (.ow true d) := fun d z => by rw [z] at h; cases h
def asg (i : Nat) (t : Tg) (e : En) : RS := if pinned e[i]? = true then .bad else match t with
  | .fz d => .nx (e.set i (.fz d))
  | .nw d => .nx (e.set i (.ow false d))
  | .sl j => match e[j]? with
    | some (.fz d) => .nx (e.set i (.fz d))
    | some (.ow false d) => if d.frb = true then .nx ((e.set j (.fz d)).set i (.fz d)) else .bad
    | _ => .bad
section
variable {K : PySem.W.Frag} {H0 H H01 H1 H0' H' H0s Hs : Hp} {σ σ1 σs : L2.St} {e e1 es : En} {W : WX} {Ez : Ends} {r : RS}
theorem asg_of {i : Nat} {t : Tg} {v : V} (w : Wd K H0 H σ e) (a : After K H0s Hs σs es H0 H σ e) (r : RepT K H0 H Hs σ e v t) (h : GyS K W σs H0s Hs es (asg i t e) Ez) : Ez.nx (σ.set i (some v)) H := by
  unfold asg at h
  by_cases hp : pinned e[i]? = true
  · rw [if_pos hp] at h; exact h.elim
  · rw [if_neg hp] at h
    have np := not_pinned (o := e[i]?) (by simpa using hp)
    cases t with
    | fz d => exact h _ H0 H (w.store r) (a.store w np (fun d z => by cases z) fun d b z => by cases z)
    | nw d =>
      obtain ⟨p, rfl, h1, h2, h3, h4⟩ := r
      refine h _ H0 H (w.store ⟨p, rfl, h3, fun j p' d' ne q q' => h2 ⟨j, p', d', q, q'⟩, fun j b _ => h4 j b⟩) (a.store w np (fun d z => by cases z) fun d b z y => ?_)
      cases y; exact .inr h1
    | sl j =>
      have r' : σ[j]? = some (some v) := r
      cases q : e[j]? with
      | none => simp only [q] at h; exact h.elim
      | some s =>
        cases s with
        | un => simp only [q] at h; exact h.elim
        | fz d =>
          simp only [q] at h
          obtain ⟨v', h1, h2⟩ := w.fz j d q
          rw [r'] at h1; cases h1
          exact h _ H0 H (w.store h2) (a.store w np (fun d z => by cases z) fun d b z => by cases z)
        | bw d => simp only [q] at h; exact h.elim
        | ow p d =>
          cases p with
          | true => simp only [q] at h; exact h.elim
          | false =>
            simp only [q] at h
            by_cases hd : d.frb = true
            · rw [if_pos hd] at h
              obtain ⟨H01, v', h1, h2, w1, a1⟩ := w.freeze q hd
              rw [r'] at h1; cases h1
              have np1 : ∀ d', (e.set j (.fz d))[i]? ≠ some (.ow true d') := fun d' z => by
                rcases get_set z with ⟨_, z, _⟩ | ⟨_, z⟩
                · cases z
                · exact np d' z
              exact h _ H01 H (w1.store h2) ((a.trans a1).store w1 np1 (fun d z => by cases z) fun d b z => by cases z)
            · rw [if_neg hd] at h; exact h.elim
end

/-! ### what statements denote -/
def sNil : Fs := fun e => .nx e
def sSeq (f g : Fs) : Fs := fun e => (f e).andThen g
def sSet (i : Nat) (fa : Fe) : Fs := fun e => (fa e).to fun t e1 => asg i t e1
def sRet (fa : Fe) : Fs := fun e => (fa e).to fun t e1 => .rt t e1
def sRetN : Fs := fun e => .rt (.fz .non) e
def sDrop (fa : Fe) : Fs := fun e => (fa e).to fun _ e1 => .nx e1
def sIf (c : Ft) (a b : Fs) : Fs := fun e => (c e).to fun k e1 => match k with
  | true => a e1
  | false => b e1
def sWhile : Nat → Ft → Fs → Fs
  | 0, _, _ => fun _ => .bad
  | n + 1, c, b => fun e => (c e).to fun k e1 => match k with
    | true => (b e1).turn fun e2 => sWhile n c b e2
    | false => .nx e1
/-- targets -/
def asg1 (i : Nat) (d : D) (e : En) : Option En := if pinned e[i]? = true then none else some (e.set i (.fz d))
def asgs : List Nat → List D → En → Option En
  | [], [], e => some e
  | i :: is, d :: ds, e => (asg1 i d e).bind fun e1 => asgs is ds e1
  | _, _, _ => none
def asgT (is : List Nat) : D → En → Option En
  | .tup ds, e => asgs is ds e
  | _, _ => none
def optS (o : Option En) (k : En → RS) : RS := match o with
  | some e => k e
  | none => .bad
def sUnp (is : List Nat) (fa : Fe) : Fs := fun e => (fa e).to fun t e1 => match look e1 t with
  | some d => optS (asgT is d e1) fun e2 => .nx e2
  | none => .bad
def forL (g : D → En → Option En) (b : Fs) : List D → En → RS
  | [], e => .nx e
  | d :: ds, e => optS (g d e) fun e1 => (b e1).turn fun e2 => forL g b ds e2
abbrev Fi := En → Rz (List D)
def sFor (it : Fi) (g : D → En → Option En) (b : Fs) : Fs := fun e => (it e).to fun ds e1 => forL g b ds e1
def sBreak : Fs := fun e => .bk e
def sCont : Fs := fun e => .ct e

section
variable {X : Cx} {W : WX} {a b c : Expr} {fa fb : Fe} {ga : Ft} {pos : Pos} {st : Stmt} {sts : List Stmt} {f g : Fs}
variable {K : PySem.W.Frag} {H0 H H01 H1 H0' H' H0s Hs : Hp} {σ σ1 σs : L2.St} {e e1 es : En} {Ez : Ends} {r : RS}
theorem vss_nil : VSs X W [] sNil := pss_imp pss_nil fun D σ H ⟨H0, e, w, h⟩ => h σ H0 H w .refl
theorem imp_seq (h : tS K W (sSeq f g) Ez σ H) : tSeq (tS K W f) (tS K W g) Ez σ H := by
  obtain ⟨H0, e, w, h⟩ := h
  refine ⟨H0, e, w, ?_⟩
  unfold sSeq at h
  cases q : f e with
  | nx e1 =>
    rw [q] at h
    exact fun σ' H0' H' w' a' => ⟨H0', e1, w', GyS.mid a' (show GyS K W σ H0 H e (g e1) Ez from h)⟩
  | rt t e1 => rw [q] at h; exact h
  | bk e1 => rw [q] at h; exact h
  | ct e1 => rw [q] at h; exact h
  | ex x e1 => rw [q] at h; exact h
  | bad => rw [q] at h; exact h
theorem vss_cons (h1 : VS X W st f) (h2 : VSs X W sts g) : VSs X W (st :: sts) (sSeq f g) := pss_imp (pss_cons h1 h2) fun D σ H h => imp_seq h
theorem vss_one (h1 : VS X W st f) : VSs X W [st] f := pss_one h1
theorem vs_pass : VS X W (.Pass pos) sNil := ps_imp ps_pass fun D σ H ⟨H0, e, w, h⟩ => h σ H0 H w .refl
theorem vs_break : VS X W (.Break pos) sBreak := ps_imp ps_break fun D σ H ⟨H0, e, w, h⟩ => h σ H0 H w .refl
theorem vs_cont : VS X W (.Continue pos) sCont := ps_imp ps_continue fun D σ H ⟨H0, e, w, h⟩ => h σ H0 H w .refl
theorem vs_doc {x j p2} : VS X W (.Expr (.Constant (.str x) j p2) pos) sNil := ps_imp ps_doc fun D σ H ⟨H0, e, w, h⟩ => h σ H0 H w .refl
theorem vs_set {i : Nat} {x : Str} {p2 : Pos} (hN : X.N.Nodup) (hi : X.N[i]? = some x) (hx : Loc X.env.scope x) (he : VE X W a fa) (hs : swapsWith a (some (.Name x p2)) pos.line X.env = pure false := by rfl)
    (hf : X.fn x = true ∨ X.env.scope.names.lookup x = some .local := by first | exact .inl rfl | exact .inr rfl | assumption) : VS X W (.Assign [.Name x p2] a pos) (sSet i fa) := by
  refine ps_imp (ps_set hN hi hx he hs hf) fun D σ H ⟨H0, e, w, h⟩ => ?_
  exact tE_s w h fun t e1 v H01 H1 q w1 a1 r1 h1 => asg_of w1 a1 r1 h1
theorem vs_ret (he : VE X W a fa) : VS X W (.Return (some a) pos) (sRet fa) := by
  refine ps_imp (ps_ret he) fun D σ H ⟨H0, e, w, h⟩ => ?_
  exact tE_s w h fun t e1 v H01 H1 q w1 a1 r1 h1 => h1 v σ H01 H1 w1 a1 r1
theorem vs_retN : VS X W (.Return none pos) sRetN := ps_imp ps_retN fun D σ H ⟨H0, e, w, h⟩ => h .non σ H0 H w .refl .non
theorem vs_expr (he : VE X W a fa) (hs : swapsWith a none pos.line X.env = pure false := by rfl) : VS X W (.Expr a pos) (sDrop fa) := by
  refine ps_imp (ps_expr he hs) fun D σ H ⟨H0, e, w, h⟩ => ?_
  exact tE_s w h fun t e1 v H01 H1 q w1 a1 r1 h1 => h1 σ H01 H1 w1 a1
theorem vs_if {sa sb : List Stmt} (hc : VT X W c ga) (ha : VSs X W sa f) (hb : VSs X W sb g) : VS X W (.If c sa sb pos) (sIf ga f g) := by
  refine ps_imp (ps_if hc ha hb) fun D σ H ⟨H0, e, w, h⟩ => ?_
  refine tT_s w h fun k e1 H01 H1 q w1 a1 h1 => ?_
  cases k with
  | true => rw [if_pos rfl]; exact ⟨H01, e1, w1, GyS.mid a1 h1⟩
  | false => rw [if_neg Bool.false_ne_true]; exact ⟨H01, e1, w1, GyS.mid a1 h1⟩
/-- a loop's body, read with the loop's own ends -/
theorem turn_of {k : En → RS} {N : L2.St → Hp → Prop} (w : Wd K H0 H σ e) (a : After K H0s Hs σs es H0 H σ e) (h : GyS K W σs H0s Hs es ((f e).turn k) Ez)
    (hn : ∀ e1 σ1 H01 H1, Wd K H01 H1 σ1 e1 → After K H0s Hs σs es H01 H1 σ1 e1 → GyS K W σs H0s Hs es (k e1) Ez → N σ1 H1) : tS K W f { Ez with nx := N, ct := N, bk := Ez.nx } σ H := by
  refine ⟨H0, e, w, ?_⟩
  cases q : f e with
  | nx e1 => rw [q] at h; exact fun σ1 H01 H1 w1 a1 => hn e1 σ1 H01 H1 w1 (a.trans a1) h
  | ct e1 => rw [q] at h; exact fun σ1 H01 H1 w1 a1 => hn e1 σ1 H01 H1 w1 (a.trans a1) h
  | bk e1 => rw [q] at h; exact fun σ1 H01 H1 w1 a1 => h σ1 H01 H1 w1 (a.trans a1)
  | rt t e1 => rw [q] at h; exact fun v σ1 H01 H1 w1 a1 r1 => h v σ1 H01 H1 w1 (a.trans a1) (r1.back a.thr)
  | ex x e1 => rw [q] at h; exact fun dx σ1 H01 H1 w1 a1 x1 => h dx σ1 H01 H1 w1 (a.trans a1) x1
  | bad => rw [q] at h; exact h
theorem vs_while (n : Nat) {body : List Stmt} (hp : PassesOwn (model X.prog X.w) X.A X.env X.xe) (hc : VT X W c ga) (hb : VSs X W body f) : VS X W (.While c body [] pos) (sWhile n ga f) := by
  refine ps_imp (ps_while hp hc hb) fun D σ H ⟨H0, e, w, h⟩ => ?_
  refine ⟨fun m σ1 H1 => ∃ H01 e1, Wd X.K H01 H1 σ1 e1 ∧ After X.K H0 H σ e H01 H1 σ1 e1 ∧ GyS X.K W σ H0 H e (sWhile m ga f e1) D, ⟨n, H0, e, w, .refl, h⟩, ?_⟩
  rintro m σ1 H1 ⟨H01, e1, w1, a1, h1⟩
  cases m with
  | zero => exact h1.elim
  | succ m =>
    refine tT_s w1 (GyS.mid a1 (show GyS X.K W σ H0 H e ((ga e1).to fun k e1 => match k with | true => (f e1).turn fun e2 => sWhile m ga f e2 | false => .nx e1) D from h1)) fun k e2 H02 H2 q w2 a2 h2 => ?_
    cases k with
    | true =>
      rw [if_pos rfl]
      have h2' : GyS X.K W σ1 H01 H1 e1 ((f e2).turn fun e2 => sWhile m ga f e2) D := h2
      have h3 : GyS X.K W σ H0 H e ((f e2).turn fun e2 => sWhile m ga f e2) D := by
        have : GyS X.K W σ H0 H e (sWhile (m + 1) ga f e1) D := h1
        unfold sWhile at this
        rw [q] at this
        exact this
      refine ⟨_, fun σ' H' z => ⟨m, Nat.lt_succ_self m, z⟩, turn_of w2 (a1.trans a2) h3 fun e3 σ3 H03 H3 w3 a3 h4 => ⟨H03, e3, w3, a3, h4⟩⟩
    | false => rw [if_neg Bool.false_ne_true]; exact h2 σ1 H02 H2 w2 a2

/-! ### targets -/
def gNames : List Nat → TGs
  | [] => gNil
  | i :: is => gCons (gName i) (gNames is)
theorem asgs_of : ∀ {is : List Nat} {ds : List VL.D} {vs : List V} {σ : L2.St} {e e1 : En} {N : L2.St → Hp → Prop}, Wd K H0 H σ e → After K H0s Hs σs es H0 H σ e → Reps K H0 vs ds → asgs is ds e = some e1 →
    (∀ σ1, Wd K H0 H σ1 e1 → After K H0s Hs σs es H0 H σ1 e1 → (∀ j, j ∉ is → σ1[j]? = σ[j]?) → σ1.length = σ.length → N σ1 H) → gNames is vs σ H N
  | [], _, _, σ, e, e1, N, w, a, .nil, q, hn => by
    cases (show some e = some e1 from q)
    exact ⟨rfl, hn σ w a (fun _ _ => rfl) rfl⟩
  | [], _, _, _, _, _, _, _, _, .cons _ _, q, _ => by cases (show none = some _ from q)
  | i :: is, _, _, _, _, _, _, _, _, .nil, q, _ => by cases (show none = some _ from q)
  | i :: is, _, _, σ, e, e1, N, w, a, .cons (v := v) (d := d) (vs := vs) (ds := ds) r rs, q, hn => by
    have q' : (asg1 i d e).bind (fun e1 => asgs is ds e1) = some e1 := q
    refine ⟨v, vs, rfl, ?_⟩
    by_cases hp : pinned e[i]? = true
    · rw [asg1, if_pos hp] at q'; cases q'
    · rw [asg1, if_neg hp] at q'
      have np := not_pinned (o := e[i]?) (by simpa using hp)
      exact asgs_of (w.store r) (a.store w np (fun d z => by cases z) fun d b z => by cases z) rs q' fun σ1 w1 a1 k1 l1 => hn σ1 w1 a1 (fun j hj => by
        rw [List.mem_cons, not_or] at hj
        rw [k1 j hj.2, List.getElem?_set_ne (Ne.symm hj.1)]) (by rw [l1, List.length_set])
/-- what an iterator yields: a value, or a tuple made for the turn -/
def YT (K : PySem.W.Frag) (fr : Bool) (H0 H : Hp) (x : V) (d : VL.D) : Prop := Rep K H0 x d ∨ fr = false ∧ ∃ p vs ds, x = .ref p ∧ d = .tup ds ∧ SqT K H p vs ∧ Reps K H0 vs ds
theorem YT.tup {fr : Bool} {x : V} {ds : List VL.D} (s : Same H0 H) (h : YT K fr H0 H x (.tup ds)) : ∃ p vs, x = .ref p ∧ SqT K H p vs ∧ Reps K H0 vs ds := by
  rcases h with h | ⟨_, p, vs, ds', h1, h2, h3, h4⟩
  · cases h with
    | tup h r => exact ⟨_, _, rfl, (h.mono s).sq, r⟩
  · cases h2; exact ⟨p, vs, h1, h3, h4⟩
/-- a target; ts: the slots that it sets -/
def TgOk (K : PySem.W.Frag) (fr : Bool) (ts : List Nat) (t : TG) (g : VL.D → En → Option En) : Prop :=
  ∀ (x : V) (d : VL.D) (H0 H : Hp) (σ : L2.St) (e e1 : En) (H0s Hs : Hp) (σs : L2.St) (es : En) (N : L2.St → Hp → Prop), Wd K H0 H σ e → After K H0s Hs σs es H0 H σ e → YT K fr H0 H x d → g d e = some e1 →
    (∀ σ1, Wd K H0 H σ1 e1 → After K H0s Hs σs es H0 H σ1 e1 → (∀ j, j ∉ ts → σ1[j]? = σ[j]?) → σ1.length = σ.length → N σ1 H) → t x σ H N
theorem tg_name (i : Nat) : TgOk K true [i] (gName i) (asg1 i) := by
  intro x d H0 H σ e e1 H0s Hs σs es N w a y q hn
  rcases y with r | ⟨z, _⟩
  · by_cases hp : pinned e[i]? = true
    · rw [asg1, if_pos hp] at q; cases q
    · rw [asg1, if_neg hp] at q
      cases q
      have np := not_pinned (o := e[i]?) (by simpa using hp)
      exact hn _ (w.store r) (a.store w np (fun d z => by cases z) fun d b z => by cases z) (fun j hj => by
        rw [List.mem_singleton] at hj
        rw [List.getElem?_set_ne (Ne.symm hj)]) (by rw [List.length_set])
  · cases z
theorem asgs_len : ∀ {is : List Nat} {ds : List VL.D} {e e1 : En}, asgs is ds e = some e1 → ds.length = is.length
  | [], [], _, _, _ => rfl
  | [], _ :: _, _, _, q => by cases (show none = some _ from q)
  | _ :: _, [], _, _, q => by cases (show none = some _ from q)
  | i :: is, d :: ds, e, e1, q => by
    have q' : (asg1 i d e).bind (fun e1 => asgs is ds e1) = some e1 := q
    cases z : asg1 i d e with
    | none => rw [z] at q'; cases q'
    | some e2 => rw [z] at q'; exact congrArg (· + 1) (asgs_len q')
theorem tg_tup (fr : Bool) (is : List Nat) : TgOk K fr is (gTup K is.length (gNames is)) (asgT is) := by
  intro x d H0 H σ e e1 H0s Hs σs es N w a y q hn
  cases d with
  | tup ds =>
    obtain ⟨p, vs, h1, h2, h3⟩ := y.tup w.sub
    have q' : asgs is ds e = some e1 := q
    exact ⟨p, vs, h1, h2, by rw [h3.length]; exact asgs_len q', asgs_of w a h3 q' hn⟩
  | _ => cases q
theorem vs_unp {is : List Nat} {tes : List Expr} {k : Nat} {p2 : Pos} (hc : X.calm = true) (hg : PGs X tes (gNames is)) (he : VE X W a fa) (hn : (assignEach tes X.env).length = is.length := by rfl) (hst : (assignEach tes X.env).findIdx? (·.1) = none := by rfl)
    (hs : swapsWithSole [.Tuple tes k p2] a pos.line X.env = pure false := by rfl) (hw : swappedStores [.Tuple tes k p2] a X.env = pure none := by rfl)
    (h1 : (assignEach [.Tuple tes k p2] X.env).map (·.2) = [assign (.Tuple tes k p2) X.env] := by rfl) : VS X W (.Assign [.Tuple tes k p2] a pos) (sUnp is fa) := by
  refine ps_imp (ps_asg he (pg_tup hc hg hn hst) hs hw h1) fun D σ H ⟨H0, e, w, h⟩ => ?_
  refine tE_s w h fun t e1 v H01 H1 q w1 a1 r1 h1 => ?_
  cases z : look e1 t with
  | none => simp only [z] at h1; exact h1.elim
  | some d =>
    simp only [z] at h1
    cases y : asgT is d e1 with
    | none => rw [y] at h1; exact h1.elim
    | some e2 =>
      rw [y] at h1
      have ho : Opd X.K H01 H1 v d := by
        cases t with
        | nw d' => cases z
        | fz d' => exact look_ok w1 (show RepO X.K H01 σ v (.fz d') from r1) z
        | sl j => exact look_ok w1 (show RepO X.K H01 σ v (.sl j) from r1) z
      have yt : YT X.K true H01 H1 v d := by
        cases d with
        | tup ds =>
          rcases ho with ho | ⟨_, _, _, ho⟩
          · exact .inl ho
          · exact ho.elim
        | _ => cases y
      exact tg_tup true is v d H01 H1 σ e1 e2 H0 H σ e D.nx w1 a1 yt y fun σ1 w2 a2 _ _ => h1 σ1 H01 H1 w2 a2

/-! ### for -/
/-- J serves ds from here on -/
def Serve (K : PySem.W.Frag) (fr : Bool) (J : It) (ds : List VL.D) (H0 H : Hp) (σ : L2.St) (e : En) : Prop :=
  ∀ (i : Nat) (H0' H' : Hp) (σ' : L2.St) (e' : En), Wd K H0' H' σ' e' → After K H0 H σ e H0' H' σ' e' → (i = ds.length → J.stop i H') ∧ ∀ d, ds[i]? = some d → J.go i H' ∧ ∀ x H'', J.yld i H' x H'' → ∃ H0'', Step H0' H' H0'' H'' ∧ YT K fr H0'' H'' x d
def tI (K : PySem.W.Frag) (W : WX) (fr : Bool) (f : Fi) : TI := fun σ H R => ∃ H0 e, Wd K H0 H σ e ∧ Gy K W σ H0 H e (f e) fun ds e' H0' H' => ∀ J, Serve K fr J ds H0' H' σ e' → R J H'
def VI (X : Cx) (W : WX) (fr : Bool) (tg it : Expr) (f : Fi) : Prop := PI X tg it (tI X.K W fr f)
theorem pi_imp {tg it : Expr} {t t' : TI} (h : PI X tg it t) (i : ∀ σ H R, t' σ H R → t σ H R) : PI X tg it t' := ⟨fun pins s σ H R I q => h.run pins s σ H R I (i σ H R q)⟩
theorem tI_s {fr : Bool} {fi : Fi} {g : List VL.D → En → RS} {Z : It → Hp → Prop} (w : Wd K H0 H σ e) (h : GyS K W σ H0 H e ((fi e).to g) Ez)
    (hz : ∀ ds e1 H01 H1 J, fi e = .ok ds e1 → Wd K H01 H1 σ e1 → After K H0 H σ e H01 H1 σ e1 → Serve K fr J ds H01 H1 σ e1 → GyS K W σ H0 H e (g ds e1) Ez → Z J H1) : tI K W fr fi σ H Z := by
  refine ⟨H0, e, w, ?_⟩
  cases q : fi e with
  | ok t e1 =>
    rw [q] at h
    exact fun H01 H1 w1 a1 J s1 => hz t e1 H01 H1 J q w1 a1 s1 h
  | ex x e1 => rw [q] at h; exact fun dx H01 H1 w1 a1 x1 => h dx σ H01 H1 w1 a1 x1
  | bad => rw [q] at h; exact h
theorem forL_drop {g : VL.D → En → Option En} {ds : List VL.D} {i : Nat} {d : VL.D} (h : ds[i]? = some d) (e : En) : forL g f (ds.drop i) e = optS (g d e) fun e1 => (f e1).turn fun e2 => forL g f (ds.drop (i + 1)) e2 := by
  have hi : i < ds.length := by
    rcases Nat.lt_or_ge i ds.length with z | z
    · exact z
    · rw [List.getElem?_eq_none z] at h; cases h
  rw [List.drop_eq_getElem_cons hi]
  rw [List.getElem?_eq_getElem hi] at h
  cases h
  rfl
theorem vs_for {fr : Bool} {ts : List Nat} {tg it : Expr} {fi : Fi} {t : TG} {g : VL.D → En → Option En} {body : List Stmt} (hp : PassesOwn (model X.prog X.w) X.A X.env X.xe) (hc : X.calm = true) (hi : VI X W fr tg it fi) (hg : PG X tg t) (ht : TgOk X.K fr ts t g) (hb : VSs X W body f)
    (hs : ∀ x, foldedSetIterable it X.env x = pure x := by intro _; rfl) : VS X W (.For tg it body [] pos) (sFor fi g f) := by
  refine ps_imp (ps_for hp hc hi hg hb hs) fun D σ H ⟨H0, e, w, h⟩ => ?_
  refine tI_s w h fun ds e1 H01 H1 J q w1 a1 sv h1 => ?_
  have h1 := GyS.mid a1 h1
  refine ⟨fun i m σ2 H2 => m = ds.length - i ∧ i ≤ ds.length ∧ ∃ H02 e2, Wd X.K H02 H2 σ2 e2 ∧ After X.K H01 H1 σ e1 H02 H2 σ2 e2 ∧ GyS X.K W σ H01 H1 e1 (forL g f (ds.drop i) e2) D, ⟨ds.length, by simp, Nat.zero_le _, H01, e1, w1, .refl, h1⟩, ?_⟩
  rintro i m σ2 H2 ⟨rfl, hle, H02, e2, w2, a2, h2⟩
  obtain ⟨s1, s2⟩ := sv i H02 H2 σ2 e2 w2 a2
  by_cases hlt : i < ds.length
  · have hd : ds[i]? = some ds[i] := List.getElem?_eq_getElem hlt
    obtain ⟨go, y⟩ := s2 _ hd
    rw [forL_drop hd] at h2
    refine .inr ⟨go, _, fun σ' H' z => ⟨ds.length - (i + 1), by omega, rfl, hlt, z⟩, fun x H3 yl => ?_⟩
    obtain ⟨H03, st, yt⟩ := y x H3 yl
    cases z : g ds[i] e2 with
    | none => rw [z] at h2; exact h2.elim
    | some e3 =>
      rw [z] at h2
      have w3 := w2.step st
      have a3 : After X.K H01 H1 σ e1 H03 H3 σ2 e2 := a2.trans (.of_step st)
      refine ht x _ H03 H3 σ2 e2 e3 H01 H1 σ e1 _ w3 a3 yt z fun σ4 w4 a4 _ _ => ?_
      exact turn_of w4 a4 h2 fun e5 σ5 H05 H5 w5 a5 h5 => ⟨H05, e5, w5, a5, h5⟩
  · have z : i = ds.length := by omega
    subst z
    rw [List.drop_length] at h2
    exact .inl ⟨s1 rfl, h2 σ2 H02 H2 w2 a2⟩
end
end VL

/-! VLj: what loops and comprehensions walk: lists, tuples, texts; enumerate, zip, range. -/
namespace VL
open PySem PySem.Spec L2

/-! ### any plain thing -/
def iAny (K : PySem.W.Frag) (tl : TE) : TI := fun σ H R => tl σ H fun x H1 => (∃ a xs, x = .ref a ∧ SqL K H1 a xs ∧ R (Itl K a) H1) ∨ (∃ a xs, x = .ref a ∧ SqT K H1 a xs ∧ R (Itt K a) H1) ∨ ∃ z, x = .str z ∧ R (Its z) H1
theorem pi_any {X : Cx} {tg l : Expr} {tl : TE} (hl : PE X l tl) : PI X tg l (iAny X.K tl) := by
  refine ⟨fun pins s σ H R I h => ?_⟩
  refine thn (hl.run pins s σ H _ I h) fun v s1 ⟨x, H1, I1, r1, q1⟩ => ?_
  rcases q1 with ⟨a, xs, e, hq, q⟩ | ⟨a, xs, e, hq, q⟩ | ⟨z, e, q⟩
  · subst e
    cases r1
    obtain ⟨its, rv, p, hz⟩ := I1.list hq
    exact wpAny_pyIter_list p.isList (pi_one (tk := s1.toks) I1 _ (turn_list a _) ⟨_, Heap.get?_push_size _ rfl, rfl, rfl⟩ q)
  · subst e
    cases r1
    obtain ⟨its, rv, p, hz⟩ := I1.tuple hq
    exact wpAny_pyIter_tuple (show s1.heap.IsTuple a its.toArray from p) (pi_one (tk := s1.toks) I1 _ (turn_tuple a _) ⟨_, Heap.get?_push_size _ rfl, rfl, rfl⟩ q)
  · subst e
    obtain ⟨t, rfl⟩ := r1
    cases ha : z.cps.all (· < 128)
    · exact wpAny_pyIter_wide ha (pi_one (tk := s1.toks) I1 _ (turn_str _ z t "str_iterator" (.inr rfl)) ⟨_, Heap.get?_push_size _ rfl, rfl, rfl⟩ q)
    · exact wpAny_pyIter_ascii ha (pi_one (tk := s1.toks) I1 _ (turn_str _ z t "str_ascii_iterator" (.inl rfl)) ⟨_, Heap.get?_push_size _ rfl, rfl, rfl⟩ q)

/-! ### enumerate of tuples -/
theorem meets_enum1 {v : Value} {o : Obj} {H : Heap → Prop} (B : Begins v o H) :
    Meets (Builtin.«enumerate.__new__» ⟨[.type "enumerate", v], []⟩) (fun _ R s => H s.heap ∧
      R (.ok (.ret (.ref (s.heap.push o).objs.size))) { s with heap := (s.heap.push o).push { cls := .type "enumerate", data := .fields #[.none, .bool false, .ref s.heap.objs.size, rawInt 0, .none, .none] } }) :=
  .of_wp fun prog w A R s h => by
    obtain ⟨hp, g, d, tk, os⟩ := s; obtain ⟨h1, h⟩ := h
    have hsub := sub_enumerate
    have q1 : ∀ {A' : Around} {E : Value → Shared → Prop} {Q : Value → Shared → Prop}, Q (.ref hp.objs.size) ⟨hp.push o, g, d, tk, os⟩ → wpAny (model prog w) A' (pyIter v) Q E ⟨hp, g, d, tk, os⟩ :=
      fun q => B.iter prog w _ _ ⟨hp, g, d, tk, os⟩ _ h1 q
    wp_walk using q1
    refine wpAny_stack_any fun st => wpAny_pure ?_
    split
    · rename_i c _ _ _ _ _
      cases (c == Value.type "enumerate")
      · wp_walk using q1
        exact ⟨_, rfl, h⟩
      · wp_walk using q1
        exact ⟨_, rfl, h⟩
    · wp_walk using q1
      exact ⟨_, rfl, h⟩
theorem enum_begins1 {prog : Program} {w : World} {A : Around} {E : Value → Shared → Prop} {s : Shared} {v : Value} {o : Obj} {H : Heap → Prop} {Q : Value → Shared → Prop} (B : Begins v o H) (h1 : H s.heap)
    (h : ∀ h', IsEnum h' (s.heap.objs.size + 1) s.heap.objs.size 0 .none → h'.get? s.heap.objs.size = some o → h'.objs.size = s.heap.objs.size + 2 →
      (∀ b o, s.heap.get? b = some o → h'.get? b = some o) → Q (.ref (s.heap.objs.size + 1)) { s with heap := h' }) :
    wpAny (model prog w) A (call (.type "enumerate") [v]) Q E s := by
  refine callType_new F.called_enumerate (by decide) (F.typeCall_enumerate_1 _) (F.newCall_enumerate_1 _) (fun obj => F.args_object_init_2 obj _) F.entry_enumerate_new
    (meets_enum1 B) ⟨h1, ?_⟩
  have hz : (s.heap.push o).objs.size = s.heap.objs.size + 1 := Heap.size_push ..
  show _ ∧ _
  rw [hz]
  have he : IsEnum ((s.heap.push o).push { cls := .type "enumerate", data := .fields #[.none, .bool false, .ref s.heap.objs.size, rawInt 0, .none, .none] }) (s.heap.objs.size + 1) s.heap.objs.size 0 .none := by
    have := Heap.get?_push_size (s.heap.push o) (o := { cls := .type "enumerate", data := .fields #[.none, .bool false, .ref s.heap.objs.size, rawInt 0, .none, .none] }) rfl
    rw [hz] at this; exact this
  refine ⟨⟨_, he, rfl⟩, h _ he (Heap.get?_push_of_some _ (Heap.get?_push_size _ B.free)) (by rw [Heap.size_push, hz]) fun b o x => Heap.get?_push_of_some _ (Heap.get?_push_of_some _ x)⟩
def IteT (K : PySem.W.Frag) (a : Addr) : It :=
  ⟨fun i H => ∃ (xs : List V) (x : V), SqT K H a xs ∧ xs[i]? = some x, fun i H v H' => ∃ T x, v = .ref T ∧ H T = none ∧ H' = upd H T (.tup [.int (i : Nat), x]) ∧ ∀ xs, SqT K H a xs → xs[i]? = some x, fun i H => ∃ xs : List V, SqT K H a xs ∧ xs.length ≤ i⟩
theorem tupit_ne {h : Heap} {a it : Addr} {i : Nat} {its : Array Value} (ht : h.IsTuple a its) (hit : h.IsTupleIter it a i) : a ≠ it := fun z => by
  obtain ⟨o, e, c, _⟩ := hit
  obtain ⟨o', e', c', _⟩ := ht
  rw [z, e] at e'
  cases e'
  rw [c] at c'
  exact absurd c' (by decide)
theorem turn_enumT {P : Program} {w : World} {K : PySem.W.Frag} {elts : List Expr} {kk : Nat} {tpos : Pos} (a e it : Addr) :
    Turn P w K (.Tuple elts kk tpos) (IteT K a) [e, it] e (fun i h => (∃ old, IsEnum h e it ((i : Nat) : Int) old) ∧ h.IsTupleIter it a i ∧ e ≠ it ∧ e ≠ a) where
  mem := by simp
  obj := fun i h st b hb => by
    obtain ⟨⟨old, he⟩, ⟨o, ho, hc, hd⟩, _⟩ := st
    have e' : b = e ∨ b = it := by simpa using hb
    rcases e' with z | z
    · rw [z]; exact ⟨_, he, fun v q => nomatch q⟩
    · rw [z]; exact ⟨o, ho, fun v q => by rw [hd] at q; cases q⟩
  keep := fun i h h' st k => let ⟨⟨old, he⟩, hi, hne⟩ := st; ⟨⟨old, k e (by simp) _ he⟩, hi.at fun o q => k it (by simp) o q, hne⟩
  item := by
    intro X hP hw hK hc i pins s σ H E I hf st hg
    subst hP hw hK
    obtain ⟨⟨old, he⟩, hit, hne, hea⟩ := st
    obtain ⟨xs, x, hq, hx⟩ := hg
    obtain ⟨its, rv, p, hz⟩ := I.tuple hq
    obtain ⟨u, hu, ru⟩ := rv.get hx
    have p' : s.heap.IsTuple a its.toArray := p
    have hel : e < s.heap.objs.size := Heap.lt_size he
    have hil : it < s.heap.objs.size := by obtain ⟨_, q, _⟩ := hit; exact Heap.lt_size q
    have hai := tupit_ne p' hit
    have hlt : i < its.toArray.size := by
      have := (List.getElem?_eq_some_iff.mp hu).1
      simpa using this
    refine wpAny_pyNext_enum_itemD (Draws.tuple (A := X.A.in1) (I.ok.hd hc) it a hai its.toArray) he ⟨hit, p'⟩ hlt hne (by simp [hne, hea]) fun y h' tk hP ho hst' hT hsz hk => ?_
    have hy : y = u := by
      have hP' : its.toArray[i]? = some y := hP
      have : its[i]? = some y := by simpa using hP'
      rw [hu] at this; exact (Option.some.inj this).symm
    subst hy
    refine ⟨_, rfl, wpAny_letOwnedTupleGo_enum (s := { s with heap := h', toks := tk + 1 }) ho fun h'' he' sb => ?_⟩
    have hT2 : h''.get? s.heap.objs.size = some { cls := .type "tuple", data := .seq #[.int i tk, y] } := (sb.2 _ (Nat.ne_of_gt hel)).trans hT
    have new : ObjOk X.prog X.w (upd H s.heap.objs.size (.tup [.int (i : Nat), x])) h'' s.heap.objs.size (.tup [.int (i : Nat), x]) :=
      ⟨by show 2 ≤ sizeLine; decide, [.int i tk, y], .cons ⟨_, rfl⟩ (.cons ru .nil), ⟨_, hT2, rfl, _, rfl⟩⟩
    have I1 : Inv X pins σ (upd H s.heap.objs.size (.tup [.int (i : Nat), x])) { s with heap := h'', toks := tk + 1 } :=
      I.turnedNew (ch := [e, it]) (fun b ob hb q => (sb.2 b (fun z => hb (by simp [z]))).trans (hk b ob (fun z => hb (by simp [z])) (fun z => hb (by simp [z])) q)) hf (Nat.le_refl _) new
    refine ⟨.ref s.heap.objs.size, _, I1, rfl, ⟨_, x, rfl, I.hok.fresh (Nat.le_refl _), rfl, fun ys hy => by rw [I.tuple_inj hy hq]; exact hx⟩, ⟨⟨y, ?_⟩, hst'.1.at fun o q => (sb.2 it (Ne.symm hne)).trans q, hne, hea⟩, fun b hb => ?_⟩
    · have e1 : ((i + 1 : Nat) : Int) = (i : Int) + 1 := by omega
      rw [e1]; exact he'
    · have hb' : b < s.heap.objs.size := by
        have e' : b = e ∨ b = it := by simpa using hb
        rcases e' with z | z
        · rw [z]; exact hel
        · rw [z]; exact hil
      rw [upd_ne (Nat.ne_of_lt hb')]
      exact (hf b hb).1
  done := by
    intro X hP hw hK hc i pins s σ H E I hf st hg
    subst hP hw hK
    obtain ⟨⟨old, he⟩, hit, hne, hea⟩ := st
    obtain ⟨xs, hq, hx⟩ := hg
    obtain ⟨its, rv, p, hz⟩ := I.tuple hq
    have p' : s.heap.IsTuple a its.toArray := p
    obtain ⟨f0, f1, f2, f3, f4, f5⟩ := hf it (by simp)
    have hl := rv.length
    have Dr : Draws X.prog X.w X.A.in1 it [it, a] i (fun i v => its.toArray[i]? = some v) (fun j h => j = i ∧ h.IsTupleIter it a i ∧ h.IsTuple a its.toArray) :=
      ⟨fun _ _ st => let ⟨o, ho, _⟩ := st.2.1; ⟨o, ho⟩, fun _ _ _ st hk => ⟨st.1, st.2.1.at fun o e => hk it (by simp) o e, st.2.2.at fun o e => hk a (by simp) o e⟩,
        fun j s Q E hj st hQ => absurd st.1 (Nat.ne_of_lt hj), fun s Q E st hE => wpAny_nextOf_tuple_end (I.ok.hd hc) st.2.1 st.2.2 (by simp; omega) hE⟩
    exact wpAny_pyNext_enum_endD Dr he ⟨rfl, hit, p'⟩ fun h' eb => ⟨rfl, I.turned (t' := s.toks) (fun b o hb q => eb b o hb q) f0 f1 f3 f4 f5⟩
  self := fun A i s Q E st h => let ⟨⟨_, he⟩, _⟩ := st; wpAny_pyIter_enum he h
def iEnumA (K : PySem.W.Frag) (ta : TA) : TI := fun σ H R => ta σ H fun vs H1 => ∃ a xs, vs = [.ref a] ∧ ((SqL K H1 a xs ∧ R (Ite K a) H1) ∨ (SqT K H1 a xs ∧ R (IteT K a) H1))
theorem pi_enumA {X : Cx} {e : Expr} {ta : TA} {p pos tpos : Pos} {elts : List Expr} {kk : Nat} (hg : Gl X "enumerate") (hm : X.mg "enumerate" = none) (ha : PA X [e] ta) (hs : starEach [e] X.env = [(false, eval e X.env)] := by rfl) :
    PI X (.Tuple elts kk tpos) (.Call (.Name "enumerate" p) [e] [] pos) (iEnumA X.K ta) := by
  refine ⟨fun pins s σ H R I h => ?_⟩
  refine PyProof.Rows.Call_ (ld_blt I hg hm PyProof.Rows.boot_enumerate (PyProof.Rows.callWith_type1 (thn (ha.run pos pins s σ H _ I h) fun us s1 ⟨vs, H1, I1, r1, q1⟩ => ?_) hs rfl))
  obtain ⟨a, xs, ex, q1⟩ := q1
  subst ex
  cases r1 with
  | cons r rr =>
    cases rr
    cases r
    have two : ∀ b, b ∈ [s1.heap.objs.size + 1, s1.heap.objs.size] → s1.heap.objs.size ≤ b := fun b hb => by
      have e' : b = s1.heap.objs.size + 1 ∨ b = s1.heap.objs.size := by simpa using hb
      rcases e' with z | z
      · rw [z]; exact Nat.le_add_right _ _
      · rw [z]; exact Nat.le_refl _
    rcases q1 with ⟨hq, q⟩ | ⟨hq, q⟩
    · obtain ⟨its, rv, p', hz⟩ := I1.list hq
      refine call_enumerate_list p'.isList fun h' he hit hsz hk => wpAny_pyIter_enum he ?_
      have I2 : Inv X pins σ H1 { s1 with heap := h' } := I1.kept (t' := s1.toks) hk
      exact ⟨s1.heap.objs.size + 1, [s1.heap.objs.size + 1, s1.heap.objs.size], _, _, H1, rfl, I2, turn_enum a (s1.heap.objs.size + 1) s1.heap.objs.size, ⟨⟨.none, he⟩, hit, Nat.succ_ne_self _⟩, fun b hb => I1.fpOk (two b hb) (I1.hok.fresh (two b hb)), q⟩
    · obtain ⟨its, rv, p', hz⟩ := I1.tuple hq
      have p2 : s1.heap.IsTuple a its.toArray := p'
      have la : a < s1.heap.objs.size := by obtain ⟨_, q, _⟩ := p2; exact Heap.lt_size q
      refine enum_begins1 (begins_tuple a its.toArray) p2 fun h' he hit hsz hk => wpAny_pyIter_enum he ?_
      have I2 : Inv X pins σ H1 { s1 with heap := h' } := I1.kept (t' := s1.toks) hk
      exact ⟨s1.heap.objs.size + 1, [s1.heap.objs.size + 1, s1.heap.objs.size], _, _, H1, rfl, I2, turn_enumT a (s1.heap.objs.size + 1) s1.heap.objs.size, ⟨⟨.none, he⟩, ⟨_, hit, rfl, rfl⟩, Nat.succ_ne_self _, Nat.ne_of_gt (Nat.lt_succ_of_lt la)⟩, fun b hb => I1.fpOk (two b hb) (I1.hok.fresh (two b hb)), q⟩

/-! ### by data -/
def chars (z : Str) : List D := z.cps.toList.map fun c => .str ⟨#[c]⟩
def itD : D → Option (List D)
  | .lst ds => some ds
  | .tup ds => some ds
  | .scr ns => some (ns.map D.int)
  | .str z => some (chars z)
  | _ => none
def isL : D → Bool
  | .lst _ => true
  | .scr _ => true
  | _ => false
def isT : D → Bool
  | .tup _ => true
  | _ => false
def itT (t : Tg) (e : En) : Rz (List D) := match t with
  | .fz d => (match itD d with
    | some ds => .ok ds e
    | none => .bad)
  | .nw _ => .bad
  | .sl i => match e[i]? with
    | some (.fz d) => (match itD d with
      | some ds => .ok ds e
      | none => .bad)
    | some (.bw d) => (match itD d with
      | some ds => .ok ds e
      | none => .bad)
    | some (.ow false d) => (match itD d with
      | some ds => if d.frb = true then .ok ds (e.set i (.fz d)) else .bad
      | none => .bad)
    | _ => .bad
section
variable {K : PySem.W.Frag} {H0 H H01 H1 H0' H' H0s Hs : Hp} {σ σ1 σs : L2.St} {e e1 es : En} {W : WX} {v : V} {ds : List D}
/-- what stays as it is from here on -/
inductive ItO (K : PySem.W.Frag) (H0 H : Hp) (σ : L2.St) (e : En) : V → D → List D → Prop
  | lst {a : Addr} {vs : List V} {d : D} {ds : List D} : isL d = true → Reps K H0 vs ds → (∀ H0' H' σ' e', Wd K H0' H' σ' e' → After K H0 H σ e H0' H' σ' e' → SqL K H' a vs) → ItO K H0 H σ e (.ref a) d ds
  | tup {a : Addr} {vs : List V} {d : D} {ds : List D} : isT d = true → Reps K H0 vs ds → (∀ H0' H' σ' e', Wd K H0' H' σ' e' → After K H0 H σ e H0' H' σ' e' → SqT K H' a vs) → ItO K H0 H σ e (.ref a) d ds
  | str (z : Str) : ItO K H0 H σ e (.str z) (.str z) (chars z)
theorem ItO.of_rep {d : D} (h : Rep K H0 v d) (q : itD d = some ds) : ItO K H0 H σ e v d ds := by
  cases h with
  | lst h r => cases (show some _ = some _ from q); exact .lst rfl r fun H0' H' σ' e' w' a' => SqL.of (w'.sub _ _ (a'.s0 _ _ h))
  | tup h r => cases (show some _ = some _ from q); exact .tup rfl r fun H0' H' σ' e' w' a' => ((h.mono a'.s0).mono w'.sub).sq
  | scr h => cases (show some _ = some _ from q); exact .lst rfl (Reps.of_ints _) fun H0' H' σ' e' w' a' => w'.sub.seq (a'.s0.seq h)
  | str z => cases (show some _ = some _ from q); exact .str z
  | _ => cases q
theorem ItO.mono (a : After K H0 H σ e H01 H1 σ1 e1) {d : D} (h : ItO K H0 H σ e v d ds) : ItO K H01 H1 σ1 e1 v d ds := by
  cases h with
  | lst hk r f => exact .lst hk (r.mono a.s0) fun H0' H' σ' e' w' a' => f _ _ _ _ w' (a.trans a')
  | tup hk r f => exact .tup hk (r.mono a.s0) fun H0' H' σ' e' w' a' => f _ _ _ _ w' (a.trans a')
  | str z => exact .str z
theorem Gy.ok_refl' {α : Type} {x : α} {k : α → En → Hp → Hp → Prop} (w1 : Wd K H01 H1 σ e1) (a : After K H0 H σ e H01 H1 σ e1) (h : Gy K W σ H0 H e (.ok x e1) k) : k x e1 H01 H1 := h H01 H1 w1 a
theorem Gy.mid' {α : Type} {r : Rz α} {k : α → En → Hp → Hp → Prop} (a : After K H0 H σ e H01 H1 σ e1) (h : Gy K W σ H0 H e r k) : Gy K W σ H01 H1 e1 r k := by
  cases r with
  | ok b e' => exact fun H0' H' w' a' => h H0' H' w' (a.trans a')
  | ex x e' => exact fun dx H0' H' w' a' => h dx H0' H' w' (a.trans a')
  | bad => exact h
theorem itT_of {t : Tg} {β : Type} {g : List D → En → Rz β} {k : β → En → Hp → Hp → Prop} (w : Wd K H0 H σ e) (r : RepO K H0 σ v t) (h : Gy K W σ H0 H e ((itT t e).bind g) k) :
    ∃ d ds e1 H01, look e t = some d ∧ Wd K H01 H σ e1 ∧ After K H0 H σ e H01 H σ e1 ∧ ItO K H01 H σ e1 v d ds ∧ Gy K W σ H0 H e (g ds e1) k := by
  cases t with
  | nw d => exact h.elim
  | fz d =>
    cases q : itD d with
    | none => simp only [itT, q] at h; exact h.elim
    | some ds => simp only [itT, q] at h; exact ⟨d, ds, e, H0, rfl, w, .refl, .of_rep r q, h⟩
  | sl i =>
    have r' : σ[i]? = some (some v) := r
    cases q : e[i]? with
    | none => simp only [itT, q] at h; exact h.elim
    | some s =>
      cases s with
      | un => simp only [itT, q] at h; exact h.elim
      | fz d =>
        simp only [itT, q] at h
        cases q2 : itD d with
        | none => simp only [q2] at h; exact h.elim
        | some ds =>
          simp only [q2] at h
          obtain ⟨v', h1, h2⟩ := w.fz i d q
          rw [r'] at h1; cases h1
          exact ⟨d, ds, e, H0, by simp only [look, q], w, .refl, .of_rep h2 q2, h⟩
      | bw d =>
        simp only [itT, q] at h
        cases q2 : itD d with
        | none => simp only [q2] at h; exact h.elim
        | some ds =>
          simp only [q2] at h
          obtain ⟨v', h1, h2⟩ := w.bw i d q
          rw [r'] at h1; cases h1
          rcases h2 with h2 | ⟨a, rfl, ⟨hn, h2⟩, no⟩
          · exact ⟨d, ds, e, H0, by simp only [look, q], w, .refl, .of_rep h2 q2, h⟩
          · cases d with
            | lst xs =>
              obtain ⟨vs, h3, h4⟩ := h2
              cases (show some _ = some _ from q2)
              exact ⟨.lst ds, _, e, H0, by simp only [look, q], w, .refl, .lst rfl h4 fun H0' H' σ' e' w' a' => SqL.of (a'.keep _ _ h3 no), h⟩
            | dct _ => cases q2
            | ins _ _ => cases q2
            | _ => exact h2.elim
      | ow p d =>
        cases p with
        | true => simp only [itT, q] at h; exact h.elim
        | false =>
          simp only [itT, q] at h
          cases q2 : itD d with
          | none => simp only [q2] at h; exact h.elim
          | some ds =>
            simp only [q2] at h
            by_cases hd : d.frb = true
            · rw [if_pos hd] at h
              obtain ⟨H01, v', h1, h2, w1, a1⟩ := w.freeze q hd
              rw [r'] at h1; cases h1
              exact ⟨d, ds, _, H01, by simp only [look, q], w1, a1, .of_rep h2 q2, h⟩
            · rw [if_neg hd] at h; exact h.elim

/-! ### serving -/
theorem serve_l {a : Addr} {vs : List V} {fr : Bool} (r : Reps K H0 vs ds) (f : ∀ H0' H' σ' e', Wd K H0' H' σ' e' → After K H0 H σ e H0' H' σ' e' → SqL K H' a vs) : Serve K fr (Itl K a) ds H0 H σ e := by
  intro i H0' H' σ' e' w' a'
  have q := f _ _ _ _ w' a'
  refine ⟨fun z => ⟨vs, q, by rw [z, r.length]; exact Nat.le_refl _⟩, fun d hd => ?_⟩
  obtain ⟨v, hv, rv⟩ := r.get hd
  refine ⟨⟨vs, v, q, hv⟩, fun x H'' y => ?_⟩
  obtain ⟨rfl, y⟩ := y
  have := y vs q
  rw [hv] at this; cases this
  exact ⟨H0', .refl w'.sub, .inl (rv.mono a'.s0)⟩
theorem serve_t {a : Addr} {vs : List V} {fr : Bool} (r : Reps K H0 vs ds) (f : ∀ H0' H' σ' e', Wd K H0' H' σ' e' → After K H0 H σ e H0' H' σ' e' → SqT K H' a vs) : Serve K fr (Itt K a) ds H0 H σ e := by
  intro i H0' H' σ' e' w' a'
  have q := f _ _ _ _ w' a'
  refine ⟨fun z => ⟨vs, q, by rw [z, r.length]; exact Nat.le_refl _⟩, fun d hd => ?_⟩
  obtain ⟨v, hv, rv⟩ := r.get hd
  refine ⟨⟨vs, v, q, hv⟩, fun x H'' y => ?_⟩
  obtain ⟨rfl, y⟩ := y
  have := y vs q
  rw [hv] at this; cases this
  exact ⟨H0', .refl w'.sub, .inl (rv.mono a'.s0)⟩
theorem serve_s {z : Str} {fr : Bool} : Serve K fr (Its z) (chars z) H0 H σ e := by
  intro i H0' H' σ' e' w' a'
  have hl : (chars z).length = z.cps.size := by unfold chars; rw [List.length_map, Array.length_toList]
  refine ⟨fun q => by show z.cps.size ≤ i; omega, fun d hd => ?_⟩
  unfold chars at hd
  rw [List.getElem?_map] at hd
  cases q : z.cps.toList[i]? with
  | none => rw [q] at hd; cases hd
  | some c =>
    rw [q] at hd
    cases hd
    have q' : z.cps[i]? = some c := by simpa using q
    refine ⟨(Array.getElem?_eq_some_iff.mp q').1, fun x H'' y => ?_⟩
    obtain ⟨rfl, c', h1, rfl⟩ := y
    rw [q'] at h1; cases h1
    exact ⟨H0', .refl w'.sub, .inl (.str _)⟩
theorem ItO.use {fr : Bool} {R : It → Hp → Prop} {d : D} (h : ItO K H0 H σ e v d ds) (w : Wd K H0 H σ e) (hr : ∀ J, Serve K fr J ds H0 H σ e → R J H) :
    (∃ a xs, v = .ref a ∧ SqL K H a xs ∧ R (Itl K a) H) ∨ (∃ a xs, v = .ref a ∧ SqT K H a xs ∧ R (Itt K a) H) ∨ ∃ z, v = .str z ∧ R (Its z) H := by
  cases h with
  | lst _ r f => exact .inl ⟨_, _, rfl, f _ _ _ _ w .refl, hr _ (serve_l r f)⟩
  | tup _ r f => exact .inr (.inl ⟨_, _, rfl, f _ _ _ _ w .refl, hr _ (serve_t r f)⟩)
  | str z => exact .inr (.inr ⟨z, rfl, hr _ serve_s⟩)
end
def itF (fa : Fe) : Fi := fun e => (fa e).bind fun t e1 => itT t.fr e1
theorem Rz.bind_ok_id {α : Type} (r : Rz α) : (r.bind fun a e => .ok a e) = r := by cases r <;> rfl
theorem vi_any {X : Cx} {W : WX} {tg a : Expr} {fa : Fe} (he : VE X W a fa) : VI X W true tg a (itF fa) := by
  refine pi_imp (pi_any he) fun σ H R ⟨H0, e, w, h⟩ => ?_
  refine tE_then w h fun t e1 v H01 H1 q1 w1 a1 r1 h1 => ?_
  rw [← Rz.bind_ok_id (itT t.fr e1)] at h1
  obtain ⟨d, ds, e2, H02, _, w2, a2, o, h2⟩ := itT_of w1 r1 h1
  exact o.use w2 (h2 H02 H1 w2 a2)
/-! ### range -/
def upto (i : Int) (n : Nat) : List D := (List.range n).map fun (k : Nat) => D.int (i + (k : Int))
def downto (i : Int) (n : Nat) : List D := (List.range n).map fun (k : Nat) => D.int (i + (k : Int) * (-1))
def sm62 (i : Int) : Bool := decide (-(2 ^ 62) ≤ i) && decide (i < 2 ^ 62)
theorem sm62_ok {i : Int} (h : sm62 i = true) : -(2 ^ 62) ≤ i ∧ i < 2 ^ 62 := by
  unfold sm62 at h
  simp only [Bool.and_eq_true, decide_eq_true_eq] at h
  exact h
def rng1 : List D → Option (List D)
  | [.int j] => if sm62 j = true then some (upto 0 j.toNat) else none
  | _ => none
def rng2 : List D → Option (List D)
  | [.int i, .int j] => if (sm62 i && sm62 j) = true then some (upto i (j - i).toNat) else none
  | _ => none
def rng3 : List D → Option (List D)
  | [.int i, .int j, .int c] => if (sm62 i && sm62 j && decide (c = -1)) = true then some (downto i (i - j).toNat) else none
  | _ => none
def rngF (f : List D → Option (List D)) (fs : Fa) : Fi := fun e => (fs e).bind fun ts e1 => match looks e1 ts with
  | some ds => (match f ds with
    | some xs => .ok xs e1
    | none => .bad)
  | none => .bad
section
variable {K : PySem.W.Frag} {H0 H H01 H1 H0' H' H0s Hs : Hp} {σ σ1 σs : L2.St} {e e1 es : En} {W : WX} {v : V} {ds : List D}
theorem serve_up {fr : Bool} (i : Int) (n : Nat) : Serve K fr (Itr i n) (upto i n) H0 H σ e := by
  intro k H0' H' σ' e' w' a'
  have hl : (upto i n).length = n := by unfold upto; rw [List.length_map, List.length_range]
  refine ⟨fun q => by show n ≤ k; omega, fun d hd => ?_⟩
  unfold upto at hd
  rw [List.getElem?_map] at hd
  cases q : (List.range n)[k]? with
  | none => rw [q] at hd; cases hd
  | some c =>
    rw [q] at hd
    cases hd
    have hk : k < n := by simpa using (List.getElem?_eq_some_iff.mp q).1
    rw [List.getElem?_range hk] at q
    cases q
    refine ⟨hk, fun x H'' y => ?_⟩
    obtain ⟨rfl, rfl⟩ := y
    exact ⟨H0', .refl w'.sub, .inl (.int _)⟩
theorem serve_down {fr : Bool} (i : Int) (n : Nat) : Serve K fr (Itc i (-1) n) (downto i n) H0 H σ e := by
  intro k H0' H' σ' e' w' a'
  have hl : (downto i n).length = n := by unfold downto; rw [List.length_map, List.length_range]
  refine ⟨fun q => by show n ≤ k; omega, fun d hd => ?_⟩
  unfold downto at hd
  rw [List.getElem?_map] at hd
  cases q : (List.range n)[k]? with
  | none => rw [q] at hd; cases hd
  | some c =>
    rw [q] at hd
    cases hd
    have hk : k < n := by simpa using (List.getElem?_eq_some_iff.mp q).1
    rw [List.getElem?_range hk] at q
    cases q
    refine ⟨hk, fun x H'' y => ?_⟩
    obtain ⟨rfl, rfl⟩ := y
    exact ⟨H0', .refl w'.sub, .inl (.int _)⟩
end
section
variable {X : Cx} {W : WX} {tg a b c : Expr} {fs : Fa} {p pos : Pos}
theorem rngF_of {K : PySem.W.Frag} {f : List D → Option (List D)} {σ : L2.St} {H : Hp} {fr : Bool} {R : It → Hp → Prop} {Z : List V → Hp → Prop} (h : tI K W fr (rngF f fs) σ H R)
    (hz : ∀ ds xs vs H0 H σ e, Wd K H0 H σ e → Opds K H0 H vs ds → f ds = some xs → (∀ J, Serve K fr J xs H0 H σ e → R J H) → Z vs H) : tA K W fs σ H Z := by
  obtain ⟨H0, e, w, h⟩ := h
  refine tA_then w h fun ts e1 vs H01 H1 q1 w1 a1 r1 h1 => ?_
  cases q : looks e1 ts with
  | none => simp only [q] at h1; exact h1.elim
  | some ds =>
    cases q2 : f ds with
    | none => simp only [q, q2] at h1; exact h1.elim
    | some xs =>
      simp only [q, q2] at h1
      exact hz ds xs vs H01 H1 σ e1 w1 (looks_ok w1 r1 q) q2 (h1 H01 H1 w1 .refl)
theorem vi_range1 (hg : Gl X "range") (hm : X.mg "range" = none) (ha : VA X W [a] fs) (hs : starEach [a] X.env = [(false, eval a X.env)] := by rfl) : VI X W true tg (.Call (.Name "range" p) [a] [] pos) (rngF rng1 fs) := by
  refine pi_imp (pi_range1 hg hm ha hs) fun σ H R h => rngF_of h fun ds xs vs H0 H σ e w o q hr => ?_
  unfold rng1 at q
  split at q
  · rename_i j
    split at q
    · rename_i z
      cases q
      obtain ⟨v, rfl, o1⟩ := o.one
      obtain ⟨z1, z2⟩ := sm62_ok z
      exact ⟨j, by rw [o1.int], z1, z2, hr _ (serve_up 0 j.toNat)⟩
    · cases q
  · cases q
theorem vi_range2 (hg : Gl X "range") (hm : X.mg "range" = none) (ha : VA X W [a, b] fs) (hs : starEach [a, b] X.env = [(false, eval a X.env), (false, eval b X.env)] := by rfl) (hs2 : starEach [b] X.env = [(false, eval b X.env)] := by rfl) : VI X W true tg (.Call (.Name "range" p) [a, b] [] pos) (rngF rng2 fs) := by
  refine pi_imp (pi_range2 hg hm ha hs hs2) fun σ H R h => rngF_of h fun ds xs vs H0 H σ e w o q hr => ?_
  unfold rng2 at q
  split at q
  · rename_i i j
    split at q
    · rename_i z
      cases q
      obtain ⟨v, u, rfl, o1, o2⟩ := o.two
      obtain ⟨z1, z2⟩ := Bool.and_eq_true_iff.mp z
      obtain ⟨z1, z3⟩ := sm62_ok z1
      obtain ⟨z2, z4⟩ := sm62_ok z2
      exact ⟨i, j, by rw [o1.int, o2.int], ⟨z1, z3, z2, z4⟩, hr _ (serve_up i (j - i).toNat)⟩
    · cases q
  · cases q
theorem vi_range3 (hg : Gl X "range") (hm : X.mg "range" = none) (ha : VA X W [a, b, c] fs) (hs : starEach [a, b, c] X.env = (false, eval a X.env) :: starEach [b, c] X.env := by rfl) (hpl : (backTo pos (starEach [b, c] X.env)).any (·.1) = false := by rfl) : VI X W true tg (.Call (.Name "range" p) [a, b, c] [] pos) (rngF rng3 fs) := by
  refine pi_imp (pi_range3 hg hm ha hs hpl) fun σ H R h => rngF_of h fun ds xs vs H0 H σ e w o q hr => ?_
  unfold rng3 at q
  split at q
  · rename_i i j c
    split at q
    · rename_i z
      cases q
      cases o with
      | cons o1 o =>
        obtain ⟨v, u, rfl, o2, o3⟩ := o.two
        obtain ⟨z, z5⟩ := Bool.and_eq_true_iff.mp z
        obtain ⟨z1, z2⟩ := Bool.and_eq_true_iff.mp z
        obtain ⟨z1, z3⟩ := sm62_ok z1
        obtain ⟨z2, z4⟩ := sm62_ok z2
        have z6 : c = -1 := of_decide_eq_true z5
        subst z6
        exact ⟨i, j, -1, (i - j).toNat, by rw [o1.int, o2.int, o3.int], .neg z1 z3 z2 z4, hr _ (serve_down i (i - j).toNat)⟩
    · cases q
  · cases q
end

/-! ### enumerate, zip -/
def enumL (ds : List D) : List D := ds.zipIdx.map fun p => .tup [.int p.2, p.1]
def zipL (ds es : List D) : List D := List.zipWith (fun a b => .tup [a, b]) ds es
def seqO : Option D → Bool
  | some d => isL d || isT d
  | none => false
def enF (fa : Fe) : Fi := fun e => (fa e).bind fun t e1 => if seqO (look e1 t.fr) = true then (itT t.fr e1).bind fun ds e2 => .ok (enumL ds) e2 else .bad
def sameK : Option D → Option D → Bool
  | some x, some y => (isL x && isL y) || (isT x && isT y)
  | _, _ => false
def ziF (fs : Fa) : Fi := fun e => (fs e).bind fun ts e1 => match ts with
  | [t, u] => (itT t e1).bind fun ds e2 => (itT u e2).bind fun es e3 => if sameK (look e1 t) (look e2 u) = true then .ok (zipL ds es) e3 else .bad
  | _ => .bad
section
variable {K : PySem.W.Frag} {H0 H H01 H1 H0' H' H0s Hs : Hp} {σ σ1 σs : L2.St} {e e1 es : En} {W : WX} {v : V} {ds : List D}
theorem enumL_get {ds : List D} {i : Nat} {d : D} (h : (enumL ds)[i]? = some d) : ∃ x, ds[i]? = some x ∧ d = .tup [.int (i : Nat), x] := by
  unfold enumL at h
  rw [List.getElem?_map, List.getElem?_zipIdx] at h
  cases q : ds[i]? with
  | none => rw [q] at h; cases h
  | some x =>
    rw [q] at h
    simp at h
    exact ⟨x, rfl, h.symm⟩
theorem yt_pair {T : Addr} {x y : V} {a b : D} (w : Wd K H0 H σ e) (n : H T = none) (ra : Rep K H0 x a) (rb : Rep K H0 y b) :
    ∃ H0'', Step H0 H H0'' (upd H T (.tup [x, y])) ∧ YT K false H0'' (upd H T (.tup [x, y])) (.ref T) (.tup [a, b]) :=
  ⟨H0, .new w.sub n, .inr ⟨rfl, T, [x, y], [a, b], rfl, rfl, SqT.of upd_same, .cons ra (.cons rb .nil)⟩⟩
theorem serve_e {a : Addr} {vs : List V} (r : Reps K H0 vs ds) (f : ∀ H0' H' σ' e', Wd K H0' H' σ' e' → After K H0 H σ e H0' H' σ' e' → SqL K H' a vs) : Serve K false (Ite K a) (enumL ds) H0 H σ e := by
  intro i H0' H' σ' e' w' a'
  have q := f _ _ _ _ w' a'
  have hl : (enumL ds).length = ds.length := by unfold enumL; rw [List.length_map, List.length_zipIdx]
  refine ⟨fun z => ⟨vs, q, by rw [z, r.length, hl]; exact Nat.le_refl _⟩, fun d hd => ?_⟩
  obtain ⟨x, hx, rfl⟩ := enumL_get hd
  obtain ⟨v, hv, rv⟩ := r.get hx
  refine ⟨⟨vs, v, q, hv⟩, fun y H'' yy => ?_⟩
  obtain ⟨T, u, rfl, hn, rfl, y⟩ := yy
  have := y vs q
  rw [hv] at this; cases this
  exact yt_pair w' hn (.int _) (rv.mono a'.s0)
theorem serve_eT {a : Addr} {vs : List V} (r : Reps K H0 vs ds) (f : ∀ H0' H' σ' e', Wd K H0' H' σ' e' → After K H0 H σ e H0' H' σ' e' → SqT K H' a vs) : Serve K false (IteT K a) (enumL ds) H0 H σ e := by
  intro i H0' H' σ' e' w' a'
  have q := f _ _ _ _ w' a'
  have hl : (enumL ds).length = ds.length := by unfold enumL; rw [List.length_map, List.length_zipIdx]
  refine ⟨fun z => ⟨vs, q, by rw [z, r.length, hl]; exact Nat.le_refl _⟩, fun d hd => ?_⟩
  obtain ⟨x, hx, rfl⟩ := enumL_get hd
  obtain ⟨v, hv, rv⟩ := r.get hx
  refine ⟨⟨vs, v, q, hv⟩, fun y H'' yy => ?_⟩
  obtain ⟨T, u, rfl, hn, rfl, y⟩ := yy
  have := y vs q
  rw [hv] at this; cases this
  exact yt_pair w' hn (.int _) (rv.mono a'.s0)
theorem zipL_get {ds fs : List D} {i : Nat} {d : D} (h : (zipL ds fs)[i]? = some d) : ∃ x y, ds[i]? = some x ∧ fs[i]? = some y ∧ d = .tup [x, y] := by
  unfold zipL at h
  rw [List.getElem?_zipWith] at h
  cases q : ds[i]? with
  | none => rw [q] at h; cases h
  | some x =>
    cases q2 : fs[i]? with
    | none => rw [q, q2] at h; cases h
    | some y =>
      rw [q, q2] at h
      cases h
      exact ⟨x, y, rfl, rfl, rfl⟩
theorem zipL_len (ds fs : List D) : (zipL ds fs).length = min ds.length fs.length := by unfold zipL; rw [List.length_zipWith]
theorem serve_z {a b : Addr} {vs ws : List V} {fs : List D} (r : Reps K H0 vs ds) (r2 : Reps K H0 ws fs) (f : ∀ H0' H' σ' e', Wd K H0' H' σ' e' → After K H0 H σ e H0' H' σ' e' → SqL K H' a vs)
    (g : ∀ H0' H' σ' e', Wd K H0' H' σ' e' → After K H0 H σ e H0' H' σ' e' → SqL K H' b ws) : Serve K false (Itz K a b) (zipL ds fs) H0 H σ e := by
  intro i H0' H' σ' e' w' a'
  have q := f _ _ _ _ w' a'
  have q2 := g _ _ _ _ w' a'
  refine ⟨fun z => ⟨vs, ws, q, q2, by rw [z, r.length, r2.length, zipL_len]; omega⟩, fun d hd => ?_⟩
  obtain ⟨x, y, hx, hy, rfl⟩ := zipL_get hd
  obtain ⟨v, hv, rv⟩ := r.get hx
  obtain ⟨u, hu, ru⟩ := r2.get hy
  refine ⟨⟨vs, ws, v, u, q, q2, hv, hu⟩, fun y H'' yy => ?_⟩
  obtain ⟨T, x', y', rfl, hn, rfl, y1, y2⟩ := yy
  have := y1 vs q
  rw [hv] at this; cases this
  have := y2 ws q2
  rw [hu] at this; cases this
  exact yt_pair w' hn (rv.mono a'.s0) (ru.mono a'.s0)
theorem serve_zT {a b : Addr} {vs ws : List V} {fs : List D} (r : Reps K H0 vs ds) (r2 : Reps K H0 ws fs) (f : ∀ H0' H' σ' e', Wd K H0' H' σ' e' → After K H0 H σ e H0' H' σ' e' → SqT K H' a vs)
    (g : ∀ H0' H' σ' e', Wd K H0' H' σ' e' → After K H0 H σ e H0' H' σ' e' → SqT K H' b ws) : Serve K false (RZ.ItzT K a b) (zipL ds fs) H0 H σ e := by
  intro i H0' H' σ' e' w' a'
  have q := f _ _ _ _ w' a'
  have q2 := g _ _ _ _ w' a'
  refine ⟨fun z => ⟨vs, ws, q, q2, by rw [z, r.length, r2.length, zipL_len]; omega⟩, fun d hd => ?_⟩
  obtain ⟨x, y, hx, hy, rfl⟩ := zipL_get hd
  obtain ⟨v, hv, rv⟩ := r.get hx
  obtain ⟨u, hu, ru⟩ := r2.get hy
  refine ⟨⟨vs, ws, v, u, q, q2, hv, hu⟩, fun y H'' yy => ?_⟩
  obtain ⟨T, x', y', rfl, hn, rfl, y1, y2⟩ := yy
  have := y1 vs q
  rw [hv] at this; cases this
  have := y2 ws q2
  rw [hu] at this; cases this
  exact yt_pair w' hn (rv.mono a'.s0) (ru.mono a'.s0)
end
theorem isLT {d : D} (h : isL d = true) (h' : isT d = true) : False := by cases d <;> first | (cases h; done) | (cases h'; done)
section
variable {X : Cx} {W : WX} {tg a b c : Expr} {fa : Fe} {fs : Fa} {p pos tpos : Pos} {elts : List Expr} {kk : Nat}
theorem vi_enum (hg : Gl X "enumerate") (hm : X.mg "enumerate" = none) (ha : VE X W a fa) (hs : starEach [a] X.env = [(false, eval a X.env)] := by rfl) : VI X W false (.Tuple elts kk tpos) (.Call (.Name "enumerate" p) [a] [] pos) (enF fa) := by
  have ha' : PA X [a] (tCons (tE X.K W fa) tNil) := pa_cons ha pa_nil hs
  refine pi_imp (pi_enumA hg hm ha' hs) fun σ H R ⟨H0, e, w, h⟩ => ?_
  refine tE_then w h fun t e1 v H01 H1 q1 w1 a1 r1 h1 => ?_
  show ∃ a xs, [v] = [.ref a] ∧ _
  by_cases hk : seqO (look e1 t.fr) = true
  · rw [if_pos hk] at h1
    obtain ⟨d, ds, e2, H02, hl, w2, a2, o, h2⟩ := itT_of w1 r1 h1
    have h3 := h2.ok_refl' w2 a2
    rw [hl] at hk
    cases o with
    | lst k r f => exact ⟨_, _, rfl, .inl ⟨f _ _ _ _ w2 .refl, h3 _ (serve_e r f)⟩⟩
    | tup k r f => exact ⟨_, _, rfl, .inr ⟨f _ _ _ _ w2 .refl, h3 _ (serve_eT r f)⟩⟩
    | str z => cases hk
  · rw [if_neg hk] at h1; exact h1.elim
theorem vi_zip (hg : Gl X "zip") (hm : X.mg "zip" = none) (ha : VA X W [a, b] fs) (hs : starEach [a, b] X.env = (false, eval a X.env) :: starEach [b] X.env := by rfl) (hpl : (backTo pos (starEach [b] X.env)).any (·.1) = false := by rfl) :
    VI X W false (.Tuple elts kk tpos) (.Call (.Name "zip" p) [a, b] [] pos) (ziF fs) := by
  refine pi_imp (RZ.pi_zipA hg hm ha hs hpl) fun σ H R ⟨H0, e, w, h⟩ => ?_
  refine tA_then w h fun ts e1 vs H01 H1 q1 w1 a1 r1 h1 => ?_
  cases r1 with
  | nil => exact h1.elim
  | cons r1 rs =>
    cases rs with
    | nil => exact h1.elim
    | cons r2 rs =>
      cases rs with
      | cons _ _ => exact h1.elim
      | nil =>
        rename_i v t u y
        have h1' : Gy X.K W σ H01 H1 e1 ((itT t e1).bind fun ds e2 => (itT y e2).bind fun es e3 => if sameK (look e1 t) (look e2 y) = true then .ok (zipL ds es) e3 else .bad) fun ds e' H0' H' => ∀ J, Serve X.K false J ds H0' H' σ e' → R J H' := h1
        obtain ⟨d, ds, e2, H02, hl, w2, a2, o, h2⟩ := itT_of w1 r1 h1'
        have h2 := Gy.mid' a2 h2
        obtain ⟨d', ds', e3, H03, hl', w3, a3, o', h3⟩ := itT_of w2 (r2.mono a2.s0) h2
        have h3 := Gy.mid' a3 h3
        by_cases hk : sameK (look e1 t) (look e2 y) = true
        · rw [if_pos hk] at h3
          have h4 := h3.ok_refl w3
          rw [hl, hl'] at hk
          have hk' : ((isL d && isL d') || (isT d && isT d')) = true := hk
          have o1 := o.mono a3
          cases o1 with
          | lst k1 r1 f1 =>
            cases o' with
            | lst k2 r2 f2 => exact ⟨_, _, _, _, rfl, .inl ⟨f1 _ _ _ _ w3 .refl, f2 _ _ _ _ w3 .refl, h4 _ (serve_z r1 r2 f1 f2)⟩⟩
            | tup k2 r2 f2 =>
              exfalso
              simp only [Bool.or_eq_true, Bool.and_eq_true] at hk'
              rcases hk' with ⟨_, z⟩ | ⟨z, _⟩
              · exact isLT z k2
              · exact isLT k1 z
            | str z => cases d <;> cases hk'
          | tup k1 r1 f1 =>
            cases o' with
            | tup k2 r2 f2 => exact ⟨_, _, _, _, rfl, .inr ⟨f1 _ _ _ _ w3 .refl, f2 _ _ _ _ w3 .refl, h4 _ (serve_zT r1 r2 f1 f2)⟩⟩
            | lst k2 r2 f2 =>
              exfalso
              simp only [Bool.or_eq_true, Bool.and_eq_true] at hk'
              rcases hk' with ⟨z, _⟩ | ⟨_, z⟩
              · exact isLT z k1
              · exact isLT k2 z
            | str z => cases d <;> cases hk'
          | str z => cases hk'
        · rw [if_neg hk] at h3; exact h3.elim
end
end VL

/-! VLk: list comprehensions by value. -/
namespace VL
open PySem PySem.Spec L2

def wipeE (e : En) : List Nat → En
  | [] => e
  | v :: vs => (wipeE e vs).set v .un
def keepF : Option Sl → Sl
  | some (.fz d) => .fz d
  | _ => .un
/-- the block's own slots as they were -/
def unw (e : En) : En → List Nat → En
  | e', [] => e'
  | e', v :: vs => unw e (e'.set v (keepF e[v]?)) vs
def Rz.nox {α : Type} : Rz α → Rz α
  | .ok a e => .ok a e
  | _ => .bad
def cmpA (g : D → En → Option En) (ifs : Ft) (el : Fe) (vs : List Nat) : List D → List D → En → Rz (List D)
  | acc, [], e => .ok acc e
  | acc, d :: ds, e => match g d e with
    | none => .bad
    | some e1 => (ifs e1).nox.bind fun k e2 => match k with
      | false => cmpA g ifs el vs acc ds (wipeE e2 vs)
      | true => (el e2).nox.bind fun t e3 => (frzT t e3).bind fun y e4 => cmpA g ifs el vs (acc ++ [y]) ds (wipeE e4 vs)
def dLc (fi : Fi) (g : D → En → Option En) (ifs : Ft) (el : Fe) (vs : List Nat) : Fe := fun e => (fi e).bind fun ds e1 => if Nat.ble ds.length 100000 = true then (cmpA g ifs el vs [] ds (wipeE e1 vs)).bind fun ys e2 => .ok (.nw (.lst ys)) (unw e1 (wipeE e2 vs) vs) else .bad
def dYes : Ft := fun e => .ok true e
abbrev WF : WX := fun _ _ _ _ => False

section
variable {K : PySem.W.Frag} {H0 H H01 H1 H0' H' H0s Hs : Hp} {σ σ1 σs : L2.St} {e e1 e' es : En} {W : WX} {v : V} {ds : List D}
theorem wipe_get {vs : List Nat} {i : Nat} (h : i ∉ vs) : (wipe σ vs)[i]? = σ[i]? := by
  induction vs with
  | nil => rfl
  | cons v vs ih =>
    rw [List.mem_cons, not_or] at h
    show ((wipe σ vs).set v none)[i]? = _
    rw [List.getElem?_set_ne (Ne.symm h.1), ih h.2]
theorem wipeE_get {vs : List Nat} {i : Nat} (h : i ∉ vs) : (wipeE e vs)[i]? = e[i]? := by
  induction vs with
  | nil => rfl
  | cons v vs ih =>
    rw [List.mem_cons, not_or] at h
    show ((wipeE e vs).set v Sl.un)[i]? = _
    rw [List.getElem?_set_ne (Ne.symm h.1), ih h.2]
theorem wipeE_len {vs : List Nat} : (wipeE e vs).length = e.length := by
  induction vs with
  | nil => rfl
  | cons v vs ih => show ((wipeE e vs).set v Sl.un).length = _; rw [List.length_set, ih]
theorem wipeE_in {vs : List Nat} {i : Nat} {s : Sl} (h : i ∈ vs) (q : (wipeE e vs)[i]? = some s) : s = .un := by
  induction vs with
  | nil => cases h
  | cons v vs ih =>
    have q' : ((wipeE e vs).set v Sl.un)[i]? = some s := q
    rcases get_set q' with ⟨rfl, z, _⟩ | ⟨ne, z⟩
    · exact z
    · rcases List.mem_cons.mp h with h | h
      · exact (ne h.symm).elim
      · exact ih h z
theorem wipe_eq {vs : List Nat} (hl : σ1.length = σ.length) (hk : ∀ j, j ∉ vs → σ1[j]? = σ[j]?) : wipe σ1 vs = wipe σ vs := by
  apply List.ext_getElem?
  intro i
  by_cases hi : i ∈ vs
  · have key : ∀ (σ : L2.St) (vs : List Nat), i ∈ vs → (wipe σ vs)[i]? = if i < σ.length then some none else none := by
      intro σ vs hi
      induction vs with
      | nil => cases hi
      | cons v vs ih =>
        show ((wipe σ vs).set v none)[i]? = _
        by_cases hv : v = i
        · subst hv
          rw [List.getElem?_set]
          simp only [if_true, wipe_length]
        · rw [List.getElem?_set_ne hv]
          rcases List.mem_cons.mp hi with h | h
          · exact (hv h.symm).elim
          · exact ih h
    rw [key σ1 vs hi, key σ vs hi, hl]
  · rw [wipe_get hi, wipe_get hi, hk i hi]
/-- the slots in vs forgotten; the others are the same -/
theorem wd_un {vs : List Nat} (w : Wd K H0 H σ e) (hl : σ1.length = σ.length) (hk : ∀ j, j ∉ vs → σ1[j]? = σ[j]?) : Wd K H0 H σ1 (wipeE e vs) := by
  have at' : ∀ {i : Nat} {s : Sl}, (wipeE e vs)[i]? = some s → s ≠ .un → e[i]? = some s ∧ σ1[i]? = σ[i]? := fun {i s} q n => by
    by_cases hi : i ∈ vs
    · exact (n (wipeE_in hi q)).elim
    · rw [wipeE_get hi] at q; exact ⟨q, hk i hi⟩
  have own : ∀ {b : Addr}, Own σ1 (wipeE e vs) b → Own σ e b := fun {b} ⟨i, p, d, h1, h2⟩ => by
    obtain ⟨q1, q2⟩ := at' h1 (fun z => by cases z)
    exact ⟨i, p, d, q1, by rw [← q2]; exact h2⟩
  refine ⟨w.sub, by rw [hl, wipeE_len]; exact w.len, fun i d h => ?_, fun i p d h => ?_, fun i d h => ?_, fun i j p p' d d' a h1 h2 h3 h4 => ?_⟩
  · obtain ⟨q1, q2⟩ := at' h (fun z => by cases z)
    rw [q2]; exact w.fz i d q1
  · obtain ⟨q1, q2⟩ := at' h (fun z => by cases z)
    rw [q2]; exact w.ow i p d q1
  · obtain ⟨q1, q2⟩ := at' h (fun z => by cases z)
    rw [q2]
    obtain ⟨v, h1, h2⟩ := w.bw i d q1
    exact ⟨v, h1, h2.imp id fun ⟨a, z1, z2, z3⟩ => ⟨a, z1, z2, fun o => z3 (own o)⟩⟩
  · obtain ⟨q1, q2⟩ := at' h1 (fun z => by cases z)
    obtain ⟨q3, q4⟩ := at' h2 (fun z => by cases z)
    rw [q2] at h3; rw [q4] at h4
    exact w.inj i j p p' d d' a q1 q3 h3 h4
theorem after_un {vs : List Nat} (a : After K H0s Hs σs es H0 H σ e) (hk : ∀ j, j ∉ vs → σ1[j]? = σ[j]?) : After K H0s Hs σs es H0 H σ1 (wipeE e vs) := by
  have at' : ∀ {i : Nat} {s : Sl}, (wipeE e vs)[i]? = some s → s ≠ .un → e[i]? = some s ∧ σ1[i]? = σ[i]? := fun {i s} q n => by
    by_cases hi : i ∈ vs
    · exact (n (wipeE_in hi q)).elim
    · rw [wipeE_get hi] at q; exact ⟨q, hk i hi⟩
  refine ⟨a.s0, a.keep, a.off, a.thr, fun b ⟨i, p, d, h1, h2⟩ => ?_, fun i d h => ?_, fun i d h => ?_⟩
  · obtain ⟨q1, q2⟩ := at' h1 (fun z => by cases z)
    exact a.own b ⟨i, p, d, q1, by rw [← q2]; exact h2⟩
  · obtain ⟨q1, q2⟩ := at' h (fun z => by cases z)
    rw [q2]; exact a.pin i d q1
  · obtain ⟨q1, q2⟩ := at' h (fun z => by cases z)
    rw [q2]; exact a.pinb i d q1
/-- back: the frozen ones as they were -/
theorem unw_wd : ∀ {us : List Nat} {e' : En}, Wd K H0' H' σ e' → After K H0s Hs σs es H0' H' σ e' → (∀ i ∈ us, ∀ s, e'[i]? = some s → (∃ d, s = .fz d) ∨ s = .un) → (∀ (i : Nat) d, e[i]? = some (.fz d) → ∃ v, σ[i]? = some (some v) ∧ Rep K H0' v d) →
    Wd K H0' H' σ (unw e e' us) ∧ After K H0s Hs σs es H0' H' σ (unw e e' us) ∧ (∀ b, Own σ (unw e e' us) b → Own σ e' b) ∧ ∀ (j : Nat) (b : D), (unw e e' us)[j]? = some (.bw b) → e'[j]? = some (.bw b)
  | [], e', w, a, _, _ => ⟨w, a, fun _ h => h, fun _ _ h => h⟩
  | v :: us, e', w, a, hu, hf => by
    have q : (keepF e[v]? = .un) ∨ ∃ d, e[v]? = some (.fz d) := by
      cases z : e[v]? with
      | none => exact .inl rfl
      | some s => cases s with
        | fz d => exact .inr ⟨d, rfl⟩
        | _ => exact .inl rfl
    have step : Wd K H0' H' σ (e'.set v (keepF e[v]?)) ∧ After K H0s Hs σs es H0' H' σ (e'.set v (keepF e[v]?)) := by
      have aft : ∀ s : Sl, (∀ p d, s ≠ .ow p d) → (∀ d, s ≠ .bw d) → After K H0s Hs σs es H0' H' σ (e'.set v s) := fun s hs hb =>
        ⟨a.s0, a.keep, a.off, a.thr, fun b o => a.own b (Own.of_set hs o).1, fun i d h => by
          rcases get_set h with ⟨_, z, _⟩ | ⟨_, z⟩
          · exact (hs _ _ z.symm).elim
          · exact a.pin i d z, fun i d h => by
          rcases get_set h with ⟨_, z, _⟩ | ⟨_, z⟩
          · exact (hb _ z.symm).elim
          · exact a.pinb i d z⟩
      rcases q with q | ⟨d, q⟩
      · rw [q]; exact ⟨w.set_un v, aft _ (fun p d z => by cases z) (fun d z => by cases z)⟩
      · rw [q]
        obtain ⟨x, h1, h2⟩ := hf v d q
        exact ⟨w.set_fz h1 h2, aft _ (fun p d z => by cases z) (fun d z => by cases z)⟩
    have nks : (∀ p d, keepF e[v]? ≠ .ow p d) ∧ ∀ d, keepF e[v]? ≠ .bw d := by
      rcases q with q | ⟨d, q⟩
      · rw [q]; exact ⟨fun p d z => (nomatch z), fun d z => (nomatch z)⟩
      · rw [q]; exact ⟨fun p d z => (nomatch z), fun d z => (nomatch z)⟩
    obtain ⟨r1, r2, r3, r4⟩ := unw_wd (us := us) step.1 step.2 (fun i hi s hs => by
      rcases get_set hs with ⟨rfl, z, _⟩ | ⟨_, z⟩
      · rcases q with q | ⟨d, q⟩
        · rw [q] at z; exact .inr z
        · rw [q] at z; exact .inl ⟨d, z⟩
      · exact hu i (List.mem_cons_of_mem _ hi) s z) hf
    refine ⟨r1, r2, fun b o => (Own.of_set nks.1 (r3 b o)).1, fun j b z => ?_⟩
    rcases get_set (r4 j b z) with ⟨_, z, _⟩ | ⟨_, z⟩
    · exact (nks.2 _ z.symm).elim
    · exact z
theorem tE_n {f : Fe} {β : Type} {g : Tg → En → Rz β} {c : β} {ec : En} {Z : VK} (w : Wd K H0 H σ e) (h : (f e).nox.bind g = .ok c ec)
    (hz : ∀ t e1 v H01 H1, Wd K H01 H1 σ e1 → After K H0 H σ e H01 H1 σ e1 → RepT K H01 H1 H σ e1 v t → g t e1 = .ok c ec → Z v H1) : tE K WF f σ H Z := by
  refine ⟨H0, e, w, ?_⟩
  cases q : f e with
  | ok t e1 =>
    rw [q] at h
    exact fun H01 H1 w1 a1 v r1 => hz t e1 v H01 H1 w1 a1 r1 h
  | ex x e1 => rw [q] at h; cases h
  | bad => rw [q] at h; cases h
theorem tT_n {f : Ft} {β : Type} {g : Bool → En → Rz β} {c : β} {ec : En} {Z : Bool → Hp → Prop} (w : Wd K H0 H σ e) (h : (f e).nox.bind g = .ok c ec)
    (hz : ∀ t e1 H01 H1, Wd K H01 H1 σ e1 → After K H0 H σ e H01 H1 σ e1 → g t e1 = .ok c ec → Z t H1) : tT K WF f σ H Z := by
  refine ⟨H0, e, w, ?_⟩
  cases q : f e with
  | ok t e1 =>
    rw [q] at h
    exact fun H01 H1 w1 a1 => hz t e1 H01 H1 w1 a1 h
  | ex x e1 => rw [q] at h; cases h
  | bad => rw [q] at h; cases h
theorem wd_write {Da : Addr} {xs xs' : List V} (w : Wd K H0 H σ e) (hD : H Da = some (.lst xs)) (n : H0 Da = none) (no : ¬ Own σ e Da) (nb : ∀ (j : Nat) (b : D), e[j]? = some (Sl.bw b) → σ[j]? = some (some (V.ref Da)) → Rep K H0 (.ref Da) b) : Wd K H0 (upd H Da (.lst xs')) σ e where
  sub := fun b o q => by
    by_cases z : b = Da
    · subst z; rw [n] at q; cases q
    · rw [upd_ne z]; exact w.sub _ _ q
  len := w.len
  fz := w.fz
  ow := fun i p d h => by
    obtain ⟨a, h1, h2⟩ := w.ow i p d h
    have na : a ≠ Da := fun z => no ⟨i, p, d, h, by rw [← z]; exact h1⟩
    refine ⟨a, h1, h2.keep (.refl _) fun b o hb q => ⟨?_, id⟩⟩
    have : b ≠ Da := fun z => by
      subst z
      rcases hb with hb | hb
      · exact na hb.symm
      · rw [hD] at hb; cases hb
    rw [upd_ne this]; exact q
  bw := fun i d h => by
    obtain ⟨v, h1, h2⟩ := w.bw i d h
    refine ⟨v, h1, ?_⟩
    rcases h2 with h2 | ⟨a, q1, q2, q3⟩
    · exact .inl h2
    · by_cases z : a = Da
      · subst z; subst q1; exact .inl (nb i d h h1)
      · refine .inr ⟨a, q1, q2.keep (.refl _) fun b o hb q => ⟨?_, id⟩, q3⟩
        have : b ≠ Da := fun y => by
          subst y
          rcases hb with hb | hb
          · exact z hb.symm
          · rw [hD] at hb; cases hb
        rw [upd_ne this]; exact q
  inj := w.inj
theorem after_write {Da : Addr} {o : HO} (a : After K H0s Hs σs es H0 H σ e) (n : Hs Da = none) : After K H0s Hs σs es H0 (upd H Da o) σ e :=
  ⟨a.s0, fun b o q h => by rw [upd_ne (ne_of_none q n)]; exact a.keep b o q h, a.off, fun b o q => by rw [upd_ne (ne_of_none q n)]; exact a.thr b o q, a.own, a.pin, a.pinb⟩
theorem frzT_ok {t : Tg} {Hs : Hp} {d : D} {e2 : En} (w : Wd K H0 H σ e) (a : After K H0s Hs σ es H0 H σ e) (r : RepT K H0 H Hs σ e v t) (h : frzT t e = .ok d e2) :
    ∃ H01, Wd K H01 H σ e2 ∧ After K H0s Hs σ es H01 H σ e2 ∧ Rep K H01 v d := by
  cases t with
  | fz d' => cases h; exact ⟨H0, w, a, r⟩
  | nw d' =>
    by_cases hd : d'.frb = true
    · have h' : (if d'.frb = true then Rz.ok d' e else .bad) = Rz.ok d e2 := h
      rw [if_pos hd] at h'
      cases h'
      obtain ⟨H01, w1, a1, _, r1⟩ := RepT.fr w a r
      have ef : (Tg.nw d).fr = .fz d := if_pos hd
      rw [ef] at r1
      exact ⟨H01, w1, a1, r1⟩
    · have h' : (if d'.frb = true then Rz.ok d' e else .bad) = Rz.ok d e2 := h
      rw [if_neg hd] at h'; cases h'
  | sl i =>
    have r' : σ[i]? = some (some v) := r
    cases q : e[i]? with
    | none => simp only [frzT, q] at h; cases h
    | some s =>
      cases s with
      | un => simp only [frzT, q] at h; cases h
      | bw d => simp only [frzT, q] at h; cases h
      | fz d =>
        simp only [frzT, q] at h
        cases h
        obtain ⟨v', h1, h2⟩ := w.fz i d q
        rw [r'] at h1; cases h1
        exact ⟨H0, w, a, h2⟩
      | ow p d =>
        cases p with
        | true => simp only [frzT, q] at h; cases h
        | false =>
          by_cases hd : d.frb = true
          · simp only [frzT, q, if_pos hd] at h
            cases h
            obtain ⟨H01, v', h1, h2, w1, a1⟩ := w.freeze q hd
            rw [r'] at h1; cases h1
            exact ⟨H01, w1, a.trans a1, h2⟩
          · simp only [frzT, q, if_neg hd] at h; cases h
end
def VIfs (X : Cx) (W : WX) (ifs : List Expr) (f : Ft) : Prop := PTs X ifs (tT X.K W f)
theorem vifs_nil {X : Cx} {W : WX} : VIfs X W [] dYes := ⟨fun pins s σ H Q I ⟨H0, e, w, h⟩ => pts_nil.run pins s σ H Q I (h H0 H w .refl)⟩
theorem vifs_one {X : Cx} {W : WX} {c : Expr} {f : Ft} (h : VT X W c f) : VIfs X W [c] f := pts_one h
section
variable {K : PySem.W.Frag} {W : WX} {fr : Bool} {fi : Fi} {t : TG} {g : D → En → Option En} {ifs : Ft} {el : Fe} {ts vs : List Nat} {σ : L2.St} {H : Hp} {Q : VK}
theorem imp_lc (hg : TgOk K fr ts t g) (hts : ∀ i ∈ ts, i ∈ vs) (h : tE K W (dLc fi g ifs el vs) σ H Q) : tLc (tI K W fr fi) t (tT K WF ifs) (tE K WF el) vs σ H Q := by
  obtain ⟨H0, e, w, h⟩ := h
  have h : Gy K W σ H0 H e ((fi e).bind fun ds e1 => if Nat.ble ds.length 100000 = true then (cmpA g ifs el vs [] ds (wipeE e1 vs)).bind fun ys e2 => .ok (.nw (.lst ys)) (unw e1 (wipeE e2 vs) vs) else .bad) fun t e' H0' H' => ∀ v, RepT K H0' H' H σ e' v t → Q v H' := h
  refine ⟨H0, e, w, ?_⟩
  cases q : fi e with
  | ex x e1 => rw [q] at h; exact h
  | bad => rw [q] at h; exact h
  | ok ds e1 =>
    rw [q] at h
    intro H01 H1 w1 a1 J sv Da hD
    have h : Gy K W σ H0 H e (if Nat.ble ds.length 100000 = true then (cmpA g ifs el vs [] ds (wipeE e1 vs)).bind fun ys e2 => .ok (.nw (.lst ys)) (unw e1 (wipeE e2 vs) vs) else .bad) fun t e' H0' H' => ∀ v, RepT K H0' H' H σ e' v t → Q v H' := h
    by_cases hz : Nat.ble ds.length 100000 = true
    case neg => rw [if_neg hz] at h; exact h.elim
    rw [if_pos hz] at h
    have hz' := ble100000 hz
    cases qc : cmpA g ifs el vs [] ds (wipeE e1 vs) with
    | ex x e2 => 
      exfalso
      have noex : ∀ (ds acc : List D) (e : En) (x : Er) (e' : En), cmpA g ifs el vs acc ds e ≠ .ex x e' := by
        intro ds
        induction ds with
        | nil => intro acc e x e' z; cases z
        | cons d ds ih =>
          intro acc e x e' z
          unfold cmpA at z
          cases z1 : g d e with
          | none => rw [z1] at z; cases z
          | some e1 =>
            rw [z1] at z
            cases z2 : ifs e1 with
            | ex _ _ => simp only [z2, Rz.nox, Rz.bind_bad] at z; cases z
            | bad => simp only [z2, Rz.nox, Rz.bind_bad] at z; cases z
            | ok k e2 =>
              simp only [z2, Rz.nox, Rz.bind_ok] at z
              cases k with
              | false => exact ih _ _ _ _ z
              | true =>
                cases z3 : el e2 with
                | ex _ _ => simp only [z3, Rz.bind_bad] at z; cases z
                | bad => simp only [z3, Rz.bind_bad] at z; cases z
                | ok t e3 =>
                  simp only [z3, Rz.bind_ok] at z
                  cases z4 : frzT t e3 with
                  | ok y e4 => rw [z4] at z; exact ih _ _ _ _ z
                  | bad => rw [z4] at z; cases z
                  | ex x1 e4 =>
                    cases t with
                    | fz d => cases z4
                    | nw d => simp only [frzT] at z4; split at z4 <;> cases z4
                    | sl i =>
                      simp only [frzT] at z4
                      split at z4
                      · split at z4 <;> cases z4
                      · cases z4
                      · cases z4
      exact noex _ _ _ _ _ qc
    | bad => rw [qc] at h; exact h.elim
    | ok ys e2 =>
    rw [qc] at h
    have st1 : Step H01 H1 H01 (upd H1 Da (.lst [])) := .new w1.sub hD
    have w2 := w1.step st1
    have a2 : After K H01 H1 σ e1 H01 (upd H1 Da (.lst [])) σ e1 := .of_step st1
    have w3 : Wd K H01 (upd H1 Da (.lst [])) (wipe σ vs) (wipeE e1 vs) := wd_un w2 (wipe_length σ vs) fun j hj => wipe_get hj
    have a3 : After K H01 H1 σ e1 H01 (upd H1 Da (.lst [])) (wipe σ vs) (wipeE e1 vs) := after_un a2 fun j hj => wipe_get hj
    have nb : ∀ (j : Nat) (b : D), e1[j]? = some (Sl.bw b) → σ[j]? = some (some (V.ref Da)) → Rep K H01 (.ref Da) b := fun j b z1 z2 => by
      obtain ⟨v', z3, z4⟩ := w1.bw j b z1
      rw [z2] at z3; cases z3
      rcases z4 with z4 | ⟨c, z5, z6, _⟩
      · exact z4
      · cases z5
        obtain ⟨u, hu⟩ := z6.some
        rw [hD] at hu; cases hu
    have nbi : ∀ {H0i Hi : Hp} {σi : L2.St} {ei : En}, After K H01 H1 σ e1 H0i Hi σi ei → ∀ (j : Nat) (b : D), ei[j]? = some (Sl.bw b) → σi[j]? = some (some (V.ref Da)) → Rep K H0i (.ref Da) b := fun {H0i Hi σi ei} ai j b z1 z2 => by
      obtain ⟨z3, z4⟩ := ai.pinb j b z1
      exact (nb j b z4 (by rw [← z3]; exact z2)).mono ai.s0
    have no : ¬ Own (wipe σ vs) (wipeE e1 vs) Da := fun z => by
      have : ∀ b, Own (wipe σ vs) (wipeE e1 vs) b → Own σ e1 b := fun b ⟨i, p, d, z1, z2⟩ => by
        by_cases hi : i ∈ vs
        · cases wipeE_in hi z1
        · rw [wipeE_get hi] at z1; rw [wipe_get hi] at z2; exact ⟨i, p, d, z1, z2⟩
      obtain ⟨d, z⟩ := w1.own_some (this _ z)
      obtain ⟨u, hu⟩ := z.some
      rw [hD] at hu; cases hu
    refine ⟨fun i m Hi => m = ds.length - i ∧ i ≤ ds.length ∧ ∃ H0i ei acc accV, Wd K H0i Hi (wipe σ vs) ei ∧ After K H01 H1 σ e1 H0i Hi (wipe σ vs) ei ∧ Hi Da = some (.lst accV) ∧ Reps K H0i accV acc ∧ H0i Da = none ∧ ¬ Own (wipe σ vs) ei Da ∧ acc.length ≤ i ∧
      cmpA g ifs el vs acc (ds.drop i) ei = .ok ys e2,
      ⟨ds.length, by simp, Nat.zero_le _, H01, wipeE e1 vs, [], [], w3, a3, upd_same, .nil, w1.sub.free hD, no, Nat.zero_le _, qc⟩, ?_⟩
    rintro i m Hi ⟨rfl, hle, H0i, ei, acc, accV, wi, ai, hDi, ri, ni, noi, li, qi⟩
    obtain ⟨s1, s2⟩ := sv i H0i Hi (wipe σ vs) ei wi ai
    by_cases hlt : i < ds.length
    · have hd : ds[i]? = some ds[i] := List.getElem?_eq_getElem hlt
      obtain ⟨go, y⟩ := s2 _ hd
      rw [List.drop_eq_getElem_cons hlt] at qi
      unfold cmpA at qi
      refine .inr ⟨go, _, fun H' z => ⟨ds.length - (i + 1), by omega, rfl, hlt, z⟩, fun x H3 yl => ?_⟩
      obtain ⟨H03, st, yt⟩ := y x H3 yl
      cases z : g ds[i] ei with
      | none => rw [z] at qi; cases qi
      | some e3 =>
        rw [z] at qi
        have w4 := wi.step st
        have a4 : After K H0i Hi (wipe σ vs) ei H03 H3 (wipe σ vs) ei := .of_step st
        refine hg x _ H03 H3 _ ei e3 H0i Hi _ ei _ w4 a4 yt z fun σ5 w5 a5 k5 l5 => ?_
        have hk5 : ∀ j, j ∉ vs → σ5[j]? = (wipe σ vs)[j]? := fun j hj => k5 j fun z => hj (hts j z)
        have l5' : σ5.length = σ.length := by rw [l5, wipe_length]
        have back : ∀ j, j ∉ vs → (wipe σ vs)[j]? = σ5[j]? := fun j hj => (hk5 j hj).symm
        have own_un : ∀ {ex : En} {b : Addr}, Own (wipe σ vs) (wipeE ex vs) b → Own σ5 ex b := fun {ex b} ⟨j, p, d, z1, z2⟩ => by
          by_cases hj : j ∈ vs
          · cases wipeE_in hj z1
          · rw [wipeE_get hj] at z1; rw [back j hj] at z2; exact ⟨j, p, d, z1, z2⟩
        refine ⟨wipe_eq l5' fun j hj => by rw [hk5 j hj, wipe_get hj], tT_n w5 qi fun k e6 H06 H6 w6 a6 q6 => ?_⟩
        have a6' := a5.trans a6
        have nD6 : ¬ Own σ5 e6 Da := a6'.nown hDi noi
        have hD6 : H6 Da = some (.lst accV) := a6'.keep _ _ hDi noi
        have n6 : H06 Da = none := a6'.off _ _ hDi ni noi
        cases k with
        | false =>
          rw [if_neg Bool.false_ne_true]
          exact ⟨H06, wipeE e6 vs, acc, accV, wd_un w6 (by rw [wipe_length, l5']) back, after_un (ai.trans a6') back, hD6, ri.mono a6'.s0, n6, fun z => nD6 (own_un z), Nat.le_succ_of_le li, q6⟩
        | true =>
          rw [if_pos rfl]
          refine tE_n w6 q6 fun t7 e7 v H07 H7 w7 a7 r7 q7 => ?_
          cases z8 : frzT t7 e7 with
          | bad => rw [z8] at q7; cases q7
          | ex _ _ => rw [z8] at q7; cases q7
          | ok y e8 =>
            rw [z8] at q7
            obtain ⟨H08, w8, a8, r8⟩ := frzT_ok w7 a7 r7 z8
            have a8' := a6'.trans a8
            have hD8 : H7 Da = some (.lst accV) := a8'.keep _ _ hDi noi
            have n8 : H08 Da = none := a8'.off _ _ hDi ni noi
            have nD8 : ¬ Own σ5 e8 Da := a8'.nown hDi noi
            have rr : Reps K H08 (accV ++ [v]) (acc ++ [y]) := (ri.mono a8'.s0).append (.cons r8 .nil)
            have a8'' := ai.trans a8'
            refine ⟨accV, hD8, by rw [ri.length]; omega, H08, wipeE e8 vs, acc ++ [y], accV ++ [v], ?_, ?_, upd_same, rr, n8, fun z => nD8 (own_un z), by rw [List.length_append]; show acc.length + 1 ≤ i + 1; omega, q7⟩
            · exact wd_un (wd_write w8 hD8 n8 nD8 (nbi a8'')) (by rw [wipe_length, l5']) back
            · exact after_un (after_write a8'' hD) back
    · have z : i = ds.length := by omega
      subst z
      rw [List.drop_length] at qi
      unfold cmpA at qi
      cases qi
      have wb : Wd K H0i Hi σ (wipeE e2 vs) := wd_un wi (wipe_length σ vs).symm fun j hj => (wipe_get hj).symm
      have ab : After K H01 H1 σ e1 H0i Hi σ (wipeE e2 vs) := after_un ai fun j hj => (wipe_get hj).symm
      obtain ⟨wc, ac, oc, bc⟩ := unw_wd (e := e1) (us := vs) wb (a1.trans ab) (fun j hj s => fun z => .inr (wipeE_in hj z)) fun j d z => by
        obtain ⟨v, z1, z2⟩ := w1.fz j d z
        exact ⟨v, z1, z2.mono ab.s0⟩
      refine .inl ⟨s1 rfl, h H0i Hi wc ac (.ref Da) ⟨Da, rfl, ?_, fun z => noi ?_, ⟨ni, accV, hDi, ri⟩, fun j b z1 z2 => ?_⟩⟩
      · cases z : H Da with
        | none => rfl
        | some o =>
          obtain ⟨o', z'⟩ := a1.thr _ _ z
          rw [hD] at z'; cases z'
      · obtain ⟨j, p, d, z1, z2⟩ := oc _ z
        by_cases hj : j ∈ vs
        · cases wipeE_in hj z1
        · rw [wipeE_get hj] at z1; exact ⟨j, p, d, z1, by rw [wipe_get hj]; exact z2⟩
      · exact nbi ab j b (bc j b z1) z2
end
section
variable {X : Cx} {W : WX} {fr : Bool} {fi : Fi} {t : TG} {g : D → En → Option En} {fifs : Ft} {fel : Fe} {ts : List Nat} {elt tg iter : Expr} {ifs : List Expr} {scope : Scope} {own : List (Str × Nat)} {pos : Pos}
theorem ve_lc (hc : X.calm = true) (hN : X.N.Nodup) (ok : BlkOk X.N X.env.scope scope own) (hi : VI X W fr tg iter fi) (ht : TgOk X.K fr ts t g)
    (hg : ∀ (s : Shared) (H : Hp) (C : Addr) (cl : List (Str × Addr)) (fp : List Addr), PG (X.blk s H scope (compEnvC scope cl C X.env) fp) tg t)
    (hf : ∀ (s : Shared) (H : Hp) (C : Addr) (cl : List (Str × Addr)) (fp : List Addr), VIfs (X.blk s H scope (compEnvC scope cl C X.env) fp) WF ifs fifs)
    (he : ∀ (s : Shared) (H : Hp) (C : Addr) (cl : List (Str × Addr)) (fp : List Addr), VE (X.blk s H scope (compEnvC scope cl C X.env) fp) WF elt fel) (hts : ∀ i ∈ ts, i ∈ own.map (·.2) := by decide) (hs : ∀ x, foldedSetIterable iter X.env x = pure x := by intro _; rfl) :
    VE X W (.ListComp elt [⟨tg, iter, ifs, 0⟩] scope pos) (dLc fi g fifs fel (own.map (·.2))) :=
  pe_imp (pe_lc (wi := tI X.K W fr fi) (tt := tT X.K WF fifs) (te := tE X.K WF fel) hc hN hi ok hg hf he hs) fun σ H Q h => imp_lc ht hts h
theorem vs_setLc {i : Nat} {y : Str} {py spos : Pos} (hc : X.calm = true) (hN : X.N.Nodup) (hy : X.N[i]? = some y) (hyl : X.env.scope.names.lookup y = some .local)
    (hsw : swapsWith (.ListComp elt [⟨tg, iter, ifs, 0⟩] scope pos) (some (.Name y py)) spos.line X.env = pure true) (ok : BlkOk X.N X.env.scope scope own) (hi : VI X W fr tg iter fi) (ht : TgOk X.K fr ts t g)
    (hg : ∀ (s : Shared) (H : Hp) (C : Addr) (cl : List (Str × Addr)) (fp : List Addr), PG (X.blk s H scope (compEnvC scope cl C X.env) fp) tg t)
    (hf : ∀ (s : Shared) (H : Hp) (C : Addr) (cl : List (Str × Addr)) (fp : List Addr), VIfs (X.blk s H scope (compEnvC scope cl C X.env) fp) WF ifs fifs)
    (he : ∀ (s : Shared) (H : Hp) (C : Addr) (cl : List (Str × Addr)) (fp : List Addr), VE (X.blk s H scope (compEnvC scope cl C X.env) fp) WF elt fel) (hts : ∀ i ∈ ts, i ∈ own.map (·.2) := by decide) (hs : ∀ x, foldedSetIterable iter X.env x = pure x := by intro _; rfl) :
    VS X W (.Assign [.Name y py] (.ListComp elt [⟨tg, iter, ifs, 0⟩] scope pos) spos) (sSet i (dLc fi g fifs fel (own.map (·.2)))) := by
  refine ps_imp (ps_setLc (wi := tI X.K W fr fi) (tt := tT X.K WF fifs) (te := tE X.K WF fel) hc hN hy hyl hsw hi ok hg hf he hs) fun D σ H ⟨H0, e, w, h⟩ => ?_
  refine imp_lc ht hts ?_
  exact tE_s w h fun t e1 v H01 H1 q w1 a1 r1 h1 => asg_of w1 a1 r1 h1
end
end VL

/-! VLl: contracts of defs by value; calls. -/
namespace VL
open PySem PySem.Spec L2

/-- a def's contract: F takes the parameters' slots and tells the result and the slots behind it -/
def spV (K : PySem.W.Frag) (n : Nat) (F : Fe) : Sp := fun vs H Q E => vs.length = n ∧ tE K (fun c d _ H => E c d H) F (vs.map some) H Q
def okIn : En → Bool
  | [] => true
  | .ow false _ :: _ => false
  | _ :: e => okIn e
def okOut : En → En → Bool
  | [], _ => true
  | .ow true _ :: e, .ow true _ :: e' => okOut e e'
  | .ow true _ :: _, _ => false
  | _ :: e, _ :: e' => okOut e e'
  | _ :: _, [] => false
def parE : Nat → En → En
  | 0, _ => []
  | _ + 1, [] => []
  | n + 1, .ow true d :: e => .ow true d :: parE n e
  | n + 1, _ :: e => .un :: parE n e
def retT (n : Nat) (t : Tg) (e : En) : Rz Tg := match t with
  | .fz d => .ok (.fz d) (parE n e)
  | .nw d => .ok (.nw d) (parE n e)
  | .sl i => match e[i]? with
    | some (.fz d) => .ok (.fz d) (parE n e)
    | some (.ow false d) => .ok (.nw d) (parE n e)
    | _ => .bad
def finF (e : En) : RS → Rz Tg
  | .rt t e' => if okOut e e' = true then retT e.length t e' else .bad
  | .nx e' => if okOut e e' = true then .ok (.fz .non) (parE e.length e') else .bad
  | .ex x e' => if okOut e e' = true then .ex x (parE e.length e') else .bad
  | _ => .bad
/-- a def's body read as its contract; m: how many slots it has -/
def fnD (m : Nat) (fs : Fs) : Fe := fun e => if okIn e = true then finF e (fs (e ++ List.replicate (m - e.length) .un)) else .bad

section
variable {K : PySem.W.Frag} {H0 H H01 H1 H0' H' H0s Hs : Hp} {σ σ' σ1 σs : L2.St} {e e1 e' es : En} {W : WX} {v : V}
theorem okIn_get : ∀ {e : En}, okIn e = true → ∀ (i : Nat) d, e[i]? ≠ some (.ow false d)
  | [], _, i, d, q => by simp at q
  | s :: e, h, 0, d, q => by
    have q' : s = .ow false d := by simpa using q
    subst q'; cases h
  | s :: e, h, i + 1, d, q => by
    have h' : okIn e = true := by
      cases s with
      | ow p d => cases p with
        | true => exact h
        | false => cases h
      | _ => exact h
    exact okIn_get h' i d (by simpa using q)
theorem okOut_get : ∀ {e e' : En}, okOut e e' = true → e.length ≤ e'.length ∧ ∀ (i : Nat) d, e[i]? = some (.ow true d) → ∃ d', e'[i]? = some (.ow true d')
  | [], _, _ => ⟨Nat.zero_le _, fun i d q => by simp at q⟩
  | s :: e, [], h => by
    have : okOut (s :: e) [] = false := by
      cases s with
      | ow p d => cases p <;> rfl
      | _ => rfl
    rw [this] at h; cases h
  | s :: e, s' :: e', h => by
    have h' : okOut e e' = true ∧ (∀ d, s = .ow true d → ∃ d', s' = .ow true d') := by
      cases s with
      | ow p d =>
        cases p with
        | true =>
          cases s' with
          | ow p' d' =>
            cases p' with
            | true => exact ⟨h, fun _ _ => ⟨d', rfl⟩⟩
            | false => cases h
          | _ => cases h
        | false => exact ⟨h, fun d z => by cases z⟩
      | _ => exact ⟨h, fun d z => by cases z⟩
    obtain ⟨l, g⟩ := okOut_get h'.1
    refine ⟨Nat.succ_le_succ l, fun i d q => ?_⟩
    cases i with
    | zero =>
      have q' : s = .ow true d := by simpa using q
      obtain ⟨d', z⟩ := h'.2 d q'
      exact ⟨d', by rw [z]; rfl⟩
    | succ i =>
      obtain ⟨d', z⟩ := g i d (by simpa using q)
      exact ⟨d', by simpa using z⟩
theorem parE_get : ∀ {n : Nat} {e : En} {i : Nat} {s : Sl}, (parE n e)[i]? = some s → s = .un ∨ ∃ d, s = .ow true d ∧ e[i]? = some (.ow true d) ∧ i < n
  | 0, _, _, _, q => by simp [parE] at q
  | n + 1, [], _, _, q => by simp [parE] at q
  | n + 1, x :: e, i, s, q => by
    have ht : ∃ y, parE (n + 1) (x :: e) = y :: parE n e ∧ (y = .un ∨ ∃ d, y = .ow true d ∧ x = .ow true d) := by
      cases x with
      | ow p d => cases p with
        | true => exact ⟨_, rfl, .inr ⟨d, rfl, rfl⟩⟩
        | false => exact ⟨_, rfl, .inl rfl⟩
      | _ => exact ⟨_, rfl, .inl rfl⟩
    obtain ⟨y, h1, h2⟩ := ht
    rw [h1] at q
    cases i with
    | zero =>
      have q' : y = s := by simpa using q
      subst q'
      rcases h2 with h2 | ⟨d, h2, h3⟩
      · exact .inl h2
      · exact .inr ⟨d, h2, by rw [h3]; rfl, Nat.succ_pos n⟩
    | succ i =>
      rcases parE_get (n := n) (e := e) (i := i) (s := s) (by simpa using q) with z | ⟨d, z1, z2, z3⟩
      · exact .inl z
      · exact .inr ⟨d, z1, by simpa using z2, Nat.succ_lt_succ z3⟩
theorem parE_len : ∀ {n : Nat} {e : En}, n ≤ e.length → (parE n e).length = n
  | 0, _, _ => rfl
  | n + 1, [], h => by simp at h
  | n + 1, x :: e, h => by
    have ht : ∃ y, parE (n + 1) (x :: e) = y :: parE n e := by
      cases x with
      | ow p d => cases p <;> exact ⟨_, rfl⟩
      | _ => exact ⟨_, rfl⟩
    obtain ⟨y, h1⟩ := ht
    rw [h1, List.length_cons, parE_len (Nat.le_of_succ_le_succ h)]
theorem app_get {e : En} {m i : Nat} {s : Sl} (h : (e ++ List.replicate m .un)[i]? = some s) : e[i]? = some s ∨ s = .un := by
  rw [List.getElem?_append] at h
  split at h
  · exact .inl h
  · have := List.mem_of_getElem? h
    exact .inr (List.eq_of_mem_replicate this)
theorem start_get {N : List Str} {vs : List V} {i : Nat} {v : V} (h : (vs.map some)[i]? = some (some v)) : (L2.start N vs)[i]? = some (some v) := by
  unfold L2.start
  rw [List.getElem?_append_left]
  · exact h
  · exact (List.getElem?_eq_some_iff.mp h).1
theorem start_lt {N : List Str} {vs : List V} {i : Nat} (h : i < vs.length) : (L2.start N vs)[i]? = (vs.map some)[i]? := by
  unfold L2.start
  rw [List.getElem?_append_left (by rw [List.length_map]; exact h)]
theorem own_app {N : List Str} {vs : List V} {m : Nat} (hl : vs.length = e.length) {b : Addr} : Own (L2.start N vs) (e ++ List.replicate m .un) b ↔ Own (vs.map some) e b := by
  constructor
  · rintro ⟨i, p, d, h1, h2⟩
    rcases app_get h1 with h1 | z
    · refine ⟨i, p, d, h1, ?_⟩
      rw [← start_lt (N := N)]
      · exact h2
      · rw [hl]; exact (List.getElem?_eq_some_iff.mp h1).1
    · cases z
  · rintro ⟨i, p, d, h1, h2⟩
    refine ⟨i, p, d, ?_, start_get h2⟩
    rw [List.getElem?_append_left (List.getElem?_eq_some_iff.mp h1).1]
    exact h1
theorem wd_start {N : List Str} {vs : List V} (w : Wd K H0 H (vs.map some) e) : Wd K H0 H (L2.start N vs) (e ++ List.replicate (N.length - e.length) .un) := by
  have hl : vs.length = e.length := by have := w.len; rw [List.length_map] at this; exact this
  refine ⟨w.sub, ?_, fun i d h => ?_, fun i p d h => ?_, fun i d h => ?_, fun i j p p' d d' a h1 h2 h3 h4 => ?_⟩
  · unfold L2.start
    rw [List.length_append, List.length_append, List.length_map, List.length_replicate, List.length_replicate, hl]
  · rcases app_get h with h | z
    · obtain ⟨v, h1, h2⟩ := w.fz i d h
      exact ⟨v, start_get h1, h2⟩
    · cases z
  · rcases app_get h with h | z
    · obtain ⟨v, h1, h2⟩ := w.ow i p d h
      exact ⟨v, start_get h1, h2⟩
    · cases z
  · rcases app_get h with h | z
    · obtain ⟨v, h1, h2⟩ := w.bw i d h
      exact ⟨v, start_get h1, h2.imp id fun ⟨a, q1, q2, q3⟩ => ⟨a, q1, q2, fun o => q3 ((own_app hl).mp o)⟩⟩
    · cases z
  · rcases app_get h1 with h1 | z
    · rcases app_get h2 with h2 | z
      · rw [start_lt (by rw [hl]; exact (List.getElem?_eq_some_iff.mp h1).1)] at h3
        rw [start_lt (by rw [hl]; exact (List.getElem?_eq_some_iff.mp h2).1)] at h4
        exact w.inj i j p p' d d' a h1 h2 h3 h4
      · cases z
    · cases z
/-- the world that the caller sees behind the body -/
theorem wd_end {N : List Str} {vs : List V} (w : Wd K H0 H (vs.map some) e) (w' : Wd K H0' H' σ' e') (a : After K H0 H (L2.start N vs) (e ++ List.replicate (N.length - e.length) .un) H0' H' σ' e') (ho : okOut e e' = true) :
    Wd K H0' H' (vs.map some) (parE e.length e') ∧ After K H0 H (vs.map some) e H0' H' (vs.map some) (parE e.length e') := by
  have hl : vs.length = e.length := by have := w.len; rw [List.length_map] at this; exact this
  obtain ⟨ol, og⟩ := okOut_get ho
  have at' : ∀ {i : Nat} {s : Sl}, (parE e.length e')[i]? = some s → s ≠ .un → ∃ d d0, s = .ow true d ∧ e'[i]? = some (.ow true d) ∧ σ'[i]? = (vs.map some)[i]? ∧ e[i]? = some (.ow true d0) := fun {i s} q n => by
    rcases parE_get q with z | ⟨d, rfl, z2, z3⟩
    · exact (n z).elim
    · obtain ⟨h1, d0, h2⟩ := a.pin i d z2
      rcases app_get h2 with h2 | z
      · exact ⟨d, d0, rfl, z2, by rw [h1, start_lt (by rw [hl]; exact z3)], h2⟩
      · cases z
  have own : ∀ {b : Addr}, Own (vs.map some) (parE e.length e') b → Own σ' e' b ∧ Own (vs.map some) e b := fun {b} ⟨i, p, d, h1, h2⟩ => by
    obtain ⟨d', d0, z1, z2, z3, z4⟩ := at' h1 (fun z => by cases z)
    cases z1
    exact ⟨⟨i, _, _, z2, by rw [z3]; exact h2⟩, ⟨i, _, d0, z4, h2⟩⟩
  refine ⟨⟨w'.sub, by rw [List.length_map, parE_len ol, hl], fun i d h => ?_, fun i p d h => ?_, fun i d h => ?_, fun i j p p' d d' b h1 h2 h3 h4 => ?_⟩,
    a.s0, fun b o q n => a.keep b o q fun z => n ((own_app hl).mp z), fun b o q m n => a.off b o q m fun z => n ((own_app hl).mp z), a.thr, fun b o => .inl (own o).2, fun i d h => ?_, fun i d h => ?_⟩
  · obtain ⟨d', d0, z1, _⟩ := at' h (fun z => by cases z)
    cases z1
  · obtain ⟨d', d0, z1, z2, z3, z4⟩ := at' h (fun z => by cases z)
    cases z1
    obtain ⟨b, h1, h2⟩ := w'.ow i _ _ z2
    exact ⟨b, by rw [← z3]; exact h1, h2⟩
  · obtain ⟨d', d0, z1, _⟩ := at' h (fun z => by cases z)
    cases z1
  · obtain ⟨d1, d0, z1, z2, z3, z4⟩ := at' h1 (fun z => by cases z)
    obtain ⟨d2, d3, y1, y2, y3, y4⟩ := at' h2 (fun z => by cases z)
    exact w'.inj i j _ _ _ _ b z2 y2 (by rw [z3]; exact h3) (by rw [y3]; exact h4)
  · obtain ⟨d', d0, z1, z2, z3, z4⟩ := at' h (fun z => by cases z)
    exact ⟨rfl, d0, z4⟩
  · obtain ⟨d', d0, z1, _⟩ := at' h (fun z => by cases z)
    cases z1
theorem parE_nobw {n : Nat} {e : En} {i : Nat} {d : D} (h : (parE n e)[i]? = some (.bw d)) : False := by
  rcases parE_get h with z | ⟨_, z, _⟩ <;> cases z
theorem own_par {N : List Str} {vs : List V} (w : Wd K H0 H (vs.map some) e) (a : After K H0 H (L2.start N vs) (e ++ List.replicate (N.length - e.length) .un) H0' H' σ' e') {b : Addr} (o : Own (vs.map some) (parE e.length e') b) : Own σ' e' b ∧ ∃ (i : Nat) (d : D), e'[i]? = some (Sl.ow true d) ∧ σ'[i]? = some (some (V.ref b)) := by
  have hl : vs.length = e.length := by have := w.len; rw [List.length_map] at this; exact this
  obtain ⟨i, p, d, h1, h2⟩ := o
  rcases parE_get h1 with z | ⟨d', z1, z2, z3⟩
  · cases z
  · cases z1
    obtain ⟨q1, _⟩ := a.pin i d z2
    have : σ'[i]? = some (some (.ref b)) := by rw [q1, start_lt (by rw [hl]; exact z3)]; exact h2
    exact ⟨⟨i, _, _, z2, this⟩, i, d, z2, this⟩
theorem fn_end {N : List Str} {vs : List V} {fs : Fs} {Q : VK} {E : XK} (h : tE K (fun c d _ H => E c d H) (fnD N.length fs) (vs.map some) H Q) :
    tS K (fun c d _ H => E c d H) fs { nx := fun _ H' => Q .non H', rt := Q } (L2.start N vs) H := by
  obtain ⟨H0, e, w, h⟩ := h
  have hl : vs.length = e.length := by have := w.len; rw [List.length_map] at this; exact this
  refine ⟨H0, e ++ List.replicate (N.length - e.length) .un, wd_start w, ?_⟩
  unfold fnD at h
  by_cases hi : okIn e = true
  case neg => rw [if_neg hi] at h; exact h.elim
  rw [if_pos hi] at h
  cases q : fs (e ++ List.replicate (N.length - e.length) .un) with
  | bad => rw [q] at h; exact h.elim
  | bk e1 => rw [q] at h; exact h.elim
  | ct e1 => rw [q] at h; exact h.elim
  | nx e1 =>
    rw [q] at h
    have h : Gy K (fun c d _ H => E c d H) (vs.map some) H0 H e (if okOut e e1 = true then .ok (.fz .non) (parE e.length e1) else .bad) fun t e' H0' H' => ∀ v, RepT K H0' H' H (vs.map some) e' v t → Q v H' := h
    by_cases ho : okOut e e1 = true
    · rw [if_pos ho] at h
      intro σ' H0' H' w' a'
      obtain ⟨w2, a2⟩ := wd_end w w' a' ho
      exact h H0' H' w2 a2 .non .non
    · rw [if_neg ho] at h; exact h.elim
  | ex x e1 =>
    rw [q] at h
    have h : Gy K (fun c d _ H => E c d H) (vs.map some) H0 H e (if okOut e e1 = true then .ex x (parE e.length e1) else .bad) fun t e' H0' H' => ∀ v, RepT K H0' H' H (vs.map some) e' v t → Q v H' := h
    by_cases ho : okOut e e1 = true
    · rw [if_pos ho] at h
      intro dx σ' H0' H' w' a' x'
      obtain ⟨w2, a2⟩ := wd_end w w' a' ho
      exact h dx H0' H' w2 a2 x'
    · rw [if_neg ho] at h; exact h.elim
  | rt t e1 =>
    rw [q] at h
    have h : Gy K (fun c d _ H => E c d H) (vs.map some) H0 H e (if okOut e e1 = true then retT e.length t e1 else .bad) fun t e' H0' H' => ∀ v, RepT K H0' H' H (vs.map some) e' v t → Q v H' := h
    by_cases ho : okOut e e1 = true
    case neg => rw [if_neg ho] at h; exact h.elim
    rw [if_pos ho] at h
    intro v σ' H0' H' w' a' r'
    obtain ⟨w2, a2⟩ := wd_end w w' a' ho
    obtain ⟨ol, og⟩ := okOut_get ho
    cases t with
    | fz d => exact h H0' H' w2 a2 v r'
    | nw d =>
      obtain ⟨b, h1, h2, h3, h4, _⟩ := r'
      exact h H0' H' w2 a2 v ⟨b, h1, h2, fun o => h3 (own_par w a' o).1, h4, fun j c z => (parE_nobw z).elim⟩
    | sl i =>
      have hv : σ'[i]? = some (some v) := r'
      cases z : e1[i]? with
      | none => simp only [retT, z] at h; exact h.elim
      | some s =>
        cases s with
        | un => simp only [retT, z] at h; exact h.elim
        | bw d => simp only [retT, z] at h; exact h.elim
        | fz d =>
          simp only [retT, z] at h
          obtain ⟨v', h1, h2⟩ := w'.fz i d z
          rw [hv] at h1; cases h1
          exact h H0' H' w2 a2 v h2
        | ow p d =>
          cases p with
          | true => simp only [retT, z] at h; exact h.elim
          | false =>
            simp only [retT, z] at h
            obtain ⟨b, h1, h2⟩ := w'.ow i _ d z
            rw [hv] at h1; cases h1
            refine h H0' H' w2 a2 (.ref b) ⟨b, rfl, ?_, fun o => ?_, h2, fun j c z => (parE_nobw z).elim⟩
            · rcases a'.own b ⟨i, _, d, z, hv⟩ with o | o
              · exfalso
                obtain ⟨j, p, d0, q1, q2⟩ := (own_app hl).mp o
                cases p with
                | false => exact okIn_get hi j d0 q1
                | true =>
                  obtain ⟨d1, q3⟩ := og j d0 q1
                  obtain ⟨q4, _⟩ := a'.pin j d1 q3
                  have hj : j < vs.length := by rw [hl]; exact (List.getElem?_eq_some_iff.mp q1).1
                  have q5 : σ'[j]? = some (some (.ref b)) := by rw [q4, start_lt hj]; exact q2
                  have := w'.inj i j _ _ _ _ b z q3 hv q5
                  subst this
                  rw [z] at q3; cases q3
              · exact o
            · obtain ⟨_, j, d1, q3, q5⟩ := own_par w a' o
              have := w'.inj i j _ _ _ _ b z q3 hv q5
              subst this
              rw [z] at q3; cases q3
end
section
variable {P : Program} {w : World} {K : PySem.W.Frag} {mg : Str → Option Value} {base : Heap} {x qual : Str} {params : Arguments} {body : List Stmt} {scope : Scope} {dvs : List V} {kws : List (Str × V)} {f : Addr} {fd : FuncData}
/-- the contract of a def from its body's reading -/
theorem fn_ok {N ps : List Str} {k : Nat} {fs : Fs} (F : FunD K x qual params body scope dvs kws f fd) (S : FnScope N ps scope)
    (hb : ∀ (X : Cx) (W : WX) (cdv : Value) (A : Around) (outer : List Env) (s : Shared) (H : Hp) (E : XK), X = cxOf (L2.CX P w) P w K mg base N qual scope f cdv A outer s H E → Room k (A.deeper (PyProof.Rows.envOfC qual scope s.heap.objs.size f cdv)) → W = (fun c d _ H => E c d H) → Takes X W → VSs X W body fs) :
    FnOk P w K mg base (L2.CX P w) (k + 1) f fd ps (spV K ps.length (fnD N.length fs)) := by
  refine F.ok S (fun vs H Q E q => q.1) fun cdv A outer s H vs Q E hr hsp => ?_
  exact ⟨_, hb _ _ cdv A outer s H E rfl hr rfl (takes_of rfl rfl rfl rfl), fn_end hsp.2⟩
end
end VL

/-! VLm: calls of own defs by value. -/
namespace VL
open PySem PySem.Spec L2

/-- how an argument is passed: frozen; to be changed; to be read -/
inductive Md where
  | v | io | b
def frzA : List Md → List Tg → En → Option En
  | [], [], e => some e
  | .v :: ms, .sl i :: ts, e => match e[i]? with
    | some (.fz _) => frzA ms ts e
    | some (.ow false d) => if d.frb = true then frzA ms ts (e.set i (.fz d)) else none
    | _ => none
  | _ :: ms, _ :: ts, e => frzA ms ts e
  | _, _, _ => none
def slot1 (m : Md) (t : Tg) (e : En) : Option Sl := match t with
  | .fz d => some (.fz d)
  | .nw _ => none
  | .sl i => match e[i]? with
    | some (.fz d) => some (.fz d)
    | some (.ow _ d) => (match m with
      | .io => some (.ow true d)
      | .b => some (.bw d)
      | .v => none)
    | some (.bw d) => (match m with
      | .b => some (.bw d)
      | _ => none)
    | _ => none
def mkP : List Md → List Tg → En → Option En
  | [], [], _ => some []
  | m :: ms, t :: ts, e => match slot1 m t e, mkP ms ts e with
    | some s, some p => some (s :: p)
    | _, _ => none
  | _, _, _ => none
def slIx : List Tg → List Nat
  | [] => []
  | .sl i :: ts => i :: slIx ts
  | _ :: ts => slIx ts
def nodupB : List Nat → Bool
  | [] => true
  | i :: is => !(is.contains i) && nodupB is
def wb1 (e : En) (k : Nat) (s : Sl) : En := match s, e[k]? with
  | .ow true d, some (.ow p _) => e.set k (.ow p d)
  | _, _ => e.set k .un
theorem wb1_of (e : En) (k : Nat) (s : Sl) : ∃ x, wb1 e k s = e.set k x ∧ (x = .un ∨ ∃ d' b d1, s = .ow true d' ∧ e[k]? = some (.ow b d1) ∧ x = .ow b d') := by
  unfold wb1
  split
  · rename_i d' b d1 hy
    exact ⟨_, rfl, .inr ⟨d', b, d1, rfl, hy, rfl⟩⟩
  · exact ⟨_, rfl, .inl rfl⟩
/-- what is written back -/
def wb : List Tg → En → En → En → En
  | .sl i :: ts, .ow true _ :: ps, s :: qs, e => wb ts ps qs (wb1 e i s)
  | _ :: ts, _ :: ps, _ :: qs, e => wb ts ps qs e
  | _, _, _, e => e
def callF (F : Fe) (ms : List Md) (ts : List Tg) (e : En) : Rz Tg := match frzA ms ts e with
  | none => .bad
  | some e1 => match mkP ms ts e1 with
    | none => .bad
    | some ps => if nodupB (slIx ts) = true then (match F ps with
      | .ok t qs => (match t with
        | .fz d => .ok (.fz d) (wb ts ps qs e1)
        | .nw d => .ok (.nw d) (wb ts ps qs e1)
        | .sl _ => .bad)
      | .ex x qs => .ex x (wb ts ps qs e1)
      | .bad => .bad) else .bad
def dCall (F : Fe) (ms : List Md) (fs : Fa) : Fe := fun e => (fs e).bind fun ts e1 => callF F ms ts e1

section
variable {K : PySem.W.Frag} {H0 H H01 H1 H0' H' H0s Hs : Hp} {σ σ' σ1 σs : L2.St} {e e1 e' es : En} {W : WX} {v : V}
theorem frzA_of : ∀ {ms : List Md} {ts : List Tg} {vs : List V} {e e1 : En} {H0 : Hp}, Wd K H0 H σ e → RepOs K H0 σ vs ts → frzA ms ts e = some e1 → ∃ H01, Wd K H01 H σ e1 ∧ After K H0 H σ e H01 H σ e1 ∧ RepOs K H01 σ vs ts
  | ms, [], _, e, e1, H0, w, .nil, h => by
    cases ms with
    | nil => cases (show some e = some e1 from h); exact ⟨H0, w, .refl, .nil⟩
    | cons m ms => cases m <;> cases h
  | [], t :: ts, _, e, e1, H0, w, .cons r rs, h => by cases t <;> cases h
  | m :: ms, t :: ts, _, e, e1, H0, w, .cons r rs, h => by
    have skip : frzA ms ts e = some e1 → ∃ H01, Wd K H01 H σ e1 ∧ After K H0 H σ e H01 H σ e1 ∧ RepOs K H01 σ (_ :: _) (t :: ts) := fun h => by
      obtain ⟨H01, w1, a1, r1⟩ := frzA_of w rs h
      exact ⟨H01, w1, a1, .cons (r.mono a1.s0) r1⟩
    cases t with
    | fz d => cases m <;> exact skip h
    | nw d => cases m <;> exact skip h
    | sl i =>
      cases m with
      | io => exact skip h
      | b => exact skip h
      | v =>
        cases q : e[i]? with
        | none => simp only [frzA, q] at h; cases h
        | some s =>
          cases s with
          | un => simp only [frzA, q] at h; cases h
          | bw d => simp only [frzA, q] at h; cases h
          | fz d => simp only [frzA, q] at h; exact skip h
          | ow p d =>
            cases p with
            | true => simp only [frzA, q] at h; cases h
            | false =>
              simp only [frzA, q] at h
              by_cases hd : d.frb = true
              · rw [if_pos hd] at h
                obtain ⟨H02, v', _, _, w2, a2⟩ := w.freeze q hd
                obtain ⟨H01, w1, a1, r1⟩ := frzA_of w2 (rs.mono a2.s0) h
                exact ⟨H01, w1, a2.trans a1, .cons ((r.mono a2.s0).mono a1.s0) r1⟩
              · rw [if_neg hd] at h; cases h
theorem frzA_len : ∀ {ms : List Md} {ts : List Tg} {e e1 : En}, frzA ms ts e = some e1 → ts.length = ms.length
  | [], [], _, _, _ => rfl
  | [], t :: ts, _, _, h => by cases t <;> cases h
  | m :: ms, [], _, _, h => by cases m <;> cases h
  | m :: ms, t :: ts, e, e1, h => by
    have up : ∀ {e : En}, frzA ms ts e = some e1 → (t :: ts).length = (m :: ms).length := fun {e} h => congrArg (· + 1) (frzA_len h)
    cases t with
    | fz d => cases m <;> exact up h
    | nw d => cases m <;> exact up h
    | sl i =>
      cases m with
      | io => exact up h
      | b => exact up h
      | v =>
        cases q : e[i]? with
        | none => simp only [frzA, q] at h; cases h
        | some s =>
          cases s with
          | un => simp only [frzA, q] at h; cases h
          | bw d => simp only [frzA, q] at h; cases h
          | fz d => simp only [frzA, q] at h; exact up h
          | ow p d =>
            cases p with
            | true => simp only [frzA, q] at h; cases h
            | false =>
              simp only [frzA, q] at h
              by_cases hd : d.frb = true
              · rw [if_pos hd] at h; exact up h
              · rw [if_neg hd] at h; cases h
/-- where a parameter's slot comes from -/
def From (e : En) (ps : En) (ts : List Tg) : Prop := ∀ (j : Nat) (s : Sl), ps[j]? = some s → ∃ t, ts[j]? = some t ∧ ((∃ d, s = .fz d) ∨ ∃ i d, t = .sl i ∧ ((s = .ow true d ∧ ∃ p, e[i]? = some (.ow p d)) ∨ (s = .bw d ∧ ((∃ p, e[i]? = some (.ow p d)) ∨ e[i]? = some (.bw d)))))
theorem slot1_of {m : Md} {t : Tg} {s : Sl} (h : slot1 m t e = some s) : (∃ d, s = .fz d ∧ look e t = some d) ∨ ∃ i d, t = .sl i ∧ ((s = .ow true d ∧ ∃ p, e[i]? = some (.ow p d)) ∨ (s = .bw d ∧ ((∃ p, e[i]? = some (.ow p d)) ∨ e[i]? = some (.bw d)))) := by
  cases t with
  | fz d => cases (show some _ = some s from h); exact .inl ⟨d, rfl, rfl⟩
  | nw d => cases h
  | sl i =>
    cases q : e[i]? with
    | none => simp only [slot1, q] at h; cases h
    | some x =>
      cases x with
      | un => simp only [slot1, q] at h; cases h
      | fz d => simp only [slot1, q] at h; cases h; exact .inl ⟨d, rfl, by simp only [look, q]⟩
      | ow p d =>
        cases m with
        | v => simp only [slot1, q] at h; cases h
        | io => simp only [slot1, q] at h; cases h; exact .inr ⟨i, d, rfl, .inl ⟨rfl, p, q⟩⟩
        | b => simp only [slot1, q] at h; cases h; exact .inr ⟨i, d, rfl, .inr ⟨rfl, .inl ⟨p, q⟩⟩⟩
      | bw d =>
        cases m with
        | v => simp only [slot1, q] at h; cases h
        | io => simp only [slot1, q] at h; cases h
        | b => simp only [slot1, q] at h; cases h; exact .inr ⟨i, d, rfl, .inr ⟨rfl, .inr q⟩⟩
theorem mkP_get : ∀ {ms : List Md} {ts : List Tg} {ps : En}, mkP ms ts e = some ps → ps.length = ts.length ∧ ∀ (j : Nat) (s : Sl), ps[j]? = some s → ∃ m t, ts[j]? = some t ∧ slot1 m t e = some s
  | [], [], ps, h => by cases (show some [] = some ps from h); exact ⟨rfl, fun j s q => by simp at q⟩
  | m :: ms, [], ps, h => by cases (show none = some ps from h)
  | [], t :: ts, ps, h => by cases (show none = some ps from h)
  | m :: ms, t :: ts, ps, h => by
    cases q1 : slot1 m t e with
    | none => simp only [mkP, q1] at h; cases h
    | some s =>
      cases q2 : mkP ms ts e with
      | none => simp only [mkP, q1, q2] at h; cases h
      | some p =>
        simp only [mkP, q1, q2] at h
        cases h
        obtain ⟨l, g⟩ := mkP_get q2
        refine ⟨congrArg (· + 1) l, fun j s' q => ?_⟩
        cases j with
        | zero =>
          have q' : s = s' := by simpa using q
          subst q'
          exact ⟨m, t, rfl, q1⟩
        | succ j =>
          obtain ⟨m', t', h1, h2⟩ := g j s' (by simpa using q)
          exact ⟨m', t', by simpa using h1, h2⟩
theorem RepOs.get : ∀ {vs : List V} {ts : List Tg} {j : Nat} {t : Tg}, RepOs K H0 σ vs ts → ts[j]? = some t → ∃ v, vs[j]? = some v ∧ RepO K H0 σ v t
  | _, _, j, t, .nil, q => by simp at q
  | _, _, 0, t, .cons (v := v0) (t := t0) r rs, q => by
    have q' : t0 = t := by simpa using q
    subst q'
    exact ⟨_, rfl, r⟩
  | _, _, j + 1, t, .cons r rs, q => by
    obtain ⟨v, h1, h2⟩ := RepOs.get (j := j) (t := t) rs (by simpa using q)
    exact ⟨v, by simpa using h1, h2⟩
theorem RepOs.length : ∀ {vs : List V} {ts : List Tg}, RepOs K H0 σ vs ts → vs.length = ts.length
  | _, _, .nil => rfl
  | _, _, .cons _ rs => congrArg (· + 1) (RepOs.length rs)
theorem slIx_mem : ∀ {ts : List Tg} {j i : Nat}, ts[j]? = some (.sl i) → i ∈ slIx ts
  | [], j, i, q => by simp at q
  | t :: ts, 0, i, q => by
    have q' : t = .sl i := by simpa using q
    subst q'
    exact List.mem_cons_self
  | t :: ts, j + 1, i, q => by
    have := slIx_mem (ts := ts) (j := j) (i := i) (by simpa using q)
    cases t with
    | sl _ => exact List.mem_cons_of_mem _ this
    | _ => exact this
theorem slIx_inj : ∀ {ts : List Tg} {j k i : Nat}, nodupB (slIx ts) = true → ts[j]? = some (.sl i) → ts[k]? = some (.sl i) → j = k
  | [], j, k, i, _, q, _ => by simp at q
  | t :: ts, 0, 0, i, _, _, _ => rfl
  | t :: ts, 0, k + 1, i, n, q, q2 => by
    have q' : t = .sl i := by simpa using q
    subst q'
    have hm := slIx_mem (ts := ts) (j := k) (i := i) (by simpa using q2)
    have n' : (!((slIx ts).contains i) && nodupB (slIx ts)) = true := n
    simp [hm] at n'
  | t :: ts, j + 1, 0, i, n, q, q2 => by
    have q' : t = .sl i := by simpa using q2
    subst q'
    have hm := slIx_mem (ts := ts) (j := j) (i := i) (by simpa using q)
    have n' : (!((slIx ts).contains i) && nodupB (slIx ts)) = true := n
    simp [hm] at n'
  | t :: ts, j + 1, k + 1, i, n, q, q2 => by
    have n' : nodupB (slIx ts) = true := by
      cases t with
      | sl i' =>
        have n' : (!((slIx ts).contains i') && nodupB (slIx ts)) = true := n
        exact (Bool.and_eq_true_iff.mp n').2
      | _ => exact n
    exact congrArg (· + 1) (slIx_inj (ts := ts) n' (by simpa using q) (by simpa using q2))
/-- the callee's world -/
theorem mkP_wd {ms : List Md} {ts : List Tg} {vs : List V} {ps : En} (w : Wd K H0 H σ e) (r : RepOs K H0 σ vs ts) (h : mkP ms ts e = some ps) (n : nodupB (slIx ts) = true) :
    Wd K H0 H (vs.map some) ps ∧ (∀ b, Own (vs.map some) ps b → Own σ e b) ∧ ∀ (j : Nat) p d, ps[j]? = some (.ow p d) → p = true ∧ ∃ (i : Nat) (p' : Bool) (v : V), ts[j]? = some (.sl i) ∧ e[i]? = some (.ow p' d) ∧ vs[j]? = some v ∧ σ[i]? = some (some v) := by
  obtain ⟨hl, hg⟩ := mkP_get h
  have ow : ∀ (j : Nat) p d, ps[j]? = some (.ow p d) → p = true ∧ ∃ (i : Nat) (p' : Bool) (v : V), ts[j]? = some (.sl i) ∧ e[i]? = some (.ow p' d) ∧ vs[j]? = some v ∧ σ[i]? = some (some v) := fun j p d q => by
    obtain ⟨m, t, h1, h2⟩ := hg j _ q
    rcases slot1_of h2 with ⟨d', z, _⟩ | ⟨i, d', rfl, ⟨z, p', z2⟩ | ⟨z, _⟩⟩
    · cases z
    · cases z
      obtain ⟨v, h3, h4⟩ := r.get h1
      exact ⟨rfl, i, p', v, h1, z2, h3, h4⟩
    · cases z
  have vget : ∀ {j : Nat} {v : V}, vs[j]? = some v → (vs.map some)[j]? = some (some v) := fun {j v} q => by rw [List.getElem?_map, q]; rfl
  have own : ∀ b, Own (vs.map some) ps b → Own σ e b := fun b ⟨j, p, d, q1, q2⟩ => by
    obtain ⟨_, i, p', v, h1, h2, h3, h4⟩ := ow j p d q1
    rw [vget h3] at q2
    cases q2
    exact ⟨i, p', d, h2, h4⟩
  refine ⟨⟨w.sub, by rw [List.length_map, hl, r.length], fun j d q => ?_, fun j p d q => ?_, fun j d q => ?_, fun j k p p' d d' a q1 q2 q3 q4 => ?_⟩, own, ow⟩
  · obtain ⟨m, t, h1, h2⟩ := hg j _ q
    obtain ⟨v, h3, h4⟩ := r.get h1
    rcases slot1_of h2 with ⟨d', z, z2⟩ | ⟨i, d', rfl, ⟨z, _⟩ | ⟨z, _⟩⟩
    · cases z
      refine ⟨v, vget h3, ?_⟩
      cases t with
      | fz d0 => cases z2; exact h4
      | nw d0 => cases z2
      | sl i =>
        have h4' : σ[i]? = some (some v) := h4
        cases y : e[i]? with
        | none => simp only [slot1, y] at h2; cases h2
        | some x =>
          cases x with
          | fz d0 =>
            simp only [look, y] at z2
            cases z2
            obtain ⟨v', y1, y2⟩ := w.fz i _ y
            rw [h4'] at y1; cases y1
            exact y2
          | un => simp only [slot1, y] at h2; cases h2
          | ow p d0 => cases m <;> (simp only [slot1, y] at h2; cases h2)
          | bw d0 => cases m <;> (simp only [slot1, y] at h2; cases h2)
    · cases z
    · cases z
  · obtain ⟨_, i, p', v, h1, h2, h3, h4⟩ := ow j p d q
    obtain ⟨a, h5, h6⟩ := w.ow i p' d h2
    rw [h4] at h5
    cases h5
    exact ⟨a, vget h3, h6⟩
  · obtain ⟨m, t, h1, h2⟩ := hg j _ q
    obtain ⟨v, h3, h4⟩ := r.get h1
    rcases slot1_of h2 with ⟨d', z, z2⟩ | ⟨i, d', rfl, ⟨z, _⟩ | ⟨z, z2⟩⟩
    · cases z
    · cases z
    · cases z
      have h4' : σ[i]? = some (some v) := h4
      refine ⟨v, vget h3, ?_⟩
      rcases z2 with ⟨p, z2⟩ | z2
      · obtain ⟨a, h5, h6⟩ := w.ow i p d z2
        rw [h4'] at h5; cases h5
        refine .inr ⟨a, rfl, h6, fun ⟨k, p2, d2, q1, q2⟩ => ?_⟩
        obtain ⟨_, i2, p', v2, g1, g2, g3, g4⟩ := ow k p2 d2 q1
        rw [vget g3] at q2
        cases q2
        have ii := w.inj i i2 _ _ _ _ a z2 g2 h4' g4
        subst ii
        have jk := slIx_inj n h1 g1
        subst jk
        rw [q] at q1; cases q1
      · obtain ⟨v', h5, h6⟩ := w.bw i d z2
        rw [h4'] at h5; cases h5
        exact h6.imp id fun ⟨a, y1, y2, y3⟩ => ⟨a, y1, y2, fun o => y3 (own a o)⟩
  · obtain ⟨_, i, _, v, g1, g2, g3, g4⟩ := ow j p d q1
    obtain ⟨_, i', _, v', g1', g2', g3', g4'⟩ := ow k p' d' q2
    rw [vget g3] at q3
    rw [vget g3'] at q4
    cases q3; cases q4
    have ii := w.inj i i' _ _ _ _ a g2 g2' g4 g4'
    subst ii
    exact slIx_inj n g1 g1'
theorem wb_len : ∀ {ts : List Tg} {ps qs e : En}, (wb ts ps qs e).length = e.length
  | [], _, _, _ => by unfold wb; rfl
  | t :: ts, [], _, e => by cases t <;> (unfold wb; rfl)
  | t :: ts, p :: ps, [], e => by
    cases t with
    | sl i => cases p with
      | ow b d => cases b <;> (unfold wb; rfl)
      | _ => unfold wb; rfl
    | _ => unfold wb; rfl
  | t :: ts, p :: ps, q :: qs, e => by
    cases t with
    | sl i => cases p with
      | ow b d => cases b with
        | true =>
          unfold wb
          rw [wb_len]
          obtain ⟨x, hx, _⟩ := wb1_of e i q
          rw [hx, List.length_set]
        | false => unfold wb; exact wb_len
      | _ => unfold wb; exact wb_len
    | _ => unfold wb; exact wb_len
/-- what stands in a slot behind it -/
theorem wb_get : ∀ {ts : List Tg} {ps qs e : En} {i : Nat} {s : Sl}, (wb ts ps qs e)[i]? = some s →
    s = .un ∨ (e[i]? = some s ∧ ∀ (j : Nat) d, ts[j]? = some (.sl i) → ps[j]? = some (.ow true d) → qs.length ≤ j) ∨ ∃ (j : Nat) (d d' : D) (p : Bool) (d0 : D), ts[j]? = some (.sl i) ∧ ps[j]? = some (.ow true d0) ∧ qs[j]? = some (.ow true d') ∧ e[i]? = some (.ow p d) ∧ s = .ow p d'
  | [], ps, qs, e, i, s, q => by
    unfold wb at q
    exact .inr (.inl ⟨q, fun j d z => by simp at z⟩)
  | t :: ts, [], qs, e, i, s, q => by
    have q' : e[i]? = some s := by cases t <;> (unfold wb at q; exact q)
    exact .inr (.inl ⟨q', fun j d _ z => by simp at z⟩)
  | t :: ts, p :: ps, [], e, i, s, q => by
    have q' : e[i]? = some s := by
      cases t with
      | sl k => cases p with
        | ow b d => cases b <;> (unfold wb at q; exact q)
        | _ => unfold wb at q; exact q
      | _ => unfold wb at q; exact q
    exact .inr (.inl ⟨q', fun j d _ z => Nat.zero_le _⟩)
  | t :: ts, p :: ps, y :: qs, e, i, s, q => by
    have up : (wb ts ps qs e)[i]? = some s → (∀ d, ¬ (t = .sl i ∧ p = .ow true d)) → s = .un ∨ (e[i]? = some s ∧ ∀ (j : Nat) d, (t :: ts)[j]? = some (.sl i) → (p :: ps)[j]? = some (.ow true d) → (y :: qs).length ≤ j) ∨ ∃ (j : Nat) (d d' : D) (b : Bool) (d0 : D), (t :: ts)[j]? = some (.sl i) ∧ (p :: ps)[j]? = some (.ow true d0) ∧ (y :: qs)[j]? = some (.ow true d') ∧ e[i]? = some (.ow b d) ∧ s = .ow b d' := fun q hn => by
      rcases wb_get q with z | ⟨z1, z2⟩ | ⟨j, d, d', b, d0, z1, z2, z3, z4, z5⟩
      · exact .inl z
      · refine .inr (.inl ⟨z1, fun j d g1 g2 => ?_⟩)
        cases j with
        | zero => exact (hn d ⟨by simpa using g1, by simpa using g2⟩).elim
        | succ j => exact Nat.succ_le_succ (z2 j d (by simpa using g1) (by simpa using g2))
      · exact .inr (.inr ⟨j + 1, d, d', b, d0, by simpa using z1, by simpa using z2, by simpa using z3, z4, z5⟩)
    cases t with
    | fz _ => unfold wb at q; exact up q fun d z => by cases z.1
    | nw _ => unfold wb at q; exact up q fun d z => by cases z.1
    | sl k =>
      cases p with
      | un => unfold wb at q; exact up q fun d z => by cases z.2
      | fz _ => unfold wb at q; exact up q fun d z => by cases z.2
      | bw _ => unfold wb at q; exact up q fun d z => by cases z.2
      | ow b d =>
        cases b with
        | false => unfold wb at q; exact up q fun d z => by cases z.2
        | true =>
          have q' : (wb ts ps qs (wb1 e k y))[i]? = some s := by unfold wb at q; exact q
          obtain ⟨x, hx, hx2⟩ := wb1_of e k y
          rw [hx] at q'
          rcases wb_get q' with z | ⟨z1, z2⟩ | ⟨j, d2, d', b, d0, z1, z2, z3, z4, z5⟩
          · exact .inl z
          · rcases get_set z1 with ⟨rfl, z, _⟩ | ⟨ne, z⟩
            · rcases hx2 with hx2 | ⟨d', b, d1, h1, h2, h3⟩
              · rw [hx2] at z; exact .inl z
              · rw [h3] at z
                exact .inr (.inr ⟨0, d1, d', b, d, rfl, rfl, by rw [h1]; rfl, h2, z⟩)
            · refine .inr (.inl ⟨z, fun j d g1 g2 => ?_⟩)
              cases j with
              | zero =>
                have : (Tg.sl k) = .sl i := by simpa using g1
                cases this
                exact (ne rfl).elim
              | succ j => exact Nat.succ_le_succ (z2 j d (by simpa using g1) (by simpa using g2))
          · rcases get_set z4 with ⟨rfl, z, _⟩ | ⟨ne, z⟩
            · rcases hx2 with hx2 | ⟨d3, b3, d1, h1, h2, h3⟩
              · rw [hx2] at z; cases z
              · rw [h3] at z
                cases z
                exact .inr (.inr ⟨j + 1, d1, d', b, d0, by simpa using z1, by simpa using z2, by simpa using z3, h2, z5⟩)
            · exact .inr (.inr ⟨j + 1, d2, d', b, d0, by simpa using z1, by simpa using z2, by simpa using z3, z, z5⟩)
/-- the caller's world behind the call -/
theorem call_back {ms : List Md} {ts : List Tg} {vs : List V} {ps qs : En} (w : Wd K H0 H σ e) (r : RepOs K H0 σ vs ts) (h : mkP ms ts e = some ps) (n : nodupB (slIx ts) = true)
    (w' : Wd K H0' H' (vs.map some) qs) (a' : After K H0 H (vs.map some) ps H0' H' (vs.map some) qs) : Wd K H0' H' σ (wb ts ps qs e) ∧ After K H0 H σ e H0' H' σ (wb ts ps qs e) := by
  obtain ⟨wp, own, ow⟩ := mkP_wd w r h n
  have hl : ps.length = vs.length := by have := wp.len; rw [List.length_map] at this; exact this.symm
  have hl' : qs.length = vs.length := by have := w'.len; rw [List.length_map] at this; exact this.symm
  have short : ∀ {j : Nat} {d : D}, ps[j]? = some (.ow true d) → ¬ qs.length ≤ j := fun {j d} q z => by
    have := (List.getElem?_eq_some_iff.mp q).1
    omega
  have vget : ∀ {j : Nat} {v : V}, vs[j]? = some v → (vs.map some)[j]? = some (some v) := fun {j v} q => by rw [List.getElem?_map, q]; rfl
  have own2 : ∀ b, Own σ (wb ts ps qs e) b → Own σ e b := fun b ⟨i, p, d, q1, q2⟩ => by
    rcases wb_get q1 with z | ⟨z, _⟩ | ⟨j, d1, d', p', d0, z1, z2, z3, z4, z5⟩
    · cases z
    · exact ⟨i, p, d, z, q2⟩
    · exact ⟨i, p', d1, z4, q2⟩
  -- what no parameter owns stays
  have stay : ∀ {a : Addr} {d : D}, OwnAt K H0 H a d → ¬ Own (vs.map some) ps a → OwnAt K H0' H' a d := fun {a d} o no => o.keep a'.s0 fun b u hb q => by
    have nb : ¬ Own (vs.map some) ps b := fun z => by
      rcases hb with hb | hb
      · rw [hb] at z; exact no z
      · obtain ⟨d', z⟩ := wp.own_some z
        exact z.2.not_own a hb
    exact ⟨a'.keep b u q nb, fun m => a'.off b u q m nb⟩
  refine ⟨⟨w'.sub, by rw [wb_len]; exact w.len, fun i d q => ?_, fun i p d q => ?_, fun i d q => ?_, fun i j p p' d d' a q1 q2 q3 q4 => ?_⟩,
    a'.s0, fun b o q no => a'.keep b o q fun z => no (own b z), fun b o q m no => a'.off b o q m fun z => no (own b z), a'.thr, fun b o => .inl (own2 b o), fun i d q => ?_, fun i d q => ?_⟩
  · rcases wb_get q with z | ⟨z, _⟩ | ⟨j, d1, d', p', d0, z1, z2, z3, z4, z5⟩
    · cases z
    · obtain ⟨v, h1, h2⟩ := w.fz i d z
      exact ⟨v, h1, h2.mono a'.s0⟩
    · cases z5
  · rcases wb_get q with z | ⟨z, z0⟩ | ⟨j, d1, d', p', d0, z1, z2, z3, z4, z5⟩
    · cases z
    · obtain ⟨a, h1, h2⟩ := w.ow i p d z
      refine ⟨a, h1, stay h2 fun ⟨j, p2, d2, q1, q2⟩ => ?_⟩
      obtain ⟨rfl, i', p', v, g1, g2, g3, g4⟩ := ow j p2 d2 q1
      rw [vget g3] at q2; cases q2
      have := w.inj i i' _ _ _ _ a z g2 h1 g4
      subst this
      exact short q1 (z0 j d2 g1 q1)
    · cases z5
      obtain ⟨_, i', p2, v, g1, g2, g3, g4⟩ := ow j true d0 z2
      rw [z1] at g1; cases g1
      obtain ⟨b, h1, h2⟩ := w'.ow j _ _ z3
      rw [vget g3] at h1; cases h1
      exact ⟨b, g4, h2⟩
  · rcases wb_get q with z | ⟨z, _⟩ | ⟨j, d1, d', p', d0, z1, z2, z3, z4, z5⟩
    · cases z
    · obtain ⟨v, h1, h2⟩ := w.bw i d z
      refine ⟨v, h1, h2.imp (fun r => r.mono a'.s0) fun ⟨a, y1, y2, y3⟩ => ⟨a, y1, stay y2 fun z => y3 (own a z), fun z => y3 (own2 a z)⟩⟩
    · cases z5
  · have low : ∀ {i : Nat} {p : Bool} {d : D}, (wb ts ps qs e)[i]? = some (.ow p d) → ∃ p' d', e[i]? = some (.ow p' d') := fun {i p d} q => by
      rcases wb_get q with z | ⟨z, _⟩ | ⟨j, d1, d', p', d0, z1, z2, z3, z4, z5⟩
      · cases z
      · exact ⟨p, d, z⟩
      · exact ⟨p', d1, z4⟩
    obtain ⟨_, _, z1⟩ := low q1
    obtain ⟨_, _, z2⟩ := low q2
    exact w.inj i j _ _ _ _ a z1 z2 q3 q4
  · rcases wb_get q with z | ⟨z, _⟩ | ⟨j, d1, d', p', d0, z1, z2, z3, z4, z5⟩
    · cases z
    · exact ⟨rfl, d, z⟩
    · cases z5; exact ⟨rfl, d1, z4⟩
  · rcases wb_get q with z | ⟨z, _⟩ | ⟨j, d1, d', p', d0, z1, z2, z3, z4, z5⟩
    · cases z
    · exact ⟨rfl, z⟩
    · cases z5
/-- the callee's contract holds at the call -/
theorem callF_of {F : Fe} {ms : List Md} {ts : List Tg} {vs : List V} {Q : VK} {n : Nat} (w : Wd K H0 H σ e) (a : After K H0s Hs σ es H0 H σ e) (r : RepOs K H0 σ vs ts) (hn : ms.length = n)
    (h : Gy K W σ H0s Hs es (callF F ms ts e) fun t e' H0' H' => ∀ v, RepT K H0' H' Hs σ e' v t → Q v H') : spV K n F vs H Q fun c d H => W c d σ H := by
  refine ⟨?_, ?_⟩
  · unfold callF at h
    cases q1 : frzA ms ts e with
    | none => simp only [q1] at h; exact h.elim
    | some e1 => rw [r.length, frzA_len q1, hn]
  unfold callF at h
  cases q1 : frzA ms ts e with
  | none => simp only [q1] at h; exact h.elim
  | some e1 =>
    obtain ⟨H01, w1, a1, r1⟩ := frzA_of w r q1
    cases q2 : mkP ms ts e1 with
    | none => simp only [q1, q2] at h; exact h.elim
    | some ps =>
      simp only [q1, q2] at h
      by_cases nd : nodupB (slIx ts) = true
      case neg => rw [if_neg nd] at h; exact h.elim
      rw [if_pos nd] at h
      have w2 := (mkP_wd w1 r1 q2 nd).1
      have nobw : ∀ {qs : En}, Wd K H01 H σ e1 → ∀ (p : Addr), H p = none → ∀ {H0' H' : Hp}, After K H01 H σ e1 H0' H' σ (wb ts ps qs e1) → ∀ (j : Nat) (b : D), (wb ts ps qs e1)[j]? = some (Sl.bw b) → σ[j]? = some (some (V.ref p)) → Rep K H0' (.ref p) b := fun {qs} w1 p hp {H0' H'} a3 j b z1 z2 => by
        obtain ⟨_, z3⟩ := a3.pinb j b z1
        obtain ⟨v', z4, z5⟩ := w1.bw j b z3
        rw [z2] at z4; cases z4
        rcases z5 with z5 | ⟨c, z6, z7, _⟩
        · exact z5.mono a3.s0
        · cases z6
          obtain ⟨u, hu⟩ := z7.some
          rw [hp] at hu; cases hu
      refine ⟨H01, ps, w2, ?_⟩
      cases q3 : F ps with
      | bad => simp only [q3] at h; exact h.elim
      | ex x qs =>
        simp only [q3] at h
        intro dx H0' H' w' a' x'
        obtain ⟨w3, a3⟩ := call_back w1 r1 q2 nd w' a'
        exact h dx H0' H' w3 ((a.trans a1).trans a3) x'
      | ok t qs =>
        simp only [q3] at h
        intro H0' H' w' a' v rt
        obtain ⟨w3, a3⟩ := call_back w1 r1 q2 nd w' a'
        cases t with
        | sl i => exact h.elim
        | fz d => exact h H0' H' w3 ((a.trans a1).trans a3) v rt
        | nw d =>
          obtain ⟨p, h1, h2, h3, h4, h5⟩ := rt
          refine h H0' H' w3 ((a.trans a1).trans a3) v ⟨p, h1, ?_, fun o => ?_, h4, nobw w1 p h2 a3⟩
          · cases z : Hs p with
            | none => rfl
            | some o =>
              obtain ⟨o', z'⟩ := a.thr p o z
              rw [h2] at z'; cases z'
          · rcases a3.own p o with o' | _
            · obtain ⟨d', z⟩ := w1.own_some o'
              obtain ⟨u, hu⟩ := z.some
              rw [h2] at hu; cases hu
            · -- owned by a slot behind the call, but it was new
              obtain ⟨i, p', d', z1, z2⟩ := o
              rcases wb_get z1 with z | ⟨z, _⟩ | ⟨j, d1, d'', p2, d0, y1, y2, y3, y4, y5⟩
              · cases z
              · obtain ⟨b, y1, y2⟩ := w1.ow i p' d' z
                rw [z2] at y1; cases y1
                obtain ⟨u, hu⟩ := y2.some
                rw [h2] at hu; cases hu
              · obtain ⟨b, x1, x2⟩ := w1.ow i p2 d1 y4
                rw [z2] at x1; cases x1
                obtain ⟨u, hu⟩ := x2.some
                rw [h2] at hu; cases hu
end
theorem tA_then' {K : PySem.W.Frag} {H0 H : Hp} {σ : L2.St} {e : En} {W : WX} {β : Type} {f : Fa} {g : List Tg → En → Rz β} {k : β → En → Hp → Hp → Prop} {Z : List V → Hp → Prop} (w : Wd K H0 H σ e) (h : Gy K W σ H0 H e ((f e).bind g) k)
    (hz : ∀ t e1 vs H01 H1, f e = .ok t e1 → Wd K H01 H1 σ e1 → After K H0 H σ e H01 H1 σ e1 → RepOs K H01 σ vs t → Gy K W σ H0 H e (g t e1) k → Z vs H1) : tA K W f σ H Z := by
  refine ⟨H0, e, w, ?_⟩
  cases q : f e with
  | ok t e1 => rw [q] at h; exact fun H01 H1 w1 a1 vs r1 => hz t e1 vs H01 H1 q w1 a1 r1 h
  | ex x e1 => rw [q] at h; exact h
  | bad => rw [q] at h; exact h
section
variable {X : Cx} {W : WX} {k : Nat} {f : Addr} {fd : FuncData} {ps : List Str} {F : Fe} {x : Str} {p pos : Pos} {a : Expr} {es : List Expr} {fs : Fa}
/-- a call of an own def -/
theorem ve_call (ms : List Md) (hF : FnOk X.prog X.w X.K X.mg X.base (L2.CX X.prog X.w) k f fd ps (spV X.K ps.length F)) (hr : Room k X.A) (hg : Gl X x) (hm : X.mg x = some (.ref f)) (hk : PySem.W.keepIn X.K (.ref f) = true) (hb : Binds X.K fd ps []) (tk : Takes X W)
    (ha : VA X W (a :: es) fs) (hl : ms.length = ps.length := by rfl) (hdb : (x == ("__debug__" : Str)) = false := by decide) (he : starEach (a :: es) X.env = (false, eval a X.env) :: starEach es X.env := by rfl) (hpl : (backTo pos (starEach es X.env)).any (·.1) = false := by rfl) :
    VE X W (.Call (.Name x p) (a :: es) [] pos) (dCall F ms fs) := by
  refine pe_imp (pe_callS hF hr hg hm hk hb (fun σ => passAt tk σ) ha hdb he hpl) fun σ H Q ⟨H0, e, w, h⟩ => ?_
  exact tA_then' w h fun ts e1 vs H01 H1 q1 w1 a1 r1 h1 => callF_of w1 a1 r1 hl h1
end
end VL

/-! VLn: methods by value: count, index; lists that are changed. -/
namespace VL
open PySem PySem.Spec L2

/-! ### x.count(y), x.index(y) of lists and tuples -/
def okL (xs : List D) : Bool := PyData.plainAll (D.pys xs) && Nat.ble (PyData.depthAll (D.pys xs)) 60
def countD (a b : D) : Option Tg := match itemsD a with
  | some xs => if (okL xs && okD b) = true then some (.fz (.int ((xs.countP fun y => eqvD y b : Nat) : Int))) else none
  | none => none
def idxL (b : D) : List D → Option Nat
  | [] => none
  | y :: ys => if eqvD y b = true then some 0 else (idxL b ys).map (· + 1)
def indexD (a b : D) : Option Tg := match itemsD a with
  | some xs => if (okL xs && okD b) = true then (idxL b xs).map fun i => .fz (.int (i : Int)) else none
  | none => none
def kL : D → Bool
  | .lst _ => true
  | _ => false
def kT : D → Bool
  | .tup _ => true
  | _ => false
def kO (kd : D → Bool) : Option D → Bool
  | some d => kd d
  | none => false
def dM1k (kd : D → Bool) (f : D → D → Option Tg) (t1 : Tg) (fb : Fe) : Fe := fun e1 => (fb e1).bind fun t2 e2 => if kO kd (look e2 t1) = true then fin2 f t1 t2.fr e2 else .bad
def dM1 (f : D → D → Option Tg) (fa fb : Fe) : Fe := fun e => (fa e).bind fun t1 e1 => if kO kL (look e1 t1.fr) = true then dM1k kL f t1.fr fb e1 else if kO kT (look e1 t1.fr) = true then dM1k kT f t1.fr fb e1 else .bad
theorem idxL_at {b : D} : ∀ {xs : List D} {i : Nat}, idxL b xs = some i → ∃ h : i < xs.length, eqvD xs[i] b = true ∧ ∀ m (hm : m < xs.length), m < i → eqvD xs[m] b = false
  | [], i, h => by cases h
  | y :: ys, i, h => by
    unfold idxL at h
    by_cases z : eqvD y b = true
    · rw [if_pos z] at h
      cases h
      exact ⟨Nat.succ_pos _, z, fun m _ hm => absurd hm (Nat.not_lt_zero m)⟩
    · rw [if_neg z] at h
      cases q : idxL b ys with
      | none => rw [q] at h; cases h
      | some j =>
        rw [q] at h
        cases h
        obtain ⟨h1, h2, h3⟩ := idxL_at q
        refine ⟨Nat.succ_lt_succ h1, h2, fun m hm hlt => ?_⟩
        cases m with
        | zero => simpa using z
        | succ m => exact h3 m (Nat.lt_of_succ_lt_succ hm) (Nat.lt_of_succ_lt_succ hlt)
theorem pys_length : ∀ xs : List D, (D.pys xs).length = xs.length
  | [] => by rw [D.pys]; rfl
  | x :: xs => by rw [D.pys, List.length_cons, List.length_cons, pys_length xs]
theorem pys_get : ∀ (xs : List D) (i : Nat) (h : i < xs.length), (D.pys xs)[i]? = some xs[i].py
  | x :: xs, 0, _ => by rw [D.pys]; rfl
  | x :: xs, i + 1, h => by rw [D.pys, List.getElem?_cons_succ]; exact pys_get xs i (Nat.lt_of_succ_lt_succ h)
theorem countP_pys (b : D) : ∀ xs : List D, (D.pys xs).countP (fun y => PyData.eqv y b.py) = xs.countP fun y => eqvD y b
  | [] => by rw [D.pys]; rfl
  | x :: xs => by
    rw [D.pys, List.countP_cons, List.countP_cons, countP_pys b xs]
    rfl
theorem okL_of {xs : List D} (h : okL xs = true) : PyData.plainAll (D.pys xs) = true ∧ PyData.depthAll (D.pys xs) ≤ 60 := ⟨(and2 h).1, Nat.le_of_ble_eq_true (and2 h).2⟩
def M1R (X : Cx) (id : String) (f : D → D → Option Tg) (kd : D → Bool) : Prop := MtR X id fun x xs H Q => ∃ y H0 a b t, xs = [y] ∧ kd a = true ∧ Same H0 H ∧ Opd X.K H0 H x a ∧ Opd X.K H0 H y b ∧ f a b = some t ∧ Gives X.K H0 H t Q
section
variable {X : Cx} {k : Nat}
theorem lst_reads {pins : List (Addr × Obj)} {σ : L2.St} {H0 H : Hp} {s : Shared} {v1 : V} {u1 : Value} {xs : List D} (I : Inv X pins σ H s) (sm : Same H0 H) (o1 : Opd X.K H0 H v1 (.lst xs)) (r1 : RelV v1 u1) (h : okL xs = true) :
    ∃ (p : Addr) (its : List Value) (as : List Addr), u1 = .ref p ∧ PlainL s.heap p its.toArray ∧ its.length ≤ sizeLine ∧ ReadsAll s.heap its.toArray.toList (D.pys xs) as := by
  obtain ⟨p, vs, rfl, h1, r⟩ := o1.lst sm
  cases r1
  obtain ⟨its, rv, pl, hz⟩ := I.list (SqL.of h1)
  obtain ⟨as, ra⟩ := Dp.readsAll I _ _ its ((r.mono sm).dp (okL_of h).1) rv
  exact ⟨p, its, as, rfl, pl, by rw [← rv.length]; exact hz, by simpa using ra⟩
theorem tup_reads {pins : List (Addr × Obj)} {σ : L2.St} {H0 H : Hp} {s : Shared} {v1 : V} {u1 : Value} {xs : List D} (I : Inv X pins σ H s) (sm : Same H0 H) (o1 : Opd X.K H0 H v1 (.tup xs)) (r1 : RelV v1 u1) (h : okL xs = true) :
    ∃ (p : Addr) (its : List Value) (as : List Addr), u1 = .ref p ∧ s.heap.IsTuple p its.toArray ∧ its.length ≤ sizeLine ∧ ReadsAll s.heap its.toArray.toList (D.pys xs) as := by
  obtain ⟨p, vs, rfl, h1, _, r⟩ := o1.tup sm
  cases r1
  obtain ⟨its, rv, pl, hz⟩ := I.tuple h1.sq
  obtain ⟨as, ra⟩ := Dp.readsAll I _ _ its ((r.mono sm).dp (okL_of h).1) rv
  exact ⟨p, its, as, rfl, pl, by rw [← rv.length]; exact hz, by simpa using ra⟩
theorem room_min {A : Around} {xs : List D} {b : D} (hr : Room k A) (h : okL xs = true) : A.units + 1 + min (PyData.depthAll (D.pys xs)) b.py.depth < cLine := by
  have := hr.un
  have := (okL_of h).2
  omega
theorem mt_countL (hr : Room k X.A) : M1R X "list.count" countD kL := by
  intro pins s σ H x xs v us Q I rx rxs ⟨y, H0, a, b, t, ex, ka, sm, o1, o2, e, g⟩
  subst ex
  obtain ⟨u, rfl, ru⟩ := vals1 rxs
  cases a with
  | lst ds =>
    have e : (if (okL ds && okD b) = true then some (Tg.fz (.int ((ds.countP fun y => eqvD y b : Nat) : Int))) else none) = some t := e
    by_cases z : (okL ds && okD b) = true
    · rw [if_pos z] at e
      cases e
      obtain ⟨z1, z2⟩ := and2 z
      obtain ⟨p, its, as, rfl, pl, hz, ra⟩ := lst_reads I sm o1 rx z1
      obtain ⟨bs, rb⟩ := Dp.reads I _ y u (o2.dp sm z2) ru
      refine PySem.SeqAt.count_list_data pl.isList ra rb (okL_of z1).1 (okD_plain z2) (room_min hr z1) ?_
      rw [countP_pys]
      exact ⟨.int _, H, I.tok _, ⟨_, rfl⟩, gives_fz sm g (.int _)⟩
    · rw [if_neg z] at e; cases e
  | _ => cases ka
theorem mt_countT (hr : Room k X.A) : M1R X "tuple.count" countD kT := by
  intro pins s σ H x xs v us Q I rx rxs ⟨y, H0, a, b, t, ex, ka, sm, o1, o2, e, g⟩
  subst ex
  obtain ⟨u, rfl, ru⟩ := vals1 rxs
  cases a with
  | tup ds =>
    have e : (if (okL ds && okD b) = true then some (Tg.fz (.int ((ds.countP fun y => eqvD y b : Nat) : Int))) else none) = some t := e
    by_cases z : (okL ds && okD b) = true
    · rw [if_pos z] at e
      cases e
      obtain ⟨z1, z2⟩ := and2 z
      obtain ⟨p, its, as, rfl, pl, hz, ra⟩ := tup_reads I sm o1 rx z1
      obtain ⟨bs, rb⟩ := Dp.reads I _ y u (o2.dp sm z2) ru
      refine PySem.SeqAt.count_tuple_data pl ra rb (okL_of z1).1 (okD_plain z2) (room_min hr z1) ?_
      rw [countP_pys]
      exact ⟨.int _, H, I.tok _, ⟨_, rfl⟩, gives_fz sm g (.int _)⟩
    · rw [if_neg z] at e; cases e
  | _ => cases ka
theorem read_at {h : Heap} {its : List Value} {xs : List D} {as : List Addr} (ra : ReadsAll h its.toArray.toList (D.pys xs) as) (hp : PyData.plainAll (D.pys xs) = true) {m : Nat} (hm : m < its.toArray.size) : ∃ hx : m < xs.length, SeqAt.readOf h its.toArray[m] = xs[m].py := by
  obtain ⟨h2, e⟩ := PySem.SeqAt.readOf_at (vs := its.toArray) ra hp m hm
  rw [pys_length] at h2
  refine ⟨h2, e.trans ?_⟩
  have := pys_get xs m h2
  rw [List.getElem?_eq_getElem (by rw [pys_length]; exact h2)] at this
  exact Option.some.inj this
theorem mt_indexL (hr : Room k X.A) : M1R X "list.index" indexD kL := by
  intro pins s σ H x xs v us Q I rx rxs ⟨y, H0, a, b, t, ex, ka, sm, o1, o2, e, g⟩
  subst ex
  obtain ⟨u, rfl, ru⟩ := vals1 rxs
  cases a with
  | lst ds =>
    have e : (if (okL ds && okD b) = true then (idxL b ds).map fun i => Tg.fz (.int (i : Int)) else none) = some t := e
    by_cases z : (okL ds && okD b) = true
    · rw [if_pos z] at e
      cases q : idxL b ds with
      | none => rw [q] at e; cases e
      | some j =>
        rw [q] at e
        cases e
        obtain ⟨z1, z2⟩ := and2 z
        obtain ⟨p, its, as, rfl, pl, hz, ra⟩ := lst_reads I sm o1 rx z1
        obtain ⟨bs, rb⟩ := Dp.reads I _ y u (o2.dp sm z2) ru
        obtain ⟨hj, j1, j2⟩ := idxL_at q
        have hl : its.length = ds.length := by have := PySem.SeqAt.len_at (vs := its.toArray) ra; rw [pys_length] at this; simpa using this
        have hji : j < its.toArray.size := by simpa [hl] using hj
        obtain ⟨⟨cls, dd, data, sls⟩, n, ho, hc, hdn, hdt⟩ := pl
        simp only at hc hdt
        subst hc hdt
        have hsl := sizeLine_eq
        refine call_meets PySem.F.slot_list_index ⟨_, ho, rfl⟩ PySem.F.entry_list_index (PySem.F.args_list_index_2 _ _)
          (SeqAt.list_indexAt p its.toArray n dd sls u (fun w => PyData.eqv (SeqAt.readOf s.heap w) b.py) j hji (by omega) ?_ ?_) ⟨ho, PySem.SeqAt.items_plain (vs := its.toArray) ra rb (okL_of z1).1 (okD_plain z2) (room_min hr z1), ⟨.int (j : Nat), H, I.tok _, ⟨_, rfl⟩, gives_fz sm g (.int _)⟩⟩
        · show PyData.eqv (SeqAt.readOf s.heap its.toArray[j]) b.py = true
          obtain ⟨hx, e⟩ := read_at ra (okL_of z1).1 hji
          rw [e]; exact j1
        · intro m hm hlt
          obtain ⟨hx, e⟩ := read_at ra (okL_of z1).1 hm
          show PyData.eqv (SeqAt.readOf s.heap its.toArray[m]) b.py = false
          rw [e]; exact j2 m hx hlt
    · rw [if_neg z] at e; cases e
  | _ => cases ka
theorem mt_indexT (hr : Room k X.A) : M1R X "tuple.index" indexD kT := by
  intro pins s σ H x xs v us Q I rx rxs ⟨y, H0, a, b, t, ex, ka, sm, o1, o2, e, g⟩
  subst ex
  obtain ⟨u, rfl, ru⟩ := vals1 rxs
  cases a with
  | tup ds =>
    have e : (if (okL ds && okD b) = true then (idxL b ds).map fun i => Tg.fz (.int (i : Int)) else none) = some t := e
    by_cases z : (okL ds && okD b) = true
    · rw [if_pos z] at e
      cases q : idxL b ds with
      | none => rw [q] at e; cases e
      | some j =>
        rw [q] at e
        cases e
        obtain ⟨z1, z2⟩ := and2 z
        obtain ⟨p, its, as, rfl, pl, hz, ra⟩ := tup_reads I sm o1 rx z1
        obtain ⟨bs, rb⟩ := Dp.reads I _ y u (o2.dp sm z2) ru
        obtain ⟨hj, j1, j2⟩ := idxL_at q
        have hl : its.length = ds.length := by have := PySem.SeqAt.len_at (vs := its.toArray) ra; rw [pys_length] at this; simpa using this
        have hji : j < its.toArray.size := by simpa [hl] using hj
        obtain ⟨⟨cls, dd, data, sls⟩, ho, hc, n, hdt⟩ := pl
        simp only at hc hdt
        subst hc hdt
        refine call_meets PySem.F.slot_tuple_index ⟨_, ho, rfl⟩ PySem.F.entry_tuple_index (PySem.F.args_tuple_index_2 _ _)
          (TI.tuple_indexAt p its.toArray n dd sls u (fun w => PyData.eqv (SeqAt.readOf s.heap w) b.py) j hji ?_ ?_) ⟨ho, PySem.SeqAt.items_plain (vs := its.toArray) ra rb (okL_of z1).1 (okD_plain z2) (room_min hr z1), ⟨.int (j : Nat), H, I.tok _, ⟨_, rfl⟩, gives_fz sm g (.int _)⟩⟩
        · show PyData.eqv (SeqAt.readOf s.heap its.toArray[j]) b.py = true
          obtain ⟨hx, e⟩ := read_at ra (okL_of z1).1 hji
          rw [e]; exact j1
        · intro m hm hlt
          obtain ⟨hx, e⟩ := read_at ra (okL_of z1).1 hm
          show PyData.eqv (SeqAt.readOf s.heap its.toArray[m]) b.py = false
          rw [e]; exact j2 m hx hlt
    · rw [if_neg z] at e; cases e
  | _ => cases ka

/-! ### the call o.m(e) of a list or a tuple -/
/-- of that type, its methods found -/
def tyZ (X : Cx) (T : String) (x : V) (H : Hp) : Prop := ∀ (pins : List (Addr × Obj)) (σ : L2.St) (s : Shared) (v : Value), Inv X pins σ H s → RelV x v → s.TypeIs v T ∧ ∀ a, v = .ref a → ∃ ob, s.heap.get? a = some ob ∧ ob.dict = none
theorem tyZ_lst {H0 H : Hp} {x : V} {ds : List D} (sm : Same H0 H) (o : Opd X.K H0 H x (.lst ds)) : tyZ X "list" x H := by
  intro pins σ s v I r
  obtain ⟨p, vs, rfl, h1, _⟩ := o.lst sm
  exact tyV_is I r (show tyV X.K "list" (.ref p) H from .inl ⟨rfl, vs, SqL.of h1⟩)
theorem tyZ_tup {H0 H : Hp} {x : V} {ds : List D} (sm : Same H0 H) (o : Opd X.K H0 H x (.tup ds)) : tyZ X "tuple" x H := by
  intro pins σ s v I r
  obtain ⟨p, vs, rfl, h1, _, _⟩ := o.tup sm
  rcases h1 with ⟨o, h1, hd⟩ | ⟨o, its, n, h1, h2, h3, _⟩
  · cases r
    obtain ⟨hg, _, its, _, o', h4, h5, _⟩ := I.hok p _ h1
    rw [hg] at h4
    cases h4
    exact ⟨⟨_, hg, h5⟩, fun a z => by cases z; exact ⟨_, hg, hd⟩⟩
  · exact tyV_is I r (show tyV X.K "tuple" (.ref p) H from .inr (.inl ⟨rfl, o, h1, h2, h3⟩))
variable {W : WX} {o e : Expr} {fa fb : Fe} {name : Str} {apos cpos : Pos}
theorem ve_m1 {f : D → D → Option Tg} {idL idT : String} (slL : Slot "list" name idL) (tyL : typeOf (.builtin idL) = pure (.type "method_descriptor")) (mL : M1R X idL f kL)
    (slT : Slot "tuple" name idT) (tyT : typeOf (.builtin idT) = pure (.type "method_descriptor")) (mT : M1R X idT f kT) (ho : VE X W o fa) (ha : VE X W e fb)
    (hbase : attributeBase o name X.env (eval o X.env) = eval o X.env := by rfl)
    (hfew : ((backTo cpos (starEach [e] X.env)).all (fun x => !x.1) && (backToKw cpos (keywordEach [] X.env)).all (fun x => x.1.isSome)
      && decide (([e] : List Expr).length + ([] : List Keyword).length + (if ([] : List Keyword).isEmpty then 0 else 1) < 30)) = true := by rfl)
    (hline : (apos.endLine == cpos.line) = true := by rfl) (hs : starEach [e] X.env = (false, eval e X.env) :: starEach [] X.env := by rfl) :
    VE X W (.Call (.Attribute o name apos) [e] [] cpos) (dM1 f fa fb) := by
  refine ⟨fun pins s σ H Q I ⟨H0, en, w, h⟩ => ?_⟩
  have h2 : tE X.K W fa σ H fun x H1 => ∃ (T id : String), PlainAttrs T ∧ Slot T name id ∧ typeOf (.builtin id) = pure (.type "method_descriptor") ∧ tyZ X T x H1 ∧
      tE X.K W fb σ H1 fun y H2 => ∀ pins s v u, Inv X pins σ H2 s → RelV x v → RelV y u → wpAny (model X.prog X.w) X.A (call (.builtin id) [v, u]) (EP X pins σ Q) X.xe s := by
    refine tE_then w h fun t1 e1 v1 H01 H1 q1 w1 a1 r1 h1 => ?_
    have rest : ∀ (id : String) (kd : D → Bool), M1R X id f kd → Gy X.K W σ H01 H1 e1 (dM1k kd f t1.fr fb e1) (fun t e' H0' H' => ∀ v, RepT X.K H0' H' H σ e' v t → Q v H') →
        tE X.K W fb σ H1 fun y H2 => ∀ pins s v u, Inv X pins σ H2 s → RelV v1 v → RelV y u → wpAny (model X.prog X.w) X.A (call (.builtin id) [v, u]) (EP X pins σ Q) X.xe s := fun id kd m h1 => by
      refine tE_then w1 h1 fun t2 e2 v2 H02 H2 q2 w2 a2 r2 h2 => ?_
      intro pins s v u I2 rv ru
      by_cases hk : kO kd (look e2 t1.fr) = true
      case neg => rw [if_neg hk] at h2; exact h2.elim
      rw [if_pos hk] at h2
      cases p1 : look e2 t1.fr with
      | none => simp only [fin2, p1] at h2; exact h2.elim
      | some d1 =>
        rw [p1] at hk
        cases p2 : look e2 t2.fr with
        | none => simp only [fin2, p1, p2] at h2; exact h2.elim
        | some d2 =>
          cases p3 : f d1 d2 with
          | none => simp only [fin2, p1, p2, p3] at h2; exact h2.elim
          | some t =>
            simp only [fin2, p1, p2, p3] at h2
            exact m pins s σ H2 v1 [v2] v [u] Q I2 rv (.cons ru .nil) ⟨v2, H02, d1, d2, t, rfl, hk, w2.sub, look_ok w2 (r1.mono a2.s0) p1, look_ok w2 r2 p2, p3, gives_of w2 (a1.trans a2) h2⟩
    by_cases hk : kO kL (look e1 t1.fr) = true
    · rw [if_pos hk] at h1
      cases q : look e1 t1.fr with
      | none => rw [q] at hk; cases hk
      | some a =>
        rw [q] at hk
        cases a with
        | lst ds => exact ⟨"list", idL, PySem.F.plainAttrs_list, slL, tyL, tyZ_lst w1.sub (look_ok w1 r1 q), rest idL kL mL h1⟩
        | _ => cases hk
    · rw [if_neg hk] at h1
      by_cases hk : kO kT (look e1 t1.fr) = true
      · rw [if_pos hk] at h1
        cases q : look e1 t1.fr with
        | none => rw [q] at hk; cases hk
        | some a =>
          rw [q] at hk
          cases a with
          | tup ds => exact ⟨"tuple", idT, PySem.F.plainAttrs_tuple, slT, tyT, tyZ_tup w1.sub (look_ok w1 r1 q), rest idT kT mT h1⟩
          | _ => cases hk
      · rw [if_neg hk] at h1; exact h1.elim
  refine wpAny_Call_method_late hbase hfew hline rfl (thn (ho.run pins s σ H _ I h2) fun v s1 ⟨x, H1, I1, r1, T, id, pa, sl, ty, tz, q1⟩ => ?_)
  obtain ⟨z1, z2⟩ := tz pins σ s1 v I1 r1
  refine ⟨T, id, pa, sl, ty, z1, z2, ?_⟩
  have hA := (pa_cons ha pa_nil hs).run cpos pins s1 σ H1 (fun vs H2 => ∀ (pins : List (Addr × Obj)) (s : Shared) (v : Value) (us : List Value), Inv X pins σ H2 s → RelV x v → Vals vs us → wpAny (model X.prog X.w) X.A (call (.builtin id) (v :: us)) (EP X pins σ Q) X.xe s) I1 (by
    show tE X.K W fb σ H1 _
    obtain ⟨H02, e2, w2, g2⟩ := q1
    refine ⟨H02, e2, w2, ?_⟩
    cases z : fb e2 with
    | bad => rw [z] at g2; exact g2
    | ex x e3 => rw [z] at g2; exact g2
    | ok t e3 =>
      rw [z] at g2
      intro H03 H3 w3 a3 y r3 pins s v us I3 rv ru
      obtain ⟨u, rfl, ru'⟩ := vals1 ru
      exact g2 H03 H3 w3 a3 y r3 pins s v u I3 rv ru')
  rw [hs] at hA ⊢
  refine Calls.callWith_builtin (by show (false || (backTo cpos (starEach [] X.env)).any (·.1)) = false; rfl) (Calls.evalArgs_plain ?_)
  exact thn hA fun us s2 ⟨vs, H2, I2, r2, q2⟩ => q2 pins s2 v us I2 r1 r2
end
end VL

/-! VLo: owned lists and dicts that are changed. -/
namespace VL
open PySem PySem.Spec L2

section
variable {K : PySem.W.Frag} {H0 H H01 H1 H0' H' H0s Hs : Hp} {σ σ' σ1 σs : L2.St} {e e1 e' es : En} {W : WX} {v : V}
/-- an owned thing gets a new content -/
theorem Wd.put {i : Nat} {p : Bool} {d d' : D} {a : Addr} {o o' : HO} (w : Wd K H0 H σ e) (he : e[i]? = some (.ow p d)) (hs : σ[i]? = some (some (.ref a))) (ha : H a = some o) (hno : ∀ x, o ≠ .own x) (hc : OwnC K H0 (upd H a o') a d') :
    Wd K H0 (upd H a o') σ (e.set i (.ow p d')) ∧ After K H0 H σ e H0 (upd H a o') σ (e.set i (.ow p d')) := by
  obtain ⟨a', h1, h2⟩ := w.ow i p d he
  rw [hs] at h1; cases h1
  have hn : H0 a = none := h2.1
  have hi : i < e.length := (List.getElem?_eq_some_iff.mp he).1
  have stay : ∀ {b : Addr} {x : D}, b ≠ a → OwnAt K H0 H b x → OwnAt K H0 (upd H a o') b x := fun {b x} nb ob => ob.keep (.refl _) fun c u hcc q => ⟨by
    have : c ≠ a := fun z => by
      subst z
      rcases hcc with hcc | hcc
      · exact nb hcc.symm
      · rw [ha] at hcc; cases hcc; exact hno _ rfl
    rw [upd_ne this]; exact q, id⟩
  have own1 : ∀ b, Own σ (e.set i (.ow p d')) b → Own σ e b := fun b ⟨j, q, x, z1, z2⟩ => by
    rcases get_set z1 with ⟨rfl, z, _⟩ | ⟨ne, z⟩
    · cases z; exact ⟨_, p, d, he, z2⟩
    · exact ⟨j, q, x, z, z2⟩
  refine ⟨⟨fun b u q => by
      by_cases z : b = a
      · subst z; rw [hn] at q; cases q
      · rw [upd_ne z]; exact w.sub b u q, by rw [List.length_set]; exact w.len, fun j x h => ?_, fun j q x h => ?_, fun j x h => ?_, fun j k q q' x x' b z1 z2 z3 z4 => ?_⟩,
    .refl _, fun b u q no => ?_, fun b u q m no => m, fun b u q => ?_, fun b o => .inl (own1 b o), fun j x h => ?_, fun j x h => ?_⟩
  · rcases get_set h with ⟨_, z, _⟩ | ⟨_, z⟩
    · cases z
    · exact w.fz j x z
  · rcases get_set h with ⟨rfl, z, _⟩ | ⟨ne, z⟩
    · cases z; exact ⟨a, hs, hn, hc⟩
    · obtain ⟨b, y1, y2⟩ := w.ow j q x z
      exact ⟨b, y1, stay (fun y => by subst y; exact ne (w.inj i j _ _ _ _ b he z hs y1)) y2⟩
  · rcases get_set h with ⟨_, z, _⟩ | ⟨_, z⟩
    · cases z
    · obtain ⟨u, y1, y2⟩ := w.bw j x z
      refine ⟨u, y1, y2.imp id fun ⟨b, q1, q2, q3⟩ => ⟨b, q1, stay (fun y => by subst y; exact q3 ⟨i, p, d, he, hs⟩) q2, fun o => q3 (own1 b o)⟩⟩
  · have low : ∀ {j : Nat} {q : Bool} {x : D}, (e.set i (Sl.ow p d'))[j]? = some (Sl.ow q x) → ∃ (q' : Bool) (x' : D), e[j]? = some (Sl.ow q' x') := fun {j q x} h => by
      rcases get_set h with ⟨rfl, z, _⟩ | ⟨_, z⟩
      · exact ⟨_, _, he⟩
      · exact ⟨_, _, z⟩
    obtain ⟨_, _, y1⟩ := low z1
    obtain ⟨_, _, y2⟩ := low z2
    exact w.inj j k _ _ _ _ b y1 y2 z3 z4
  · have : b ≠ a := fun z => no ⟨i, p, d, he, by rw [z]; exact hs⟩
    rw [upd_ne this]; exact q
  · by_cases z : b = a
    · subst z; exact ⟨_, upd_same⟩
    · rw [upd_ne z]; exact ⟨u, q⟩
  · rcases get_set h with ⟨rfl, z, _⟩ | ⟨_, z⟩
    · cases z; exact ⟨rfl, d, he⟩
    · exact ⟨rfl, x, z⟩
  · rcases get_set h with ⟨rfl, z, _⟩ | ⟨_, z⟩
    · cases z
    · exact ⟨rfl, z⟩
theorem Wd.putL {i : Nat} {p : Bool} {ds ds' : List D} {a : Addr} {xs xs' : List V} (w : Wd K H0 H σ e) (he : e[i]? = some (.ow p (.lst ds))) (hs : σ[i]? = some (some (.ref a))) (ha : H a = some (.lst xs)) (r : Reps K H0 xs' ds') :
    Wd K H0 (upd H a (.lst xs')) σ (e.set i (.ow p (.lst ds'))) ∧ After K H0 H σ e H0 (upd H a (.lst xs')) σ (e.set i (.ow p (.lst ds'))) :=
  w.put he hs ha (fun x z => by cases z) ⟨xs', upd_same, r⟩
theorem Wd.putD {i : Nat} {p : Bool} {ks ks' : List (D × D)} {a : Addr} {xs xs' : List (Key × V)} (w : Wd K H0 H σ e) (he : e[i]? = some (.ow p (.dct ks))) (hs : σ[i]? = some (some (.ref a))) (ha : H a = some (.dK xs)) (r : RepK K H0 xs' ks') :
    Wd K H0 (upd H a (.dK xs')) σ (e.set i (.ow p (.dct ks'))) ∧ After K H0 H σ e H0 (upd H a (.dK xs')) σ (e.set i (.ow p (.dct ks'))) :=
  w.put he hs ha (fun x z => by cases z) ⟨xs', upd_same, r⟩
theorem Wd.getL {i : Nat} {p : Bool} {ds : List D} (w : Wd K H0 H σ e) (he : e[i]? = some (.ow p (.lst ds))) : ∃ a xs, σ[i]? = some (some (.ref a)) ∧ H a = some (.lst xs) ∧ H0 a = none ∧ Reps K H0 xs ds := by
  obtain ⟨a, h1, hn, xs, h2, h3⟩ := w.ow i p _ he
  exact ⟨a, xs, h1, h2, hn, h3⟩
theorem Wd.getD {i : Nat} {p : Bool} {ds : List (D × D)} (w : Wd K H0 H σ e) (he : e[i]? = some (.ow p (.dct ds))) : ∃ a xs, σ[i]? = some (some (.ref a)) ∧ H a = some (.dK xs) ∧ H0 a = none ∧ RepK K H0 xs ds := by
  obtain ⟨a, h1, hn, xs, h2, h3⟩ := w.ow i p _ he
  exact ⟨a, xs, h1, h2, hn, h3⟩
end
def owL : Option Sl → Bool
  | some (.ow _ (.lst _)) => true
  | _ => false
def putM (i : Nat) (f : List D → List D → Option (List D)) (as : List D) (e : En) : RS := match e[i]? with
  | some (.ow p (.lst ds)) => (match f ds as with
    | some ds' => .nx (e.set i (.ow p (.lst ds')))
    | none => .bad)
  | _ => .bad
/-- x.m(..), x the list in the slot i, the arguments frozen -/
def sMut (i : Nat) (f : List D → List D → Option (List D)) (fv : Fv) : Fs := fun e => if owL e[i]? = true then (fv e).to fun as e1 => putM i f as e1 else .bad
def popF (i : Nat) (t : Tg) (e : En) : Rz Tg := match look e t with
  | some (.int k) => (match e[i]? with
    | some (.ow p (.lst ds)) => if Nat.ble ds.length 100000 = true then (match ixN ds.length k with
      | some j => (match ds[j]? with
        | some d => .ok (.fz d) (e.set i (.ow p (.lst (ds.eraseIdx j))))
        | none => .bad)
      | none => .bad) else .bad
    | _ => .bad)
  | _ => .bad
def dPop (i : Nat) (fa : Fe) : Fe := fun e => if owL e[i]? = true then (fa e).bind fun t e1 => popF i t.fr e1 else .bad
def appM (ds as : List D) : Option (List D) := match as with
  | [d] => if Nat.ble ds.length 100000 = true then some (ds ++ [d]) else none
  | _ => none
def extM (ds as : List D) : Option (List D) := match as with
  | [.lst es] => if Nat.ble (ds.length + es.length) 100000 = true then some (ds ++ es) else none
  | _ => none
def insM (ds as : List D) : Option (List D) := match as with
  | [.int i, d] => if (Nat.ble ds.length 100000 && decide (0 ≤ i) && decide (i < 1000000)) = true then some (ds.take i.toNat ++ [d] ++ ds.drop i.toNat) else none
  | _ => none
section
variable {K : PySem.W.Frag} {H0 H H01 H1 H0' H' H0s Hs : Hp} {σ σ' σ1 σs : L2.St} {e e1 e' es : En} {W : WX} {v : V} {Ez : Ends}
theorem tV_s {f : Fv} {g : List D → En → RS} {Z : List V → Hp → Prop} (w : Wd K H0 H σ e) (h : GyS K W σ H0 H e ((f e).to g) Ez)
    (hz : ∀ ds e1 vs H01 H1, Wd K H01 H1 σ e1 → After K H0 H σ e H01 H1 σ e1 → Reps K H01 vs ds → GyS K W σ H0 H e (g ds e1) Ez → Z vs H1) : tV K W f σ H Z := by
  refine ⟨H0, e, w, ?_⟩
  cases q : f e with
  | ok t e1 => rw [q] at h; exact fun H01 H1 w1 a1 vs r1 => hz t e1 vs H01 H1 w1 a1 r1 h
  | ex x e1 => rw [q] at h; exact fun dx H01 H1 w1 a1 x1 => h dx σ H01 H1 w1 a1 x1
  | bad => rw [q] at h; exact h
end
section
variable {X : Cx} {W : WX} {a : Expr} {es : List Expr} {fa : Fe} {fv : Fv} {x name : Str} {p apos cpos pos : Pos}
theorem owL_of {o : Option Sl} (h : owL o = true) : ∃ p ds, o = some (.ow p (.lst ds)) := by
  cases o with
  | none => cases h
  | some s => cases s with
    | ow p d => cases d with
      | lst ds => exact ⟨p, ds, rfl⟩
      | _ => cases h
    | _ => cases h
theorem vs_mut {id : String} {f : List D → List D → Option (List D)} {rM : V → List V → Hp → VK → Prop} (i : Nat) (hm : MtR X id rM) (slot : Slot "list" name id) (ty : typeOf (.builtin id) = pure (.type "method_descriptor"))
    (himp : ∀ ds as ds', f ds as = some ds' → ∀ (H0 H : Hp) (l : Addr) (xs ys : List V) (Q : VK), Same H0 H → H l = some (.lst xs) → H0 l = none → Reps X.K H0 xs ds → Reps X.K H0 ys as → (∀ xs', Reps X.K H0 xs' ds' → Q .non (upd H l (.lst xs'))) → rM (.ref l) ys H Q)
    (hN : X.N[i]? = some x := by rfl) (hv : Vis X.env.scope x := by first | exact Or.inl rfl | exact Or.inr (Or.inl rfl) | exact Or.inr (Or.inr rfl)) (ha : VV X W (a :: es) fv)
    (hd : (x == ("__debug__" : Str)) = false := by decide) (hcd : (x == ("__classdict__" : Str)) = false := by decide)
    (hs0 : swapsWith (.Call (.Attribute (.Name x p) name apos) (a :: es) [] cpos) none pos.line X.env = pure false := by rfl)
    (hbase : attributeBase (.Name x p) name X.env (eval (.Name x p) X.env) = eval (.Name x p) X.env := by rfl)
    (hfew : ((backTo cpos (starEach (a :: es) X.env)).all (fun x => !x.1) && (backToKw cpos (keywordEach [] X.env)).all (fun x => x.1.isSome)
      && decide ((a :: es).length + ([] : List Keyword).length + (if ([] : List Keyword).isEmpty then 0 else 1) < 30)) = true := by rfl)
    (hline : (apos.endLine == cpos.line) = true := by rfl) (hs : starEach (a :: es) X.env = (false, eval a X.env) :: starEach es X.env := by rfl) (hplain : (backTo cpos (starEach es X.env)).any (·.1) = false := by rfl) :
    VS X W (.Expr (.Call (.Attribute (.Name x p) name apos) (a :: es) [] cpos) pos) (sMut i f fv) := by
  refine ps_imp (ps_expr (pe_bm PySem.F.plainAttrs_list slot ty hm (pe_var hN hv hd hcd) ha hbase hfew hline hs hplain) hs0) fun D σ H ⟨H0, e, w, h⟩ => ?_
  unfold sMut at h
  by_cases ho : owL e[i]? = true
  case neg => rw [if_neg ho] at h; exact h.elim
  rw [if_pos ho] at h
  obtain ⟨p, ds, q⟩ := owL_of ho
  obtain ⟨l, xs, h1, h2, _⟩ := w.getL q
  refine ⟨.ref l, h1, .inl ⟨rfl, xs, SqL.of h2⟩, ?_⟩
  refine tV_s w h fun as e1 ys H01 H1 w1 a1 r1 h3 => ?_
  unfold putM at h3
  cases q1 : e1[i]? with
  | none => simp only [q1] at h3; exact h3.elim
  | some s =>
    cases s with
    | ow p d =>
      cases d with
      | lst ds =>
        simp only [q1] at h3
        cases q2 : f ds as with
        | none => simp only [q2] at h3; exact h3.elim
        | some ds' =>
          simp only [q2] at h3
          obtain ⟨l', xs', g1, g2, g3, g4⟩ := w1.getL q1
          rw [h1] at g1; cases g1
          refine himp ds as ds' q2 H01 H1 l xs' ys _ w1.sub g2 g3 g4 r1 fun zs rz => ?_
          obtain ⟨w2, a2⟩ := w1.putL q1 h1 g2 rz
          exact h3 σ H01 _ w2 (a1.trans a2)
      | _ => simp only [q1] at h3; exact h3.elim
    | _ => simp only [q1] at h3; exact h3.elim
theorem imp_app_m : ∀ ds as ds', appM ds as = some ds' → ∀ (H0 H : Hp) (l : Addr) (xs ys : List V) (Q : VK), Same H0 H → H l = some (.lst xs) → H0 l = none → Reps X.K H0 xs ds → Reps X.K H0 ys as → (∀ xs', Reps X.K H0 xs' ds' → Q .non (upd H l (.lst xs'))) → rAppend (.ref l) ys H Q := by
  intro ds as ds' q H0 H l xs ys Q sm hl hn r ry hq
  unfold appM at q
  split at q
  · rename_i d
    split at q
    · rename_i z
      cases q
      cases ry with
      | cons r1 rn =>
        cases rn
        exact ⟨l, xs, _, rfl, rfl, hl, Nat.lt_of_le_of_lt (by rw [r.length]; exact Nat.le_of_ble_eq_true z) (by rw [sizeLine_eq]; omega), hq _ (r.append (.cons r1 .nil))⟩
    · cases q
  · cases q
theorem imp_ext_m : ∀ ds as ds', extM ds as = some ds' → ∀ (H0 H : Hp) (l : Addr) (xs ys : List V) (Q : VK), Same H0 H → H l = some (.lst xs) → H0 l = none → Reps X.K H0 xs ds → Reps X.K H0 ys as → (∀ xs', Reps X.K H0 xs' ds' → Q .non (upd H l (.lst xs'))) → rExtend (.ref l) ys H Q := by
  intro ds as ds' q H0 H l xs ys Q sm hl hn r ry hq
  unfold extM at q
  split at q
  · rename_i es
    split at q
    · rename_i z
      cases q
      cases ry with
      | cons r1 rn =>
        cases rn
        cases r1 with
        | lst h1 r1 =>
          exact ⟨l, _, xs, _, rfl, rfl, hl, sm _ _ h1, by rw [r.length, r1.length]; exact ble100000 z, hq _ (r.append r1)⟩
    · cases q
  · cases q
theorem imp_ins_m : ∀ ds as ds', insM ds as = some ds' → ∀ (H0 H : Hp) (l : Addr) (xs ys : List V) (Q : VK), Same H0 H → H l = some (.lst xs) → H0 l = none → Reps X.K H0 xs ds → Reps X.K H0 ys as → (∀ xs', Reps X.K H0 xs' ds' → Q .non (upd H l (.lst xs'))) →
    ∃ (l' : Addr) (xs : List V) (i : Int) (y : V), V.ref l = .ref l' ∧ ys = [.int i, y] ∧ H l' = some (.lst xs) ∧ xs.length < sizeLine ∧ 0 ≤ i ∧ i < 2 ^ 63 ∧ Q .non (upd H l' (.lst (xs.take i.toNat ++ [y] ++ xs.drop i.toNat))) := by
  intro ds as ds' q H0 H l xs ys Q sm hl hn r ry hq
  unfold insM at q
  split at q
  · rename_i i d
    split at q
    · rename_i z
      cases q
      simp only [Bool.and_eq_true, decide_eq_true_eq] at z
      obtain ⟨⟨z1, z2⟩, z3⟩ := z
      cases ry with
      | cons r1 rn =>
        cases r1
        cases rn with
        | cons r2 rn =>
          cases rn
          exact ⟨l, xs, i, _, rfl, rfl, hl, Nat.lt_of_le_of_lt (by rw [r.length]; exact Nat.le_of_ble_eq_true z1) (by rw [sizeLine_eq]; omega), z2, by omega, hq _ (((r.take _).append (.cons r2 .nil)).append (r.drop _))⟩
    · cases q
  · cases q
/-- x.pop(k) -/
theorem ve_pop (i : Nat) (hN : X.N[i]? = some x := by rfl) (hv : Vis X.env.scope x := by first | exact Or.inl rfl | exact Or.inr (Or.inl rfl) | exact Or.inr (Or.inr rfl)) (ha : VE X W a fa)
    (hd : (x == ("__debug__" : Str)) = false := by decide) (hcd : (x == ("__classdict__" : Str)) = false := by decide)
    (hbase : attributeBase (.Name x p) "pop" X.env (eval (.Name x p) X.env) = eval (.Name x p) X.env := by rfl)
    (hfew : ((backTo cpos (starEach [a] X.env)).all (fun x => !x.1) && (backToKw cpos (keywordEach [] X.env)).all (fun x => x.1.isSome)
      && decide (([a] : List Expr).length + ([] : List Keyword).length + (if ([] : List Keyword).isEmpty then 0 else 1) < 30)) = true := by rfl)
    (hline : (apos.endLine == cpos.line) = true := by rfl) (hs : starEach [a] X.env = (false, eval a X.env) :: starEach [] X.env := by rfl) :
    VE X W (.Call (.Attribute (.Name x p) "pop" apos) [a] [] cpos) (dPop i fa) := by
  refine pe_imp (pe_bm PySem.F.plainAttrs_list PySem.F.slot_list_pop PySem.F.type_list_pop mt_popAt (pe_var hN hv hd hcd) (pa_cons ha pa_nil hs) hbase hfew hline hs rfl) fun σ H Q ⟨H0, e, w, h⟩ => ?_
  unfold dPop at h
  by_cases ho : owL e[i]? = true
  case neg => rw [if_neg ho] at h; exact h.elim
  rw [if_pos ho] at h
  obtain ⟨p, ds, q⟩ := owL_of ho
  obtain ⟨l, xs, h1, h2, _⟩ := w.getL q
  refine ⟨.ref l, h1, .inl ⟨rfl, xs, SqL.of h2⟩, ?_⟩
  refine tE_then w h fun t e1 v1 H01 H1 q1 w1 a1 r1 h3 => ?_
  unfold popF at h3
  cases q2 : look e1 t.fr with
  | none => simp only [q2] at h3; exact h3.elim
  | some d =>
    cases d with
    | int k =>
      simp only [q2] at h3
      cases q3 : e1[i]? with
      | none => simp only [q3] at h3; exact h3.elim
      | some s =>
        cases s with
        | ow p d =>
          cases d with
          | lst ds =>
            simp only [q3] at h3
            by_cases hz : Nat.ble ds.length 100000 = true
            case neg => rw [if_neg hz] at h3; exact h3.elim
            rw [if_pos hz] at h3
            have hz' := Nat.le_of_ble_eq_true hz
            cases q4 : ixN ds.length k with
            | none => simp only [q4] at h3; exact h3.elim
            | some j =>
              simp only [q4] at h3
              cases q5 : ds[j]? with
              | none => simp only [q5] at h3; exact h3.elim
              | some d =>
                simp only [q5] at h3
                obtain ⟨l', xs', g1, g2, g3, g4⟩ := w1.getL q3
                rw [h1] at g1; cases g1
                have hk := (look_ok w1 r1 q2).int
                subst hk
                obtain ⟨y, hy, ry⟩ := g4.get q5
                obtain ⟨s1, s2, s3, s4⟩ := ixN_seq q4
                have hl := g4.length
                obtain ⟨w2, a2⟩ := w1.putL q3 h1 g2 (g4.eraseIdx j)
                exact ⟨l, xs', k, j, y, rfl, rfl, g2, by omega, by omega, by rw [hl]; exact s1, hy, h3 H01 _ w2 a2 y ry⟩
          | _ => simp only [q3] at h3; exact h3.elim
        | _ => simp only [q3] at h3; exact h3.elim
    | _ => simp only [q2] at h3; exact h3.elim
end

/-! ### x[k] = v -/
def keyEq (d : D) (k : Key) : Bool := decide (toKey d = some k)
def dputD (ks : List (D × D)) (k : Key) (d : D) : List (D × D) :=
  if (ks.any fun kv => keyEq kv.1 k) = true then ks.map (fun kv => if keyEq kv.1 k = true then (kv.1, d) else kv) else ks ++ [(keyD k, d)]
def ownO : Option Sl → Bool
  | some (.ow _ (.lst _)) => true
  | some (.ow _ (.dct _)) => true
  | _ => false
def putIx (i : Nat) (d k : D) (e : En) : RS := match e[i]? with
  | some (.ow p (.lst ds)) => (match k with
    | .int j => (match ixN ds.length j with
      | some j => .nx (e.set i (.ow p (.lst (ds.set j d))))
      | none => .bad)
    | _ => .bad)
  | some (.ow p (.dct ks)) => if Nat.ble ks.length 1000 = true then (match toKey k with
    | some k => .nx (e.set i (.ow p (.dct (dputD ks k d))))
    | none => .bad) else .bad
  | _ => .bad
def sSetIx (i : Nat) (fk fv : Fe) : Fs := fun e => (fv e).to fun t e1 => (frzT t e1).to fun d e2 => if ownO e2[i]? = true then (fk e2).to fun tk e3 => match look e3 tk.fr with
  | some k => putIx i d k e3
  | none => .bad else .bad
section
variable {K : PySem.W.Frag} {H0 H H01 H1 H0' H' H0s Hs : Hp} {σ σ' σ1 σs : L2.St} {e e1 e' es : En} {W : WX} {v : V} {Ez : Ends}
theorem keyEq_key {k k' : Key} : keyEq (keyD k') k = decide (k' = k) := by
  unfold keyEq
  rw [keyD_inj]
  by_cases h : k' = k
  · subst h; simp
  · rw [decide_eq_false h]
    exact decide_eq_false fun z => h (Option.some.inj z)
theorem RepK.any : ∀ {kvs : List (Key × V)} {ks : List (D × D)} {k : Key}, RepK K H0 kvs ks → (kvs.any fun kv => decide (kv.1 = k)) = ks.any fun kv => keyEq kv.1 k
  | _, _, _, .nil => rfl
  | _, _, k, .cons r rs => by rw [List.any_cons, List.any_cons, RepK.any rs, keyEq_key]
theorem RepK.mapP {v : V} {d : D} (h : Rep K H0 v d) : ∀ {kvs : List (Key × V)} {ks : List (D × D)} {k : Key}, RepK K H0 kvs ks → RepK K H0 (kvs.map fun kv => if kv.1 = k then (kv.1, v) else kv) (ks.map fun kv => if keyEq kv.1 k = true then (kv.1, d) else kv)
  | _, _, _, .nil => .nil
  | _, _, k, .cons (k := k') r rs => by
    rw [List.map_cons, List.map_cons]
    by_cases z : k' = k
    · subst z
      rw [if_pos rfl, if_pos (by rw [keyEq_key]; exact decide_eq_true rfl)]
      exact .cons h (RepK.mapP h rs)
    · rw [if_neg z, if_neg (by rw [keyEq_key, decide_eq_false z]; exact Bool.false_ne_true)]
      exact .cons r (RepK.mapP h rs)
theorem RepK.append : ∀ {kvs kvs' : List (Key × V)} {ks ks' : List (D × D)}, RepK K H0 kvs ks → RepK K H0 kvs' ks' → RepK K H0 (kvs ++ kvs') (ks ++ ks')
  | _, _, _, _, .nil, s => s
  | _, _, _, _, .cons h r, s => .cons h (RepK.append r s)
theorem RepK.put {v : V} {d : D} (h : Rep K H0 v d) {kvs : List (Key × V)} {ks : List (D × D)} {k : Key} (r : RepK K H0 kvs ks) : RepK K H0 (putK kvs k v) (dputD ks k d) := by
  unfold putK dputD
  rw [r.any]
  split
  · exact r.mapP h
  · exact r.append (.cons h .nil)
theorem tE_frzS {f : Fe} {g : D → En → RS} {Z : VK} (w : Wd K H0 H σ e) (h : GyS K W σ H0 H e ((f e).to fun t1 e1 => (frzT t1 e1).to g) Ez)
    (hz : ∀ d e1 v H01 H1, Wd K H01 H1 σ e1 → After K H0 H σ e H01 H1 σ e1 → Rep K H01 v d → GyS K W σ H0 H e (g d e1) Ez → Z v H1) : tE K W f σ H Z := by
  refine ⟨H0, e, w, ?_⟩
  cases q : f e with
  | ok t e1 =>
    rw [q] at h
    intro H01 H1 w1 a1 v r1
    have h : GyS K W σ H0 H e ((frzT t e1).to g) Ez := h
    cases q2 : frzT t e1 with
    | bad => rw [q2] at h; exact h.elim
    | ex x e2 =>
      exfalso
      cases t with
      | fz d => cases q2
      | nw d => simp only [frzT] at q2; split at q2 <;> cases q2
      | sl i =>
        simp only [frzT] at q2
        split at q2
        · split at q2 <;> cases q2
        · cases q2
        · cases q2
    | ok d e2 =>
      rw [q2] at h
      have key : ∃ H02, Wd K H02 H1 σ e2 ∧ After K H0 H σ e H02 H1 σ e2 ∧ Rep K H02 v d := by
        cases t with
        | fz d' => cases q2; exact ⟨H01, w1, a1, r1⟩
        | nw d' =>
          by_cases hd : d'.frb = true
          · have q3 : (if d'.frb = true then Rz.ok d' e1 else .bad) = Rz.ok d e2 := q2
            rw [if_pos hd] at q3
            cases q3
            obtain ⟨H02, w2, a2, _, r2⟩ := RepT.fr w1 a1 r1
            have ef : (Tg.nw d).fr = .fz d := if_pos hd
            rw [ef] at r2
            exact ⟨H02, w2, a2, r2⟩
          · have q3 : (if d'.frb = true then Rz.ok d' e1 else .bad) = Rz.ok d e2 := q2
            rw [if_neg hd] at q3; cases q3
        | sl i =>
          have r' : σ[i]? = some (some v) := r1
          cases z : e1[i]? with
          | none => simp only [frzT, z] at q2; cases q2
          | some s =>
            cases s with
            | un => simp only [frzT, z] at q2; cases q2
            | bw d => simp only [frzT, z] at q2; cases q2
            | fz d =>
              simp only [frzT, z] at q2
              cases q2
              obtain ⟨v', h1, h2⟩ := w1.fz i d z
              rw [r'] at h1; cases h1
              exact ⟨H01, w1, a1, h2⟩
            | ow p d =>
              cases p with
              | true => simp only [frzT, z] at q2; cases q2
              | false =>
                by_cases hd : d.frb = true
                · simp only [frzT, z, if_pos hd] at q2
                  cases q2
                  obtain ⟨H02, v', h1, h2, w2, a2⟩ := w1.freeze z hd
                  rw [r'] at h1; cases h1
                  exact ⟨H02, w2, a1.trans a2, h2⟩
                · simp only [frzT, z, if_neg hd] at q2; cases q2
      obtain ⟨H02, w2, a2, r2⟩ := key
      exact hz d e2 v H02 H1 w2 a2 r2 h
  | ex x e1 => rw [q] at h; exact fun dx H01 H1 w1 a1 x1 => h dx σ H01 H1 w1 a1 x1
  | bad => rw [q] at h; exact h
end
theorem tE_sf {K : PySem.W.Frag} {H0 H : Hp} {σ : L2.St} {e : En} {W : WX} {Ez : Ends} {f : Fe} {g : Tg → En → RS} {Z : VK} (w : Wd K H0 H σ e) (h : GyS K W σ H0 H e ((f e).to g) Ez)
    (hz : ∀ t e1 v H01 H1, Wd K H01 H1 σ e1 → After K H0 H σ e H01 H1 σ e1 → RepO K H01 σ v t.fr → GyS K W σ H0 H e (g t e1) Ez → Z v H1) : tE K W f σ H Z :=
  tE_s w h fun t e1 v H01 H1 _ w1 a1 r1 h1 => by
    obtain ⟨H02, w2, a2, _, r2⟩ := RepT.fr w1 a1 r1
    exact hz t e1 v H02 H1 w2 a2 r2 h1
theorem PSet.or {X : Cx} {t t' : TSet} (h : PSet X t) (h' : PSet X t') : PSet X (fun o i v H Q => t o i v H Q ∨ t' o i v H Q) := by
  intro pins s σ H o i v ov iv u Q I ro ri rv q
  rcases q with q | q
  · exact h pins s σ H o i v ov iv u Q I ro ri rv q
  · exact h' pins s σ H o i v ov iv u Q I ro ri rv q
section
variable {X : Cx} {W : WX} {a b : Expr} {fa fb : Fe} {x : Str} {p p2 pos : Pos} {k : Nat}
theorem vs_setIx (hr : Room k X.A) (i : Nat) (hN : X.N[i]? = some x := by rfl) (hv : Vis X.env.scope x := by first | exact Or.inl rfl | exact Or.inr (Or.inl rfl) | exact Or.inr (Or.inr rfl)) (hi : VE X W a fa) (he : VE X W b fb)
    (hd : (x == ("__debug__" : Str)) = false := by decide) (hcd : (x == ("__classdict__" : Str)) = false := by decide)
    (has : ∀ v, assign (.Subscript (.Name x p) a p2) X.env v = (do
      let ov ← holding [v] (eval (.Name x p) X.env)
      let iv ← holding [v, ov] (eval a X.env)
      standAt p2
      holding [v, ov, iv] (setItem ov iv v)
      release [v, ov, iv] []) := by intro _; rfl)
    (hs : swapsWithSole [.Subscript (.Name x p) a p2] b pos.line X.env = pure false := by rfl) (hw : swappedStores [.Subscript (.Name x p) a p2] b X.env = pure none := by rfl)
    (h1 : (assignEach [.Subscript (.Name x p) a p2] X.env).map (·.2) = [assign (.Subscript (.Name x p) a p2) X.env] := by rfl) :
    VS X W (.Assign [.Subscript (.Name x p) a p2] b pos) (sSetIx i fa fb) := by
  have hu : X.A.units + 1 < cLine := by have := hr.un; omega
  refine ps_imp (ps_asg he (pg_sub (pe_var hN hv hd hcd) hi (PSet.or set_list (set_dict hu)) has) hs hw h1) fun D σ H ⟨H0, e, w, h⟩ => ?_
  refine tE_frzS w h fun d e1 v H01 H1 w1 a1 r1 h2 => ?_
  by_cases ho : ownO e1[i]? = true
  case neg => rw [if_neg ho] at h2; exact h2.elim
  rw [if_pos ho] at h2
  have hv' : ∃ l, σ[i]? = some (some (.ref l)) := by
    cases q : e1[i]? with
    | none => rw [q] at ho; cases ho
    | some s => cases s with
      | ow p d => obtain ⟨l, z, _⟩ := w1.ow i p d q; exact ⟨l, z⟩
      | _ => rw [q] at ho; cases ho
  obtain ⟨l, hl⟩ := hv'
  refine ⟨.ref l, hl, ?_⟩
  refine tE_sf w1 (GyS.mid a1 h2) fun t e2 y H02 H2 w2 a2 r2 h3 => ?_
  cases q : look e2 t.fr with
  | none => simp only [q] at h3; exact h3.elim
  | some kd =>
    simp only [q] at h3
    have ok := look_ok w2 r2 q
    unfold putIx at h3
    cases q1 : e2[i]? with
    | none => simp only [q1] at h3; exact h3.elim
    | some s =>
      cases s with
      | ow p d0 =>
        cases d0 with
        | lst ds =>
          simp only [q1] at h3
          cases kd with
          | int j =>
            simp only at h3
            cases q2 : ixN ds.length j with
            | none => simp only [q2] at h3; exact h3.elim
            | some j' =>
              simp only [q2] at h3
              obtain ⟨l', xs, g1, g2, g3, g4⟩ := w2.getL q1
              rw [hl] at g1; cases g1
              obtain ⟨w3, a3⟩ := w2.putL q1 hl g2 (Reps.set (r1.mono a2.s0) j' g4)
              exact .inl ⟨l, xs, j, j', rfl, ok.int, g2, by rw [g4.length]; exact q2, h3 σ _ _ w3 (a2.trans a3)⟩
          | _ => exact h3.elim
        | dct ks =>
          simp only [q1] at h3
          by_cases hz : Nat.ble ks.length 1000 = true
          case neg => rw [if_neg hz] at h3; exact h3.elim
          rw [if_pos hz] at h3
          cases q2 : toKey kd with
          | none => simp only [q2] at h3; exact h3.elim
          | some kk =>
            simp only [q2] at h3
            obtain ⟨l', xs, g1, g2, g3, g4⟩ := w2.getD q1
            rw [hl] at g1; cases g1
            obtain ⟨w3, a3⟩ := w2.putD q1 hl g2 (RepK.put (r1.mono a2.s0) (k := kk) g4)
            have ey := ok.key q2
            subst ey
            exact .inr ⟨l, _, rfl, DPut.k g2 (Nat.lt_of_le_of_lt (by rw [g4.length]; exact Nat.le_of_ble_eq_true hz) (by rw [sizeLine_eq]; omega)), h3 σ _ _ w3 (a2.trans a3)⟩
        | _ => simp only [q1] at h3; exact h3.elim
      | _ => simp only [q1] at h3; exact h3.elim
end
end VL

/-! VLp: own errors by value: raise, try. -/
namespace VL
open PySem PySem.Spec L2

/-! ### __init__ of an own error: its fields from its parameters -/
def exS1 (n1 : Str) (K : PySem.W.Frag) : Sp := fun vs H Q E => ∃ (a C : Addr) (y : V), vs = [.ref a, y] ∧ OexC K C ∧ PySem.W.findIn K (.ref C) n1 = some none ∧ H a = some (exo a C none) ∧
  ∀ dx, H dx = none → dx ≠ a → Q .non (upd (upd H dx (exd dx [(n1, y)])) a (exo a C (some dx)))
def exS2 (n1 n2 : Str) (K : PySem.W.Frag) : Sp := fun vs H Q E => ∃ (a C : Addr) (y z : V), vs = [.ref a, y, z] ∧ OexC K C ∧ PySem.W.findIn K (.ref C) n1 = some none ∧ PySem.W.findIn K (.ref C) n2 = some none ∧ H a = some (exo a C none) ∧
  ∀ dx, H dx = none → dx ≠ a → Q .non (upd (upd (upd H dx (exd dx [(n1, y)])) a (exo a C (some dx))) dx (exd dx [(n2, z), (n1, y)]))
section
variable {X : Cx} {n1 n2 x0 x1 x2 : Str} {p0 p1 p2 p3 p4 p5 q0 q1 q2 : Pos} {D : Ends} {H : Hp}
theorem ex_body1 {Q : VK} {E : XK} {vs : List V} {N : List Str} (h0 : X.N[0]? = some x0 := by rfl) (h1 : X.N[1]? = some x1 := by rfl)
    (hv0 : Vis X.env.scope x0 := by first | exact Or.inl rfl | exact Or.inr (Or.inl rfl) | exact Or.inr (Or.inr rfl)) (hv1 : Vis X.env.scope x1 := by first | exact Or.inl rfl | exact Or.inr (Or.inl rfl) | exact Or.inr (Or.inr rfl))
    (d0 : (x0 == ("__debug__" : Str)) = false := by decide) (c0 : (x0 == ("__classdict__" : Str)) = false := by decide) (d1 : (x1 == ("__debug__" : Str)) = false := by decide) (c1 : (x1 == ("__classdict__" : Str)) = false := by decide)
    (hs : swapsWith (.Name x1 p1) (some (.Attribute (.Name x0 p0) n1 p2)) p3.line X.env = pure false := by rfl) (hsp : exS1 n1 X.K vs H Q E) :
    ∃ t, PSs X [.Assign [.Attribute (.Name x0 p0) n1 p2] (.Name x1 p1) p3] t ∧ t { nx := fun _ H' => Q .non H', rt := Q } (L2.start N vs) H := by
  obtain ⟨a, C, y, rfl, T, hno, ea, q⟩ := hsp
  refine ⟨_, pss_one (ps_ost (pe_var (i := 0) h0 hv0 d0 c0) (pe_var (i := 1) h1 hv1 d1 c1) hs), ?_⟩
  refine ⟨y, rfl, .ref a, rfl, a, C, rfl, T, hno, .inl ⟨ea, fun dx n ne => ?_⟩⟩
  exact q dx n ne
theorem ex_body2 {Q : VK} {E : XK} {vs : List V} {N : List Str} (h0 : X.N[0]? = some x0 := by rfl) (h1 : X.N[1]? = some x1 := by rfl) (h2 : X.N[2]? = some x2 := by rfl)
    (hv0 : Vis X.env.scope x0 := by first | exact Or.inl rfl | exact Or.inr (Or.inl rfl) | exact Or.inr (Or.inr rfl)) (hv1 : Vis X.env.scope x1 := by first | exact Or.inl rfl | exact Or.inr (Or.inl rfl) | exact Or.inr (Or.inr rfl)) (hv2 : Vis X.env.scope x2 := by first | exact Or.inl rfl | exact Or.inr (Or.inl rfl) | exact Or.inr (Or.inr rfl))
    (d0 : (x0 == ("__debug__" : Str)) = false := by decide) (c0 : (x0 == ("__classdict__" : Str)) = false := by decide) (d1 : (x1 == ("__debug__" : Str)) = false := by decide) (c1 : (x1 == ("__classdict__" : Str)) = false := by decide) (d2 : (x2 == ("__debug__" : Str)) = false := by decide) (c2 : (x2 == ("__classdict__" : Str)) = false := by decide)
    (hs : swapsWith (.Name x1 p1) (some (.Attribute (.Name x0 p0) n1 p2)) p3.line X.env = pure false := by rfl) (hs2 : swapsWith (.Name x2 q1) (some (.Attribute (.Name x0 q0) n2 q2)) p4.line X.env = pure false := by rfl) (hsp : exS2 n1 n2 X.K vs H Q E) :
    ∃ t, PSs X [.Assign [.Attribute (.Name x0 p0) n1 p2] (.Name x1 p1) p3, .Assign [.Attribute (.Name x0 q0) n2 q2] (.Name x2 q1) p4] t ∧ t { nx := fun _ H' => Q .non H', rt := Q } (L2.start N vs) H := by
  obtain ⟨a, C, y, z, rfl, T, hno, hno2, ea, q⟩ := hsp
  refine ⟨_, pss_cons (ps_ost (pe_var (i := 0) h0 hv0 d0 c0) (pe_var (i := 1) h1 hv1 d1 c1) hs) (pss_one (ps_ost (pe_var (i := 0) h0 hv0 d0 c0) (pe_var (i := 2) h2 hv2 d2 c2) hs2)), ?_⟩
  refine ⟨y, rfl, .ref a, rfl, a, C, rfl, T, hno, .inl ⟨ea, fun dx n ne => ?_⟩⟩
  refine ⟨z, rfl, .ref a, rfl, a, C, rfl, T, hno2, .inr ⟨dx, _, upd_same, by rw [upd_ne ne, upd_same], by show 1 ≤ 900; decide, ?_⟩⟩
  exact q dx n ne
end

/-! ### raise -/
def raiseF (c : Str) (fs : List Str) (ds : List D) (e : En) : RS := if ds.length = fs.length then .ex ⟨c, (fs.zip ds).reverse⟩ e else .bad
def sRaise (c : Str) (fs : List Str) (fv : Fv) : Fs := fun e => (fv e).to fun ds e1 => raiseF c fs ds e1
section
variable {K : PySem.W.Frag} {H0 H : Hp} {σ : L2.St} {e : En}
theorem ex_heap {H : Hp} {a d : Addr} {o o' o'' o3 : HO} (ha : H a = none) (hd : H d = none) (ne : d ≠ a) : upd (del (upd (upd (upd H a o) d o') a o'') a) d o3 = upd H d o3 := by
  funext b
  by_cases h : b = d
  · subst h; rw [upd_same, upd_same]
  · rw [upd_ne h, upd_ne h]
    by_cases h2 : b = a
    · subst h2; rw [del_same, ha]
    · rw [del_ne h2, upd_ne h2, upd_ne h, upd_ne h2]
end
section
variable {X : Cx} {W : WX} {x : Str} {a b : Expr} {es : List Expr} {fv : Fv} {p p2 pos : Pos} {k : Nat} {fI : Addr} {fd : FuncData} {ps : List Str} {n1 n2 : Str}
theorem vs_raise1 (hc : X.calm = true) (tk : Takes X W) (T : OexC X.K (He.ga X.K x)) (iC : PySem.W.findIn X.K (.ref (He.ga X.K x)) "__init__" = some (some (.ref fI))) (tI : PySem.W.typeIn X.K (.ref fI) = some (.type "function"))
    (hno : PySem.W.findIn X.K (.ref (He.ga X.K x)) n1 = some none)
    (F1 : FnOk X.prog X.w X.K X.mg X.base (L2.CX X.prog X.w) k fI fd ps (exS1 n1 X.K)) (hr : Room (k + 1) X.A) (hb : Binds X.K fd ps []) (hx : Passes (L2.CX X.prog X.w) X (fun _ _ _ => False)) (hg : Gl X x) (hm : X.mg x = some (.ref (He.ga X.K x))) (ha : VV X W [a] fv)
    (hdb : (x == ("__debug__" : Str)) = false := by decide) (he : starEach [a] X.env = (false, eval a X.env) :: starEach [] X.env := by rfl) :
    VS X W (.Raise (some (.Call (.Name x p) [a] [] pos)) none p2) (sRaise x [n1] fv) := by
  refine ps_imp (ps_raise hc tk (pmk_oex T iC tI F1 hr hb .nil hx hg hm ha hdb he rfl)) fun D σ H ⟨H0, e, w, h⟩ => ?_
  refine tV_s w h fun ds e1 vs H01 H1 w1 a1 r1 h1 => ?_
  unfold raiseF at h1
  by_cases hl : ds.length = [n1].length
  case neg => rw [if_neg hl] at h1; exact h1.elim
  rw [if_pos hl] at h1
  match ds, vs, r1, hl with
  | [d1], [y], .cons r1 .nil, _ =>
    refine ⟨by show 1 ≤ 1000; decide, fun ae ha => ?_⟩
    refine ⟨ae, _, y, rfl, T, hno, upd_same, fun dx hd ne => ?_⟩
    have hd1 : H1 dx = none := by rw [upd_ne ne] at hd; exact hd
    refine ⟨rfl, dx, [(n1, y)], upd_same, by rw [upd_ne ne, upd_same], hd1, ?_⟩
    rw [ex_heap ha hd1 ne]
    have st : Step H01 H1 H01 (upd H1 dx (.xd [(n1, y)])) := .new w1.sub hd1
    exact h1 dx σ H01 _ (w1.step st) (a1.trans (.of_step st)) ⟨_, upd_same, w1.sub.free hd1, .cons r1 .nil⟩
theorem vs_raise2 (hc : X.calm = true) (tk : Takes X W) (T : OexC X.K (He.ga X.K x)) (iC : PySem.W.findIn X.K (.ref (He.ga X.K x)) "__init__" = some (some (.ref fI))) (tI : PySem.W.typeIn X.K (.ref fI) = some (.type "function"))
    (hno : PySem.W.findIn X.K (.ref (He.ga X.K x)) n1 = some none) (hno2 : PySem.W.findIn X.K (.ref (He.ga X.K x)) n2 = some none)
    (F1 : FnOk X.prog X.w X.K X.mg X.base (L2.CX X.prog X.w) k fI fd ps (exS2 n1 n2 X.K)) (hr : Room (k + 1) X.A) (hb : Binds X.K fd ps []) (hx : Passes (L2.CX X.prog X.w) X (fun _ _ _ => False)) (hg : Gl X x) (hm : X.mg x = some (.ref (He.ga X.K x))) (ha : VV X W [a, b] fv)
    (hdb : (x == ("__debug__" : Str)) = false := by decide) (he : starEach [a, b] X.env = (false, eval a X.env) :: starEach [b] X.env := by rfl) (hpl : (backTo pos (starEach [b] X.env)).any (·.1) = false := by rfl) :
    VS X W (.Raise (some (.Call (.Name x p) [a, b] [] pos)) none p2) (sRaise x [n1, n2] fv) := by
  refine ps_imp (ps_raise hc tk (pmk_oex T iC tI F1 hr hb .nil hx hg hm ha hdb he hpl)) fun D σ H ⟨H0, e, w, h⟩ => ?_
  refine tV_s w h fun ds e1 vs H01 H1 w1 a1 r1 h1 => ?_
  unfold raiseF at h1
  by_cases hl : ds.length = [n1, n2].length
  case neg => rw [if_neg hl] at h1; exact h1.elim
  rw [if_pos hl] at h1
  match ds, vs, r1, hl with
  | [d1, d2], [y, z], .cons r1 (.cons r2 .nil), _ =>
    refine ⟨by show 2 ≤ 1000; decide, fun ae ha => ?_⟩
    refine ⟨ae, _, y, z, rfl, T, hno, hno2, upd_same, fun dx hd ne => ?_⟩
    have hd1 : H1 dx = none := by rw [upd_ne ne] at hd; exact hd
    refine ⟨rfl, dx, [(n2, z), (n1, y)], by rw [upd_ne (Ne.symm ne), upd_same], upd_same, hd1, ?_⟩
    have eh : upd (del (upd (upd (upd (upd H1 ae (exo ae (He.ga X.K x) none)) dx (exd dx [(n1, y)])) ae (exo ae (He.ga X.K x) (some dx))) dx (exd dx [(n2, z), (n1, y)])) ae) dx (.xd [(n2, z), (n1, y)]) = upd H1 dx (.xd [(n2, z), (n1, y)]) := by
      funext c
      by_cases h : c = dx
      · subst h; rw [upd_same, upd_same]
      · rw [upd_ne h, upd_ne h]
        by_cases h2 : c = ae
        · subst h2; rw [del_same, ha]
        · rw [del_ne h2, upd_ne h, upd_ne h2, upd_ne h, upd_ne h2]
    rw [eh]
    have st : Step H01 H1 H01 (upd H1 dx (.xd [(n2, z), (n1, y)])) := .new w1.sub hd1
    exact h1 dx σ H01 _ (w1.step st) (a1.trans (.of_step st)) ⟨_, upd_same, w1.sub.free hd1, .cons r2 (.cons r1 .nil)⟩
end

/-! ### try -/
/-- what the suite of an except clause does: it returns, it goes on -/
inductive SuR where
  | ret (t : Tg) | go | bad
/-- i: the slot of the error's name; cs: is an error of that class caught; g: the suite -/
def sTry (i : Nat) (cs : Str → Option Bool) (b : Fs) (g : Er → SuR) : Fs := fun e => match b e with
  | .ex x e1 => (match cs x.c with
    | some true => if pinned e1[i]? = true then .bad else (match g x with
      | .ret t => .rt t (e1.set i .un)
      | .go => .nx (e1.set i .un)
      | .bad => .bad)
    | some false => .ex x e1
    | none => .bad)
  | r => r
/-- the reading of a suite -/
def tSu (K : PySem.W.Frag) (i : Nat) (g : Er → SuR) (a : Addr) (cls : Value) (d : Option Addr) : TS := fun D σ H => ∃ H0 en x dd, Wd K H0 H σ en ∧ en[i]? = some .un ∧ σ[i]? = some (some (.ref a)) ∧ cls = .ref (He.ga K x.c) ∧ d = some dd ∧ ErrAt K H0 H dd x ∧
  match g x with
  | .ret t => ∀ v H0' H', Step H0 H H0' H' → RepN K H0' H' H v t → D.rt v H'
  | .go => D.nx σ H
  | .bad => False
theorem Wd.unAt {K : PySem.W.Frag} {H0 H : Hp} {σ : L2.St} {e : En} {i : Nat} {v : Option V} (w : Wd K H0 H σ e) : Wd K H0 H (σ.set i v) (e.set i .un) := by
  refine ⟨w.sub, by rw [List.length_set, List.length_set]; exact w.len, fun j d h => ?_, fun j p d h => ?_, fun j d h => ?_, fun j k p p' d d' a h1 h2 h3 h4 => ?_⟩
  · rcases get_set h with ⟨_, z, _⟩ | ⟨ne, z⟩
    · cases z
    · rw [List.getElem?_set_ne ne]; exact w.fz j d z
  · rcases get_set h with ⟨_, z, _⟩ | ⟨ne, z⟩
    · cases z
    · rw [List.getElem?_set_ne ne]; exact w.ow j p d z
  · rcases get_set h with ⟨_, z, _⟩ | ⟨ne, z⟩
    · cases z
    · rw [List.getElem?_set_ne ne]
      obtain ⟨u, q1, q2⟩ := w.bw j d z
      refine ⟨u, q1, q2.imp id fun ⟨a, y1, y2, y3⟩ => ⟨a, y1, y2, fun ⟨k, p, d', o1, o2⟩ => ?_⟩⟩
      rcases get_set o1 with ⟨_, z, _⟩ | ⟨ne2, z⟩
      · cases z
      · rw [List.getElem?_set_ne ne2] at o2; exact y3 ⟨k, p, d', z, o2⟩
  · rcases get_set h1 with ⟨_, z, _⟩ | ⟨ne, z⟩
    · cases z
    · rcases get_set h2 with ⟨_, z2, _⟩ | ⟨ne2, z2⟩
      · cases z2
      · rw [List.getElem?_set_ne ne] at h3
        rw [List.getElem?_set_ne ne2] at h4
        exact w.inj j k _ _ _ _ a z z2 h3 h4
theorem After.unAt {K : PySem.W.Frag} {H0s Hs H0 H : Hp} {σs σ : L2.St} {es e : En} {i : Nat} {v : Option V} (a : After K H0s Hs σs es H0 H σ e) : After K H0s Hs σs es H0 H (σ.set i v) (e.set i .un) := by
  refine ⟨a.s0, a.keep, a.off, a.thr, fun b ⟨k, p, d', o1, o2⟩ => ?_, fun j d h => ?_, fun j d h => ?_⟩
  · rcases get_set o1 with ⟨_, z, _⟩ | ⟨ne2, z⟩
    · cases z
    · rw [List.getElem?_set_ne ne2] at o2; exact a.own b ⟨k, p, d', z, o2⟩
  · rcases get_set h with ⟨_, z, _⟩ | ⟨ne, z⟩
    · cases z
    · rw [List.getElem?_set_ne ne]; exact a.pin j d z
  · rcases get_set h with ⟨_, z, _⟩ | ⟨ne, z⟩
    · cases z
    · rw [List.getElem?_set_ne ne]; exact a.pinb j d z
section
variable {X : Cx} {W : WX} {x n : Str} {c : Value} {body suite : List Stmt} {b₀ : Stmt} {np pos pos' : Pos} {f : Fs} {g : Er → SuR}
theorem vs_try {i : Nat} {cs : Str → Option Bool} (hs : X.stack = X.env :: X.outer) (hf : X.env.frame = some X.env.locals) (hN : X.N.Nodup) (hi : X.N[i]? = some n) (hln : X.env.kindOf n = some .local) (hc : Names X x c) (tk : Takes X W)
    (hcs : ∀ s b, cs s = some b → PySem.W.exmOne X.K (.ref (He.ga X.K s)) c = some b)
    (hb : ∀ (W' : WX) (pn : List (Addr × Obj)) (xe : Value → Shared → Prop), Takes (X.tr pn xe) W' → PassesOwn (model X.prog X.w) X.A X.env xe → VSs (X.tr pn xe) W' body f)
    (hsu : ∀ (a : Addr) (oe : Obj) (cls : Value) (d : Option Addr) (pn : List (Addr × Obj)), Zc cls d oe → (∃ vs, oe.data = .fields vs) → PSs (X.suite a ((a, oe) :: pn)) (b₀ :: suite) (tSu X.K i g a cls d)) :
    VS X W (.Try body [.ExceptHandler (some (.Name x np)) (some n) (b₀ :: suite) pos'] [] [] pos) (sTry i cs f g) := by
  refine ps_imp (ps_try_as (tb := fun W' => tS X.K W' f) hs hf hN hi hln hc tk hb hsu) fun D σ H ⟨H0, e, w, h⟩ => ?_
  refine ⟨H0, e, w, ?_⟩
  unfold sTry at h
  cases q : f e with
  | nx e1 => rw [q] at h; exact h
  | rt t e1 => rw [q] at h; exact h
  | bk e1 => rw [q] at h; exact h
  | ct e1 => rw [q] at h; exact h
  | bad => rw [q] at h; exact h
  | ex x e1 =>
    rw [q] at h
    intro dx σ' H0' H' w' a' x'
    cases q2 : cs x.c with
    | none => simp only [q2] at h; exact h.elim
    | some b =>
      refine ⟨b, hcs _ _ q2, fun hb a na => ?_, fun hb => ?_⟩
      · subst hb
        simp only [q2] at h
        by_cases hp : pinned e1[i]? = true
        case neg =>
          rw [if_neg hp] at h
          have hlt : i < e1.length := by
            rcases Nat.lt_or_ge i e1.length with z | z
            · exact z
            · exfalso; rw [List.getElem?_eq_none z] at hp; exact hp rfl
          have w2 : Wd X.K H0' H' (σ'.set i (some (.ref a))) (e1.set i .un) := w'.unAt
          refine ⟨H0', e1.set i .un, x, dx, w2, by rw [List.getElem?_set_self hlt], by rw [List.getElem?_set_self (by rw [w'.len]; exact hlt)], rfl, rfl, x', ?_⟩
          cases q3 : g x with
          | bad => simp only [q3] at h; exact h.elim
          | go =>
            simp only [q3] at h
            have h : GyS X.K W σ H0 H e (.nx (e1.set i .un)) D := h
            show D.nx ((σ'.set i (some (.ref a))).set i none) H'
            rw [List.set_set]
            exact h _ H0' H' w'.unAt a'.unAt
          | ret t =>
            simp only [q3] at h
            have h : GyS X.K W σ H0 H e (.rt t (e1.set i .un)) D := h
            intro v H0'' H'' st r
            have w3 : Wd X.K H0' H' (σ'.set i none) (e1.set i .un) := w'.unAt
            have a3 : After X.K H0 H σ e H0' H' (σ'.set i none) (e1.set i .un) := a'.unAt
            exact h v (σ'.set i none) H0'' H'' (w3.step st) (a3.trans (.of_step st)) ((RepN.to w3 st.s0 r).back a3.thr)
        case pos => rw [if_pos hp] at h; exact h.elim
      · subst hb
        simp only [q2] at h
        exact h dx σ' H0' H' w' a' x'
/-- return e.f -/
def gFld (f : Str) : Er → SuR := fun x => match x.fs.lookup f with
  | some d => .ret (.fz d)
  | none => .bad
theorem su_ret {i : Nat} {a : Addr} {oe : Obj} {cls : Value} {d : Option Addr} {pn : List (Addr × Obj)} {fld : Str} {cn : Str} {p1 p2 p3 : Pos} (hz : Zc cls d oe) (hf : ∃ vs, oe.data = .fields vs)
    (T : ∀ c, (∃ v, (c, v) ∈ [(cn, fld)]) → XfC X.K (He.ga X.K c)) (hno : PySem.W.findIn X.K (.ref (He.ga X.K cn)) fld = some none) (hi : X.N[i]? = some n) (hv : Vis X.env.scope n) (hg : ∀ x, x.c ≠ cn → g x = .bad) (hgf : ∀ x, x.c = cn → g x = gFld fld x)
    (hd : (n == ("__debug__" : Str)) = false := by decide) (hcd : (n == ("__classdict__" : Str)) = false := by decide)
    (hb : attributeBase (.Name n p1) fld X.env (eval (.Name n p1) X.env) = eval (.Name n p1) X.env := by rfl) :
    PSs (X.suite a ((a, oe) :: pn)) [.Return (some (.Attribute (.Name n p1) fld p2)) p3] (tSu X.K i g a cls d) := by
  have T' := T cn ⟨fld, List.mem_singleton.mpr rfl⟩
  refine pss_imp (pss_one (ps_ret (pe_xf T' hno hz hf (pe_var (X := X.suite a ((a, oe) :: pn)) hi hv hd hcd) hb))) fun D σ H ⟨H0, en, x, dd, w, hu, hs, hc, hd, xa, h⟩ => ?_
  by_cases hx : x.c = cn
  case neg => rw [hg x hx] at h; exact h.elim
  rw [hgf x hx] at h
  obtain ⟨fvs, h1, h2, h3⟩ := xa
  refine ⟨.ref a, hs, rfl, by rw [hc, hx], dd, fvs, ?_⟩
  unfold gFld at h
  cases q : x.fs.lookup fld with
  | none => simp only [q] at h
  | some y =>
    simp only [q] at h
    obtain ⟨v, q1, q2⟩ := (RepF.lookup (f := fld) h3).1 y q
    exact ⟨v, hd, h1, q1, h v H0 H (.refl w.sub) q2⟩
end
end VL

/-! VLq: how a law's text is walked: constants, defs. -/
namespace VL
open PySem PySem.Spec L2

def GC (mg : Str → Option Value) (x : Str) (v : V) (d : D) : Prop := ∃ u, mg x = some u ∧ RelV v u ∧ ∀ (K : PySem.W.Frag) (H : Hp), Rep K H v d
theorem GC.int {mg : Str → Option Value} {x : Str} {i : Int} (h : ∃ t, mg x = some (.int i t)) : GC mg x (.int i) (.int i) := let ⟨t, h⟩ := h; ⟨_, h, ⟨t, rfl⟩, fun _ _ => .int i⟩
theorem GC.str {mg : Str → Option Value} {x i : Str} (h : ∃ t, mg x = some (.str i t)) : GC mg x (.str i) (.str i) := let ⟨t, h⟩ := h; ⟨_, h, ⟨t, rfl⟩, fun _ _ => .str i⟩
theorem GC.ve {X : Cx} {W : WX} {x : Str} {v : V} {d : D} {pos : Pos} (c : GC X.mg x v d) (hg : Gl X x := by rfl) (hd : (x == ("__debug__" : Str)) = false := by decide) : VE X W (.Name x pos) (dC d) :=
  let ⟨_, h1, h2, h3⟩ := c
  ve_glob h1 h2 (h3 _) hg hd
/-- a def of the text, as the head tells it -/
def DF (K : PySem.W.Frag) (mg : Str → Option Value) (x : Str) (st : Stmt) : Prop := ∃ f fd, FunD K x x (defArgs st) (defBody st) (defScope st) [] [] f fd ∧ mg x = some (.ref f)
/-- .. that keeps its contract -/
def CE (P : Program) (w : World) (K : PySem.W.Frag) (mg : Str → Option Value) (base : Heap) (k : Nat) (x : Str) (ps : List Str) (F : Fe) : Prop :=
  ∃ f fd, FnOk P w K mg base (L2.CX P w) k f fd ps (spV K ps.length F) ∧ mg x = some (.ref f) ∧ PySem.W.keepIn K (.ref f) = true ∧ Binds K fd ps []
theorem CE.of {P : Program} {w : World} {K : PySem.W.Frag} {mg : Str → Option Value} {base : Heap} {k : Nat} {x : Str} {st : Stmt} {N ps : List Str} {fs : Fs} (D : DF K mg x st) (S : FnScope N ps (defScope st))
    (hbi : ∀ (kV doc pm : Value) (an : Option Addr) (cdv ct : Value) (us : List Value), us.length = ps.length → bindArgs (PySem.W.fnOf x x (defArgs st) (defBody st) (defScope st) .none kV doc pm an cdv ct) ⟨us, []⟩ = pure (ps.zip us))
    (hb : ∀ (X : Cx) (W : WX) (cdv : Value) (A : Around) (outer : List Env) (s : Shared) (H : Hp) (E : XK) {f : Addr}, X = cxOf (L2.CX P w) P w K mg base N x (defScope st) f cdv A outer s H E → Room k X.A → W = (fun c d _ H => E c d H) → Takes X W → PassesOwn (model X.prog X.w) X.A X.env X.xe → VSs X W (defBody st) fs) :
    CE P w K mg base (k + 1) x ps (fnD N.length fs) := by
  obtain ⟨f, fd, F, hm⟩ := D
  refine ⟨f, fd, fn_ok F S fun X W cdv A outer s H E hX hr hW tk => ?_, hm, F.kp, FunD.bindsN F hbi⟩
  subst hX
  exact hb _ W cdv A outer s H E rfl hr hW tk (passes_of rfl)
theorem CE.ve {X : Cx} {W : WX} {j k : Nat} {x : Str} {ps : List Str} {F : Fe} {a : Expr} {es : List Expr} {fs : Fa} {p pos : Pos} (c : CE X.prog X.w X.K X.mg X.base k x ps F) (ms : List Md) (hr : Room j X.A) (tk : Takes X W) (ha : VA X W (a :: es) fs) (hj : k ≤ j := by decide) (hg : Gl X x := by rfl)
    (hl : ms.length = ps.length := by rfl) (hdb : (x == ("__debug__" : Str)) = false := by decide) (he : starEach (a :: es) X.env = (false, eval a X.env) :: starEach es X.env := by rfl) (hpl : (backTo pos (starEach es X.env)).any (·.1) = false := by rfl) :
    VE X W (.Call (.Name x p) (a :: es) [] pos) (dCall F ms fs) :=
  let ⟨_, _, h1, h2, h3, h4⟩ := c
  ve_call ms h1 (hr.mono hj) hg h2 h3 h4 tk ha hl hdb he hpl
end VL

/-! VLr: classes by value: fields, methods, making. -/
namespace VL
open PySem PySem.Spec L2

section
variable {K : PySem.W.Frag} {H0 H H01 H1 H0' H' H0s Hs : Hp} {σ σ' σ1 σs : L2.St} {e e1 e' es : En} {W : WX} {v : V}
/-! ### a further slot for a new thing -/
theorem app_one {α : Type} {xs : List α} {x y : α} {i : Nat} (h : (xs ++ [x])[i]? = some y) : xs[i]? = some y ∨ (i = xs.length ∧ y = x) := by
  by_cases l : i < xs.length
  · rw [List.getElem?_append_left l] at h; exact .inl h
  · rw [List.getElem?_append_right (by omega)] at h
    have : i - xs.length = 0 := by
      rcases Nat.eq_zero_or_pos (i - xs.length) with z | z
      · exact z
      · rw [List.getElem?_eq_none (by simp; omega)] at h; cases h
    rw [this] at h
    exact .inr ⟨by omega, by simpa using h.symm⟩
theorem Own.app {x : Addr} {d : D} {b : Addr} (w : Wd K H0 H σ e) (o : Own (σ ++ [some (.ref x)]) (e ++ [.ow false d]) b) : Own σ e b ∨ b = x := by
  obtain ⟨i, p, d', h1, h2⟩ := o
  rcases app_one h1 with h1 | ⟨hi, h1⟩
  · have hl : i < e.length := (List.getElem?_eq_some_iff.mp h1).1
    rw [List.getElem?_append_left (by rw [w.len]; exact hl)] at h2
    exact .inl ⟨i, p, d', h1, h2⟩
  · rcases app_one h2 with h2 | ⟨_, h2⟩
    · have := (List.getElem?_eq_some_iff.mp h2).1
      rw [w.len] at this; omega
    · cases h2; exact .inr rfl
theorem Own.app_of {x : Addr} {d : D} {b : Addr} (o : Own σ e b) : Own (σ ++ [some (.ref x)]) (e ++ [.ow false d]) b := by
  obtain ⟨i, p, d', h1, h2⟩ := o
  exact ⟨i, p, d', by rw [List.getElem?_append_left (List.getElem?_eq_some_iff.mp h1).1]; exact h1, by rw [List.getElem?_append_left (List.getElem?_eq_some_iff.mp h2).1]; exact h2⟩
theorem Wd.app {x : Addr} {d : D} (w : Wd K H0 H σ e) (o : OwnAt K H0 H x d) (no : ¬ Own σ e x) (nb : ∀ (j : Nat) (b : D), e[j]? = some (Sl.bw b) → σ[j]? = some (some (V.ref x)) → Rep K H0 (.ref x) b) :
    Wd K H0 H (σ ++ [some (.ref x)]) (e ++ [.ow false d]) := by
  have at' : ∀ {i : Nat} {s : Sl}, e[i]? = some s → (σ ++ [some (V.ref x)])[i]? = σ[i]? := fun {i s} h => by rw [List.getElem?_append_left (by rw [w.len]; exact (List.getElem?_eq_some_iff.mp h).1)]
  have last : (σ ++ [some (V.ref x)])[e.length]? = some (some (.ref x)) := by rw [← w.len, List.getElem?_append_right (Nat.le_refl _)]; simp
  refine ⟨w.sub, by simp [w.len], fun i d' h => ?_, fun i p d' h => ?_, fun i d' h => ?_, fun i j p p' d1 d2 a h1 h2 h3 h4 => ?_⟩
  · rcases app_one h with h | ⟨_, z⟩
    · rw [at' h]; exact w.fz i d' h
    · cases z
  · rcases app_one h with h | ⟨hi, z⟩
    · rw [at' h]; exact w.ow i p d' h
    · cases z; rw [hi]; exact ⟨x, last, o⟩
  · rcases app_one h with h | ⟨_, z⟩
    · rw [at' h]
      obtain ⟨u, q1, q2⟩ := w.bw i d' h
      refine ⟨u, q1, ?_⟩
      rcases q2 with q2 | ⟨a, y1, y2, y3⟩
      · exact .inl q2
      · by_cases z : a = x
        · subst z; subst y1; exact .inl (nb i d' h q1)
        · exact .inr ⟨a, y1, y2, fun o' => by
            rcases Own.app w o' with o' | o'
            · exact y3 o'
            · exact z o'⟩
    · cases z
  · rcases app_one h1 with h1 | ⟨hi, z1⟩
    · rw [at' h1] at h3
      rcases app_one h2 with h2 | ⟨hj, z2⟩
      · rw [at' h2] at h4
        exact w.inj i j _ _ _ _ a h1 h2 h3 h4
      · rw [hj, last] at h4; cases h4
        exact (no ⟨i, p, d1, h1, h3⟩).elim
    · rcases app_one h2 with h2 | ⟨hj, z2⟩
      · rw [at' h2] at h4
        rw [hi, last] at h3; cases h3
        exact (no ⟨j, p', d2, h2, h4⟩).elim
      · rw [hi, hj]
theorem take_get {α : Type} {xs : List α} {n i : Nat} {x : α} (h : (xs.take n)[i]? = some x) : xs[i]? = some x ∧ i < n := by
  rw [List.getElem?_take] at h
  split at h
  · rename_i l; exact ⟨h, l⟩
  · cases h
theorem own_take {w0 : Option V} {b : Addr} (o : Own σ (e.take σ.length) b) : Own (σ ++ [w0]) e b := by
  obtain ⟨i, p, d, h1, h2⟩ := o
  obtain ⟨h1, hl⟩ := take_get h1
  exact ⟨i, p, d, h1, by rw [List.getElem?_append_left hl]; exact h2⟩
theorem Wd.drop {w0 : Option V} (w : Wd K H0 H (σ ++ [w0]) e) : Wd K H0 H σ (e.take σ.length) := by
  have hl : e.length = σ.length + 1 := by have := w.len; simp at this; omega
  have at' : ∀ {i : Nat} {s : Sl}, (e.take σ.length)[i]? = some s → e[i]? = some s ∧ (σ ++ [w0])[i]? = σ[i]? := fun {i s} h => by
    obtain ⟨h1, h2⟩ := take_get h
    exact ⟨h1, by rw [List.getElem?_append_left h2]⟩
  refine ⟨w.sub, by simp [hl], fun i d' h => ?_, fun i p d' h => ?_, fun i d' h => ?_, fun i j p p' d1 d2 a h1 h2 h3 h4 => ?_⟩
  · obtain ⟨h1, h2⟩ := at' h; rw [← h2]; exact w.fz i d' h1
  · obtain ⟨h1, h2⟩ := at' h; rw [← h2]; exact w.ow i p d' h1
  · obtain ⟨h1, h2⟩ := at' h; rw [← h2]
    obtain ⟨u, q1, q2⟩ := w.bw i d' h1
    exact ⟨u, q1, q2.imp id fun ⟨a, y1, y2, y3⟩ => ⟨a, y1, y2, fun o => y3 (own_take o)⟩⟩
  · obtain ⟨h1, g1⟩ := at' h1; obtain ⟨h2, g2⟩ := at' h2
    exact w.inj i j _ _ _ _ a h1 h2 (by rw [g1]; exact h3) (by rw [g2]; exact h4)
/-- behind a call that had a further slot x -/
theorem After.drop {x : Addr} {d : D} (a : After K H0 H (σ ++ [some (.ref x)]) (e ++ [.ow false d]) H0' H' (σ ++ [some (.ref x)]) e') (w : Wd K H0 H σ e) {Hb : Hp} (st : ∀ b o, Hb b = some o → H b = some o) (nx : Hb x = none) (hs : σ.length = e.length) :
    After K H0 Hb σ e H0' H' σ (e'.take σ.length) := by
  have ne : ∀ {b : Addr} {o : HO}, Hb b = some o → b ≠ x := fun {b o} q z => by rw [z, nx] at q; cases q
  have no : ∀ {b : Addr} {o : HO}, Hb b = some o → ¬ Own σ e b → ¬ Own (σ ++ [some (.ref x)]) (e ++ [.ow false d]) b := fun {b o} q n z => by
    rcases Own.app w z with z | z
    · exact n z
    · exact ne q z
  refine ⟨a.s0, fun b o q n => a.keep b o (st b o q) (no q n), fun b o q m n => a.off b o (st b o q) m (no q n), fun b o q => a.thr b o (st b o q), fun b o => ?_, fun i d' h => ?_, fun i d' h => ?_⟩
  · rcases a.own b (own_take o) with z | z
    · rcases Own.app w z with z | z
      · exact .inl z
      · rw [z]; exact .inr nx
    · cases q : Hb b with
      | none => exact .inr rfl
      | some o => have := st b o q; rw [z] at this; cases this
  · obtain ⟨h1, h2⟩ := take_get h
    obtain ⟨g1, d0, g2⟩ := a.pin i d' h1
    rcases app_one g2 with g2 | ⟨_, z⟩
    · rw [List.getElem?_append_left h2] at g1
      exact ⟨g1.symm ▸ rfl, d0, g2⟩
    · cases z
  · obtain ⟨h1, h2⟩ := take_get h
    obtain ⟨g1, g2⟩ := a.pinb i d' h1
    rcases app_one g2 with g2 | ⟨_, z⟩
    · exact ⟨rfl, g2⟩
    · cases z
end
/-- behind a call with a further slot -/
def dropR (n : Nat) : Rz Tg → Rz Tg
  | .ok (.fz d) e => .ok (.fz d) (e.take n)
  | .ok (.nw d) e => .ok (.nw d) (e.take n)
  | .ok (.sl _) _ => .bad
  | .ex x e => .ex x (e.take n)
  | .bad => .bad
/-! ### f(x), x perhaps a new instance -/
def callN (F : Fe) (m : Md) (t : Tg) (e : En) : Rz Tg := match t with
  | .nw d => if d.frb = true then callF F [m] [.fz d] e else dropR e.length (callF F [m] [.sl e.length] (e ++ [.ow false d]))
  | t => callF F [m] [t] e
def dCallN (F : Fe) (m : Md) (fa : Fe) : Fe := fun e => (fa e).bind fun t e1 => callN F m t e1
section
variable {K : PySem.W.Frag} {H0 H H01 H1 H0' H' H0s Hs : Hp} {σ σ' σ1 σs : L2.St} {e e1 e' es : En} {W : WX} {v : V}
theorem After.hole {x : Addr} (a : After K H0s Hs σs es H0 H σ e) (hx : Hs x = none) : After K H0s Hs σs es H0 (fun b => if b = x then none else H b) σ e :=
  ⟨a.s0, fun b o q n => by show (if b = x then none else H b) = _; rw [if_neg (ne_of_none q hx)]; exact a.keep b o q n, a.off, fun b o q => by show ∃ o', (if b = x then none else H b) = _; rw [if_neg (ne_of_none q hx)]; exact a.thr b o q, a.own, a.pin, a.pinb⟩
/-- the end of a call that had the further slot x -/
theorem drop_end {x : Addr} {d : D} (w : Wd K H0 H σ e) (a : After K H0s Hs σs es H0 H σ e) (hx : Hs x = none) (w' : Wd K H0' H' (σ ++ [some (.ref x)]) e') (a' : After K H0 H (σ ++ [some (.ref x)]) (e ++ [.ow false d]) H0' H' (σ ++ [some (.ref x)]) e') :
    Wd K H0' H' σ (e'.take σ.length) ∧ After K H0s Hs σs es H0' H' σ (e'.take σ.length) := by
  refine ⟨w'.drop, (a.hole hx).trans (a'.drop w (fun b o q => ?_) (if_pos rfl) w.len)⟩
  by_cases z : b = x
  · rw [if_pos z] at q; cases q
  · rw [if_neg z] at q; exact q
theorem drop_rep {x : Addr} {t : Tg} (hb : ∀ b o, Hs b = some o → ∃ o', H b = some o') (r : RepT K H0' H' H (σ ++ [some (.ref x)]) e' v t) (hs : ∀ i, t ≠ .sl i) : RepT K H0' H' Hs σ (e'.take σ.length) v t := by
  cases t with
  | fz d => exact r
  | sl i => exact (hs i rfl).elim
  | nw d =>
    obtain ⟨p, h1, h2, h3, h4, h5⟩ := r
    refine ⟨p, h1, ?_, fun o => h3 (own_take o), h4, fun j b z1 z2 => ?_⟩
    · cases z : Hs p with
      | none => rfl
      | some o => obtain ⟨o', z'⟩ := hb p o z; rw [h2] at z'; cases z'
    · obtain ⟨z3, z4⟩ := take_get z1
      exact h5 j b z3 (by rw [List.getElem?_append_left z4]; exact z2)
theorem callN_of {F : Fe} {m : Md} {t : Tg} {Q : VK} (w : Wd K H0 H σ e) (a : After K H0s Hs σ es H0 H σ e) (r : RepT K H0 H Hs σ e v t)
    (h : Gy K W σ H0s Hs es (callN F m t e) fun t e' H0' H' => ∀ v, RepT K H0' H' Hs σ e' v t → Q v H') : spV K 1 F [v] H Q fun c d H => W c d σ H := by
  cases t with
  | fz d => exact callF_of w a (.cons (show RepO K H0 σ v (.fz d) from r) .nil) rfl h
  | sl i => exact callF_of w a (.cons (show RepO K H0 σ v (.sl i) from r) .nil) rfl h
  | nw d =>
    unfold callN at h
    by_cases hd : d.frb = true
    · simp only [if_pos hd] at h
      obtain ⟨H01, w1, a1, s1, r1⟩ := RepT.fr w a r
      have ef : (Tg.nw d).fr = .fz d := if_pos hd
      rw [ef] at r1
      exact callF_of w1 a1 (.cons r1 .nil) rfl h
    · simp only [if_neg hd] at h
      obtain ⟨x, rfl, h2, h3, h4, h5⟩ := r
      have wp := w.app h4 h3 h5
      have hl : σ.length = e.length := w.len
      have r0 : RepO K H0 (σ ++ [some (V.ref x)]) (.ref x) (.sl e.length) := by
        show (σ ++ [some (V.ref x)])[e.length]? = _
        rw [← hl, List.getElem?_append_right (Nat.le_refl _)]; simp
      refine callF_of (W := fun c d _ H => W c d σ H) (ms := [m]) wp (.refl) (.cons r0 .nil) rfl ?_
      cases q : callF F [m] [.sl e.length] (e ++ [.ow false d]) with
      | bad => rw [q] at h; exact h.elim
      | ex y e2 =>
        rw [q] at h
        intro dx H0' H' w' a' x'
        obtain ⟨w2, a2⟩ := drop_end w a h2 w' a'
        rw [hl] at w2 a2
        exact h dx H0' H' w2 a2 x'
      | ok t2 e2 =>
        rw [q] at h
        intro H0' H' w' a' v' r'
        obtain ⟨w2, a2⟩ := drop_end w a h2 w' a'
        rw [hl] at w2 a2
        cases t2 with
        | sl i => exact h.elim
        | fz d2 => exact h H0' H' w2 a2 v' r'
        | nw d2 =>
          have := drop_rep a.thr r' (fun i z => by cases z)
          rw [hl] at this
          exact h H0' H' w2 a2 v' this
theorem tE_thenT {f : Fe} {β : Type} {g : Tg → En → Rz β} {k : β → En → Hp → Hp → Prop} {Z : VK} (w : Wd K H0 H σ e) (h : Gy K W σ H0 H e ((f e).bind g) k)
    (hz : ∀ t e1 v H01 H1, Wd K H01 H1 σ e1 → After K H0 H σ e H01 H1 σ e1 → RepT K H01 H1 H σ e1 v t → Gy K W σ H0 H e (g t e1) k → Z v H1) : tE K W f σ H Z := by
  refine ⟨H0, e, w, ?_⟩
  cases q : f e with
  | ok t e1 => rw [q] at h; exact fun H01 H1 w1 a1 v r1 => hz t e1 v H01 H1 w1 a1 r1 h
  | ex x e1 => rw [q] at h; exact h
  | bad => rw [q] at h; exact h
end
theorem CE.veN {X : Cx} {W : WX} {j k : Nat} {x : Str} {ps : List Str} {F : Fe} {a : Expr} {fa : Fe} {p pos : Pos} (c : CE X.prog X.w X.K X.mg X.base k x ps F) (m : Md) (hr : Room j X.A) (tk : Takes X W) (ha : VE X W a fa) (hj : k ≤ j := by decide) (hg : Gl X x := by rfl)
    (hl : ps.length = 1 := by rfl) (hdb : (x == ("__debug__" : Str)) = false := by decide) (he : starEach [a] X.env = (false, eval a X.env) :: starEach [] X.env := by rfl) :
    VE X W (.Call (.Name x p) [a] [] pos) (dCallN F m fa) := by
  obtain ⟨f, fd, h1, h2, h3, h4⟩ := c
  refine pe_imp (pe_callS (h1.mono hj) hr hg h2 h3 h4 (fun σ => passAt tk σ) (pa_cons ha pa_nil he) hdb he rfl) fun σ H Q ⟨H0, e, w, h⟩ => ?_
  refine tE_thenT w h fun t e1 v H01 H1 w1 a1 r1 h1 => ?_
  rw [hl]
  exact callN_of w1 a1 r1 h1

/-! ### fields -/
section
variable {K : PySem.W.Frag} {H0 H : Hp} {v : V}
theorem Opd.ins {c : Str} {fs : List (Str × D)} (s : Same H0 H) (o : Opd K H0 H v (.ins c fs)) : ∃ a dx fvs, v = .ref a ∧ H a = some (.ins (He.ga K c) dx fvs) ∧ RepF K H0 fvs fs := by
  rcases o with o | ⟨a, rfl, _, dx, fvs, h1, h2, h3, h4⟩
  · cases o with
    | ins h1 h2 r => exact ⟨_, _, _, rfl, s _ _ h1, r⟩
  · exact ⟨a, dx, fvs, rfl, h1, h4⟩
end
def fldD (cn f : Str) : D → Option Tg
  | .ins c fs => if c = cn then (fs.lookup f).map .fz else none
  | _ => none
def putFD (f : Str) (d : D) : List (Str × D) → List (Str × D)
  | [] => [(f, d)]
  | (g, x) :: r => if g = f then (g, d) :: r else (g, x) :: putFD f d r
/-- the facts of a class -/
structure CF (K : PySem.W.Frag) (cn : Str) (fl : List Str) : Prop where
  cls : Cls K (He.ga K cn)
  no : ∀ f ∈ fl, NoAttr K (He.ga K cn) f
theorem RepF.put {K : PySem.W.Frag} {H0 : Hp} {v : V} {d : D} {f : Str} (h : Rep K H0 v d) : ∀ {fvs : List (Str × V)} {fs : List (Str × D)}, RepF K H0 fvs fs → RepF K H0 (putF f v fvs) (putFD f d fs)
  | _, _, .nil => .cons h .nil
  | _, _, .cons (f := g) r rs => by
    unfold putF putFD
    by_cases z : g = f
    · rw [if_pos z, if_pos z]; exact .cons h rs
    · rw [if_neg z, if_neg z]; exact .cons r (RepF.put h rs)
theorem RepF.length {K : PySem.W.Frag} {H0 : Hp} : ∀ {fvs : List (Str × V)} {fs : List (Str × D)}, RepF K H0 fvs fs → fvs.length = fs.length
  | _, _, .nil => rfl
  | _, _, .cons _ rs => congrArg (· + 1) (RepF.length rs)
def putIns (i : Nat) (cn f : Str) (d : D) (e : En) : RS := match e[i]? with
  | some (.ow p (.ins c fs)) => if c = cn then (if Nat.ble fs.length 900 = true then .nx (e.set i (.ow p (.ins c (putFD f d fs)))) else .bad) else .bad
  | _ => .bad
/-- self.f = value, self the slot i -/
def sFldS (i : Nat) (cn f : Str) (fv : Fe) : Fs := fun e => (fv e).to fun t e1 => (frzT t e1).to fun d e2 => putIns i cn f d e2
def insI (cn f : Str) : Option Sl → Option D
  | some (.ow _ (.ins c fs)) => if c = cn then fs.lookup f else none
  | _ => none
/-- self.f op= value, ints -/
def sFldAugS (i : Nat) (cn f : Str) (g : Int → Int → Int) (fv : Fe) : Fs := fun e => match insI cn f e[i]? with
  | some (.int a) => (fv e).to fun t e1 => match look e1 t.fr with
    | some (.int b) => putIns i cn f (.int (g a b)) e1
    | _ => .bad
  | _ => .bad
section
variable {X : Cx} {W : WX} {o a : Expr} {fa fb : Fe} {cn f x : Str} {fl : List Str} {p p2 p3 pos : Pos}
theorem ve_fld (C : CF X.K cn fl) (hf : f ∈ fl) (ho : VE X W o fa) (hb : attributeBase o f X.env (eval o X.env) = eval o X.env := by rfl) : VE X W (.Attribute o f pos) (dUn (fldD cn f) fa) := by
  refine pe_imp (pe_fld ho hb) fun σ H Q ⟨H0, e, w, h⟩ => ?_
  refine tE_then w h fun t1 e1 v1 H01 H1 q1 w1 a1 r1 h1 => ?_
  obtain ⟨H02, d, t, sm, od, eq, g⟩ := fin1_of w1 a1 r1 h1
  cases d with
  | ins c fs =>
    have eq2 : (if c = cn then (fs.lookup f).map Tg.fz else none) = some t := eq
    by_cases hc : c = cn
    · rw [if_pos hc] at eq2
      subst hc
      cases q : fs.lookup f with
      | none => rw [q] at eq2; cases eq2
      | some d =>
        rw [q] at eq2
        cases eq2
        obtain ⟨ad, dx, fvs, rfl, h2, h3⟩ := od.ins sm
        obtain ⟨v, q1, q2⟩ := (RepF.lookup (f := f) h3).1 d q
        exact ⟨ad, _, dx, fvs, v, rfl, h2, C.cls, C.no f hf, q1, gives_fz sm g q2⟩
    · rw [if_neg hc] at eq2; cases eq2
  | _ => cases eq
theorem putIns_of {K : PySem.W.Frag} {H0 H H0s Hs : Hp} {σ σs : L2.St} {e es : En} {i : Nat} {d : D} {v : V} {ad : Addr} {Ez : Ends} (w : Wd K H0 H σ e) (a : After K H0s Hs σs es H0 H σ e) (hs : σ[i]? = some (some (.ref ad))) (r : Rep K H0 v d) (h : GyS K W σs H0s Hs es (putIns i cn f d e) Ez) :
    ∃ dx fvs, H ad = some (.ins (He.ga K cn) dx fvs) ∧ fvs.length < 1000 ∧ Ez.nx σ (upd H ad (.ins (He.ga K cn) dx (putF f v fvs))) := by
  unfold putIns at h
  cases q : e[i]? with
  | none => simp only [q] at h; exact h.elim
  | some s =>
    cases s with
    | ow p d0 =>
      cases d0 with
      | ins c fs =>
        simp only [q] at h
        by_cases hc : c = cn
        case neg => rw [if_neg hc] at h; exact h.elim
        rw [if_pos hc] at h
        by_cases hz : Nat.ble fs.length 900 = true
        case neg => rw [if_neg hz] at h; exact h.elim
        rw [if_pos hz] at h
        subst hc
        obtain ⟨a', h1, hn, dx, fvs, h2, h3, h4, h5⟩ := w.ow i p _ q
        rw [hs] at h1; cases h1
        have hz' := Nat.le_of_ble_eq_true hz
        have hdx : dx ≠ ad := fun z => by subst z; rw [h2] at h3; cases h3
        obtain ⟨w2, a2⟩ := w.put (d' := .ins c (putFD f d fs)) (o' := .ins (He.ga K c) dx (putF f v fvs)) q hs h2 (fun x z => by cases z) ⟨dx, _, upd_same, by rw [upd_ne hdx]; exact h3, h4, RepF.put r h5⟩
        exact ⟨dx, fvs, h2, by rw [h5.length]; omega, h _ _ _ w2 (a.trans a2)⟩
      | _ => simp only [q] at h; exact h.elim
    | _ => simp only [q] at h; exact h.elim
theorem putIns_slot {K : PySem.W.Frag} {H0 H H0s Hs : Hp} {σ σs : L2.St} {e es : En} {i : Nat} {d : D} {Ez : Ends} (w : Wd K H0 H σ e) (h : GyS K W σs H0s Hs es (putIns i cn f d e) Ez) : ∃ ad, σ[i]? = some (some (.ref ad)) := by
  unfold putIns at h
  cases q : e[i]? with
  | none => simp only [q] at h; exact h.elim
  | some s =>
    cases s with
    | ow p d0 => obtain ⟨ad, h1, _⟩ := w.ow i p d0 q; exact ⟨ad, h1⟩
    | _ => simp only [q] at h; exact h.elim
theorem vs_fldS (C : CF X.K cn fl) (hf : f ∈ fl) (i : Nat) (hN : X.N[i]? = some x) (hv : Vis X.env.scope x) (ha : VE X W a fa) (hd : (x == ("__debug__" : Str)) = false := by decide) (hcd : (x == ("__classdict__" : Str)) = false := by decide)
    (hs : swapsWith a (some (.Attribute (.Name x p) f p2)) pos.line X.env = pure false := by rfl) : VS X W (.Assign [.Attribute (.Name x p) f p2] a pos) (sFldS i cn f fa) := by
  refine ps_imp (ps_fld (pe_var hN hv hd hcd) ha hs) fun D σ H ⟨H0, e, w, h⟩ => ?_
  refine tE_frzS w h fun d e1 v H01 H1 w1 a1 r1 h1 => ?_
  obtain ⟨ad, h2⟩ := putIns_slot w1 h1
  obtain ⟨dx, fvs, h3, h4, h5⟩ := putIns_of w1 a1 h2 r1 h1
  exact ⟨.ref ad, h2, ad, _, dx, fvs, rfl, h3, C.cls, C.no f hf, h4, h5⟩
theorem vs_fldAugS {op : Operator} {g : Int → Int → Int} (C : CF X.K cn fl) (hf : f ∈ fl) (i : Nat) (hop : InOp X op fun x y H Q => ∃ i j, x = .int i ∧ y = .int j ∧ Q (.int (g i j)) H) (hN : X.N[i]? = some x) (hv : Vis X.env.scope x) (ha : VE X W a fa) (hd : (x == ("__debug__" : Str)) = false := by decide) (hcd : (x == ("__classdict__" : Str)) = false := by decide) :
    VS X W (.AugAssign (.Attribute (.Name x p) f p2) op a pos) (sFldAugS i cn f g fa) := by
  refine ps_imp (ps_fldaug (pe_var hN hv hd hcd) ha hop) fun D σ H ⟨H0, e, w, h⟩ => ?_
  unfold sFldAugS at h
  cases q : e[i]? with
  | none => simp only [q, insI] at h; exact h.elim
  | some s =>
    cases s with
    | ow p d0 =>
      cases d0 with
      | ins c fs =>
        simp only [q, insI] at h
        by_cases hc : c = cn
        case neg => rw [if_neg hc] at h; exact h.elim
        rw [if_pos hc] at h
        cases q2 : fs.lookup f with
        | none => simp only [q2] at h; exact h.elim
        | some d =>
          cases d with
          | int k =>
            simp only [q2] at h
            obtain ⟨ad, h1, hn, dx, fvs, h2, h3, h4, h5⟩ := w.ow i p _ q
            obtain ⟨v, g1, g2⟩ := (RepF.lookup (f := f) h5).1 _ q2
            cases g2
            refine ⟨.ref ad, h1, ad, _, dx, fvs, .int k, rfl, h2, by rw [hc]; exact C.cls, by rw [hc]; exact C.no f hf, g1, ?_⟩
            refine tE_sf w h fun t e1 y H01 H1 w1 a1 r1 h6 => ?_
            cases q3 : look e1 t.fr with
            | none => simp only [q3] at h6; exact h6.elim
            | some dy =>
              cases dy with
              | int j =>
                simp only [q3] at h6
                have ey := (look_ok w1 r1 q3).int
                subst ey
                refine ⟨k, j, rfl, rfl, ?_⟩
                obtain ⟨dx', fvs', z1, z2, z3⟩ := putIns_of (v := .int (g k j)) w1 a1 h1 (.int _) h6
                rw [hc]
                exact ⟨dx', fvs', z1, z2, z3⟩
              | _ => simp only [q3] at h6; exact h6.elim
          | _ => simp only [q2] at h; exact h.elim
      | _ => simp only [q, insI] at h; exact h.elim
    | _ => simp only [q, insI] at h; exact h.elim
end
end VL

/-! VLs: methods, making. -/
namespace VL
open PySem PySem.Spec L2

def isM (cn m : Str) : Option D → Bool
  | some (.ins c fs) => decide (c = cn) && (fs.lookup m).isNone
  | _ => false
def dMeth (cn m : Str) (F : Fe) (ms : List Md) (fa : Fe) (fs : Fa) : Fe := fun e => (fa e).bind fun t e1 => if isM cn m (look e1 t) = true then (fs e1).bind fun ts e2 => callF F ms (t :: ts) e2 else .bad
def makeF (cn : Str) (F : Fe) (ms : List Md) (ts : List Tg) (e : En) : Rz Tg := match callF F (.io :: ms) (.sl e.length :: ts) (e ++ [.ow false (.ins cn [])]) with
  | .ok (.fz .non) e2 => (match e2[e.length]? with
    | some (.ow _ d) => .ok (.nw d) (e2.take e.length)
    | _ => .bad)
  | .ex x e2 => .ex x (e2.take e.length)
  | _ => .bad
def dMake (cn : Str) (F : Fe) (ms : List Md) (fs : Fa) : Fe := fun e => (fs e).bind fun ts e1 => makeF cn F ms ts e1
/-- a method's contract, as the head tells it -/
def CM (P : Program) (w : World) (K : PySem.W.Frag) (mg : Str → Option Value) (base : Heap) (k : Nat) (cn m : Str) (ps : List Str) (F : Fe) : Prop :=
  ∃ f fd, FnOk P w K mg base (L2.CX P w) k f fd ps (spV K ps.length F) ∧ Binds K fd ps [] ∧ f = He.ma K (He.ga K cn) m
def tMethS (C : Addr) (m : Str) (sp : Sp) (E : L2.St → XK) (ta : TE) (t : TA) : TE := fun σ H Q => ta σ H fun x H1 => ∃ a dx fs, x = .ref a ∧ H1 a = some (.ins C dx fs) ∧ fs.lookup m = none ∧ t σ H1 fun vs H2 => sp (x :: vs) H2 Q (E σ)
section
variable {X : Cx} {CX : CXT} {k : Nat} {f C : Addr} {fd : FuncData} {ps : List Str} {sp : Sp} {E : L2.St → XK} {x m : Str} {p pos apos : Pos} {e o : Expr} {es : List Expr} {ta : TE} {t : TA}
theorem pe_methS {pl : Sem Bool} (he : PE X o ta) (c : Cls X.K C) (hm : Meth X.K C m f) (F : FnOk X.prog X.w X.K X.mg X.base CX k f fd ps sp) (hr : Room k X.A) (hb : Binds X.K fd ps []) (hx : ∀ σ, PassesAt CX X σ (E σ)) (ha : PA X (e :: es) t)
    (hst : starEach (e :: es) X.env = (false, eval e X.env) :: starEach es X.env := by rfl) (hpl : (backTo pos (starEach es X.env)).any (·.1) = false := by rfl)
    (ht : eval (.Call (.Attribute o m apos) (e :: es) [] pos) X.env = (do
      let ov ← eval o X.env
      standAt apos.atName
      let (f, first) ← holding [ov] (getMethod ov m pl)
      callWith pos f first (backTo pos (starEach (e :: es) X.env)) (backToKw pos (keywordEach [] X.env))) := by rfl) :
    PE X (.Call (.Attribute o m apos) (e :: es) [] pos) (tMethS C m sp E ta t) := by
  refine ⟨fun pins s σ H Q I h => ?_⟩
  refine PySem.W.methodCall_KW (pl := pl) (thn (he.run pins s σ H _ I h) fun u s1 ⟨x, H1, I1, rx, a, dx, fs, ex, ea, l, q⟩ => ?_) ht
  subst ex
  obtain rfl : u = Value.ref a := rx
  refine getmeth_ok I1 ea c hm l ?_
  refine PySem.W.callWith_K (first := [.ref a]) (h₀ := X.base) I.ok.mod.kin hm.kp (thn (ha.run pos pins s1 σ H1 _ I1 q) fun us s2 ⟨vs, H2, I2, r, q2⟩ => ⟨I2.kIn, ?_⟩) hst hpl
  exact run_fnS (us := .ref a :: us) (vs := .ref a :: vs) F hr hb (hx σ) I2 (.cons rfl r) q2
theorem pe_methS0 {pl : Sem Bool} (he : PE X o ta) (c : Cls X.K C) (hm : Meth X.K C m f) (F : FnOk X.prog X.w X.K X.mg X.base CX k f fd ps sp) (hr : Room k X.A) (hb : Binds X.K fd ps []) (hx : ∀ σ, PassesAt CX X σ (E σ))
    (ht : eval (.Call (.Attribute o m apos) [] [] pos) X.env = (do
      let ov ← eval o X.env
      standAt apos.atName
      let (f, first) ← holding [ov] (getMethod ov m pl)
      callWith pos f first (backTo pos (starEach [] X.env)) (backToKw pos (keywordEach [] X.env))) := by rfl) :
    PE X (.Call (.Attribute o m apos) [] [] pos) (tMethS C m sp E ta tNil) := by
  refine ⟨fun pins s σ H Q I h => ?_⟩
  refine PySem.W.methodCall_KW (pl := pl) (thn (he.run pins s σ H _ I h) fun u s1 ⟨x, H1, I1, rx, a, dx, fs, ex, ea, l, q⟩ => ?_) ht
  subst ex
  obtain rfl : u = Value.ref a := rx
  refine getmeth_ok I1 ea c hm l ?_
  exact PySem.W.callWith_K0 (first := [.ref a]) I1.kIn hm.kp (run_fnS (us := [.ref a]) (vs := [.ref a]) F hr hb (hx σ) I1 (.cons rfl .nil) q)
def tMakeS (C : Addr) (sp : Sp) (E : L2.St → XK) (t : TA) : TE := fun σ H Q => t σ H fun vs H1 => ∀ x dx, H1 x = none → H1 dx = none → dx ≠ x →
  sp (.ref x :: vs) (upd (upd H1 dx (.own x)) x (.ins C dx [])) (fun v H2 => v = .non ∧ Q (.ref x) H2) (E σ)
theorem run_makeS {pins : List (Addr × Obj)} {σ : L2.St} {H : Hp} {s : Shared} {Q : VK} {us : List Value} {vs : List V} (M : Mk X.K C f) (F : FnOk X.prog X.w X.K X.mg X.base CX k f fd ps sp) (hr : Room (k + 1) X.A) (hb : Binds X.K fd ps [])
    (hx : PassesAt CX X σ (E σ)) (I : Inv X pins σ H s) (r : Vals vs us)
    (h : ∀ x dx, H x = none → H dx = none → dx ≠ x → sp (.ref x :: vs) (upd (upd H dx (.own x)) x (.ins C dx [])) (fun v H2 => v = .non ∧ Q (.ref x) H2) (E σ)) :
    wpAny (model X.prog X.w) X.A (call (.ref C) us) (EP X pins σ Q) X.xe s := by
  have hq := h (s.heap.objs.size + 1) s.heap.objs.size (I.hok.fresh (Nat.le_succ _)) (I.hok.fresh (Nat.le_refl _)) (Nat.ne_of_lt (Nat.lt_succ_self _))
  have I2 := Inv.made (C := C) I
  have r2 : Vals (V.ref (s.heap.objs.size + 1) :: vs) (Value.ref (s.heap.objs.size + 1) :: us) := .cons rfl r
  have hl : (Value.ref (s.heap.objs.size + 1) :: us).length = ps.length := by
    have e := r2.length
    rw [F.len _ _ _ _ hq] at e
    exact e.symm
  have b := hb _ (Value.ref (s.heap.objs.size + 1) :: us) I2.kIn (by rw [List.append_nil]; exact hl)
  rw [List.append_nil] at b
  refine wpAny_call (make_map (f := f) I.kIn M.makes M.init (beq_iff_eq.mp M.fn) (codeAny_mono (F.run _ X.stack _ _ ⟨Value.ref (s.heap.objs.size + 1) :: us, []⟩ (Value.ref (s.heap.objs.size + 1) :: us) _ _ (E σ) (hr.make C us [])
    (I2.env0.make C us []) b r2 hq) fun r s' hq' => ?_))
  cases r with
  | error e => exact hx pins _ _ e s' I2 hq'
  | ok fl =>
    cases fl with
    | ret u =>
      obtain ⟨v, H', I3, rv, ev, q3⟩ := I2.after hq'
      subst ev
      exact ⟨rv, ⟨V.ref (s.heap.objs.size + 1), H', I3, rfl, q3⟩⟩
    | next => exact False.elim hq'
    | brk => exact False.elim hq'
    | cont => exact False.elim hq'
theorem pe_makeS (M : Mk X.K C f) (F : FnOk X.prog X.w X.K X.mg X.base CX k f fd ps sp) (hr : Room (k + 1) X.A) (hg : Gl X x) (hm : X.mg x = some (.ref C)) (hb : Binds X.K fd ps []) (hx : ∀ σ, PassesAt CX X σ (E σ))
    (ha : PA X (e :: es) t) (hdb : (x == ("__debug__" : Str)) = false := by decide) (he : starEach (e :: es) X.env = (false, eval e X.env) :: starEach es X.env := by rfl) (hpl : (backTo pos (starEach es X.env)).any (·.1) = false := by rfl) :
    PE X (.Call (.Name x p) (e :: es) [] pos) (tMakeS C sp E t) := by
  refine ⟨fun pins s σ H Q I h => ?_⟩
  refine wpAny_Call_Name_kw (ld_glob I hg hm ?_ hdb)
  refine PySem.W.callWith_K (h₀ := X.base) I.ok.mod.kin M.kp (thn (ha.run pos pins s σ H _ I h) fun us s1 ⟨vs, H1, I1, r, q⟩ => ⟨I1.kIn, ?_⟩) he hpl
  exact run_makeS M F hr hb (hx σ) I1 r q
end
section
variable {K : PySem.W.Frag} {H0 H H01 H1 H0' H' H0s Hs : Hp} {σ σ' σ1 σs : L2.St} {e e1 e' es : En} {W : WX} {v : V}
theorem RepOs.app {u : Option V} (hl : σ.length = e.length) : ∀ {vs : List V} {ts : List Tg}, RepOs K H0 σ vs ts → RepOs K H0 (σ ++ [u]) vs ts
  | _, _, .nil => .nil
  | _, _, .cons (t := t) r rs => .cons (by
      cases t with
      | fz d => exact r
      | nw d => trivial
      | sl i =>
        have r' : σ[i]? = some (some _) := r
        show (σ ++ [u])[i]? = _
        rw [List.getElem?_append_left (List.getElem?_eq_some_iff.mp r').1]; exact r') (RepOs.app hl rs)
theorem makeF_of {cn : Str} {F : Fe} {ms : List Md} {ts : List Tg} {vs : List V} {Q : VK} {n : Nat} {x dx : Addr} (w : Wd K H0 H σ e) (a : After K H0s Hs σ es H0 H σ e) (r : RepOs K H0 σ vs ts) (hn : ms.length + 1 = n) (hx : H x = none) (hdx : H dx = none) (ne : dx ≠ x)
    (h : Gy K W σ H0s Hs es (makeF cn F ms ts e) fun t e' H0' H' => ∀ v, RepT K H0' H' Hs σ e' v t → Q v H') :
    spV K n F (.ref x :: vs) (upd (upd H dx (.own x)) x (.ins (He.ga K cn) dx [])) (fun v H2 => v = .non ∧ Q (.ref x) H2) fun c d H => W c d σ H := by
  have hl : σ.length = e.length := w.len
  have st1 : Step H0 H H0 (upd H dx (.own x)) := .new w.sub hdx
  have hx1 : upd H dx (.own x) x = none := by rw [upd_ne (Ne.symm ne)]; exact hx
  have st2 : Step H0 (upd H dx (.own x)) H0 (upd (upd H dx (.own x)) x (.ins (He.ga K cn) dx [])) := .new st1.sub hx1
  have st := st1.trans st2
  have w2 := w.step st
  have a2 : After K H0s Hs σ es H0 (upd (upd H dx (.own x)) x (.ins (He.ga K cn) dx [])) σ e := a.trans (.of_step st)
  have sx : Hs x = none := by
    cases q : Hs x with
    | none => rfl
    | some o => obtain ⟨o', q'⟩ := a.thr x o q; rw [hx] at q'; cases q'
  have no : ¬ Own σ e x := fun o => by
    obtain ⟨d, z⟩ := w.own_some o
    obtain ⟨u, hu⟩ := z.some
    rw [hx] at hu; cases hu
  have nb : ∀ (j : Nat) (b : D), e[j]? = some (Sl.bw b) → σ[j]? = some (some (V.ref x)) → Rep K H0 (.ref x) b := fun j b z1 z2 => by
    obtain ⟨v', z3, z4⟩ := w.bw j b z1
    rw [z2] at z3; cases z3
    rcases z4 with z4 | ⟨c, z5, z6, _⟩
    · exact z4
    · cases z5
      obtain ⟨u, hu⟩ := z6.some
      rw [hx] at hu; cases hu
  have ox : OwnAt K H0 (upd (upd H dx (.own x)) x (.ins (He.ga K cn) dx [])) x (.ins cn []) := ⟨w.sub.free hx, dx, [], upd_same, by rw [upd_ne ne, upd_same], w.sub.free hdx, .nil⟩
  have wp := w2.app ox no nb
  have last : (σ ++ [some (V.ref x)])[e.length]? = some (some (.ref x)) := by rw [← hl, List.getElem?_append_right (Nat.le_refl _)]; simp
  refine callF_of (W := fun c d _ H => W c d σ H) (ms := .io :: ms) wp (.refl) (.cons (show RepO K H0 (σ ++ [some (V.ref x)]) (.ref x) (.sl e.length) from last) (r.app hl)) hn ?_
  unfold makeF at h
  cases q : callF F (.io :: ms) (.sl e.length :: ts) (e ++ [.ow false (.ins cn [])]) with
  | bad => rw [q] at h; exact h.elim
  | ex y e2 =>
    rw [q] at h
    intro dx' H0' H' w' a' x'
    obtain ⟨w3, a3⟩ := drop_end w2 a2 sx w' a'
    rw [hl] at w3 a3
    exact h dx' H0' H' w3 a3 x'
  | ok t e2 =>
    rw [q] at h
    cases t with
    | sl i => exact h.elim
    | nw d => exact h.elim
    | fz d =>
      cases d with
      | non =>
        intro H0' H' w' a' v' r'
        cases (show Rep K H0' v' .non from r')
        cases q2 : e2[e.length]? with
        | none => simp only [q2] at h; exact h.elim
        | some s =>
          cases s with
          | ow p d =>
            simp only [q2] at h
            obtain ⟨w3, a3⟩ := drop_end w2 a2 sx w' a'
            obtain ⟨x0, g1, g2⟩ := w'.ow e.length p d q2
            rw [last] at g1; cases g1
            refine ⟨rfl, ?_⟩
            rw [hl] at w3 a3
            refine h H0' H' w3 a3 (.ref x) ⟨x, rfl, sx, fun o => ?_, g2, fun j b z1 z2 => ?_⟩
            · obtain ⟨i, p', d', z1, z2⟩ := o
              obtain ⟨z3, z4⟩ := take_get z1
              have := w'.inj i e.length _ _ _ _ x z3 q2 (by rw [List.getElem?_append_left (by rw [hl]; exact z4)]; exact z2) last
              omega
            · obtain ⟨z3, z4⟩ := take_get z1
              obtain ⟨_, z5⟩ := a'.pinb j b z3
              rcases app_one z5 with z5 | ⟨z6, _⟩
              · exact (nb j b z5 z2).mono a'.s0
              · omega
          | _ => simp only [q2] at h; exact h.elim
      | _ => exact h.elim
end
theorem tA_from {K : PySem.W.Frag} {H0 H H01 H1 : Hp} {σ : L2.St} {e e1 : En} {W : WX} {β : Type} {f : Fa} {g : List Tg → En → Rz β} {k : β → En → Hp → Hp → Prop} {Z : List V → Hp → Prop} (w1 : Wd K H01 H1 σ e1) (a1 : After K H0 H σ e H01 H1 σ e1) (h : Gy K W σ H0 H e ((f e1).bind g) k)
    (hz : ∀ t e2 vs H02 H2, Wd K H02 H2 σ e2 → After K H01 H1 σ e1 H02 H2 σ e2 → RepOs K H02 σ vs t → Gy K W σ H0 H e (g t e2) k → Z vs H2) : tA K W f σ H1 Z := by
  refine ⟨H01, e1, w1, ?_⟩
  cases q : f e1 with
  | ok t e2 => rw [q] at h; exact fun H02 H2 w2 a2 vs r2 => hz t e2 vs H02 H2 w2 a2 r2 h
  | ex x e2 => rw [q] at h; exact fun dx H02 H2 w2 a2 x2 => h dx H02 H2 w2 (a1.trans a2) x2
  | bad => rw [q] at h; exact h
/-- a method as the head tells it -/
structure DM (K : PySem.W.Frag) (cn m : Str) (q : Str) (st : Stmt) : Prop where
  ex : ∃ fd, FunD K m q (defArgs st) (defBody st) (defScope st) [] [] (He.ma K (He.ga K cn) m) fd
theorem CM.of {P : Program} {w : World} {K : PySem.W.Frag} {mg : Str → Option Value} {base : Heap} {k : Nat} {cn m q : Str} {st : Stmt} {N ps : List Str} {fs : Fs} (D : DM K cn m q st) (S : FnScope N ps (defScope st))
    (hbi : ∀ (kV doc pm : Value) (an : Option Addr) (cdv ct : Value) (us : List Value), us.length = ps.length → bindArgs (PySem.W.fnOf m q (defArgs st) (defBody st) (defScope st) .none kV doc pm an cdv ct) ⟨us, []⟩ = pure (ps.zip us))
    (hb : ∀ (X : Cx) (W : WX) (cdv : Value) (A : Around) (outer : List Env) (s : Shared) (H : Hp) (E : XK) {f : Addr}, X = cxOf (L2.CX P w) P w K mg base N q (defScope st) f cdv A outer s H E → Room k X.A → W = (fun c d _ H => E c d H) → Takes X W → PassesOwn (model X.prog X.w) X.A X.env X.xe → VSs X W (defBody st) fs) :
    CM P w K mg base (k + 1) cn m ps (fnD N.length fs) := by
  obtain ⟨fd, F⟩ := D.ex
  refine ⟨_, fd, fn_ok F S fun X W cdv A outer s H E hX hr hW tk => ?_, FunD.bindsN F hbi, rfl⟩
  subst hX
  exact hb _ W cdv A outer s H E rfl hr hW tk (passes_of rfl)
section
variable {X : Cx} {W : WX} {j k : Nat} {cn m : Str} {ps fl : List Str} {F : Fe} {a o : Expr} {es : List Expr} {fs : Fa} {fa : Fe} {p pos apos : Pos}
theorem imp_meth {K : PySem.W.Frag} {ms : List Md} {n : Nat} {σ : L2.St} {H : Hp} {Q : VK} (hn : ms.length = n) (h : tE K W (dMeth cn m F ms fa fs) σ H Q) : tMethS (He.ga K cn) m (spV K n F) (WE W) (tE K W fa) (tA K W fs) σ H Q := by
  obtain ⟨H0, e, w, h⟩ := h
  refine tE_thenT w h fun t e1 v H01 H1 w1 a1 r1 h1 => ?_
  by_cases hi : isM cn m (look e1 t) = true
  case neg => rw [if_neg hi] at h1; exact h1.elim
  rw [if_pos hi] at h1
  cases q : look e1 t with
  | none => rw [q] at hi; cases hi
  | some d =>
    rw [q] at hi
    cases d with
    | ins c fs0 =>
      obtain ⟨z1, z2⟩ := and2 (show (decide (c = cn) && (fs0.lookup m).isNone) = true from hi)
      have z1 := of_decide_eq_true z1
      subst z1
      have ro : RepO K H01 σ v t := by
        cases t with
        | fz d => exact r1
        | sl i => exact r1
        | nw d => cases q
      obtain ⟨ad, dx, fvs, rfl, h2, h3⟩ := (look_ok w1 ro q).ins w1.sub
      refine ⟨ad, dx, fvs, rfl, h2, (RepF.lookup (f := m) h3).2 (by simpa using z2), ?_⟩
      exact tA_from w1 a1 h1 fun ts e2 vs H02 H2 w2 a2 r2 h4 => callF_of w2 (a1.trans a2) (.cons (ro.mono a2.s0) r2) hn h4
    | _ => cases hi
/-- o.m(..) -/
theorem CM.ve {pl : Sem Bool} (c : CM X.prog X.w X.K X.mg X.base k cn m ps F) (C : CF X.K cn fl) (hm : Meth X.K (He.ga X.K cn) m (He.ma X.K (He.ga X.K cn) m)) (ms : List Md) (hr : Room j X.A) (tk : Takes X W) (ho : VE X W o fa) (ha : VA X W (a :: es) fs) (hj : k ≤ j := by decide) (hl : ms.length = ps.length := by rfl)
    (hst : starEach (a :: es) X.env = (false, eval a X.env) :: starEach es X.env := by rfl) (hpl : (backTo pos (starEach es X.env)).any (·.1) = false := by rfl)
    (ht : eval (.Call (.Attribute o m apos) (a :: es) [] pos) X.env = (do
      let ov ← eval o X.env
      standAt apos.atName
      let (f, first) ← holding [ov] (getMethod ov m pl)
      callWith pos f first (backTo pos (starEach (a :: es) X.env)) (backToKw pos (keywordEach [] X.env))) := by rfl) :
    VE X W (.Call (.Attribute o m apos) (a :: es) [] pos) (dMeth cn m F ms fa fs) := by
  obtain ⟨f, fd, h1, h2, rfl⟩ := c
  exact pe_imp (pe_methS ho C.cls hm h1 (hr.mono hj) h2 (fun σ => passAt tk σ) ha hst hpl ht) fun σ H Q h => imp_meth hl h
theorem CM.ve0 {pl : Sem Bool} (c : CM X.prog X.w X.K X.mg X.base k cn m ps F) (C : CF X.K cn fl) (hm : Meth X.K (He.ga X.K cn) m (He.ma X.K (He.ga X.K cn) m)) (ms : List Md) (hr : Room j X.A) (tk : Takes X W) (ho : VE X W o fa) (hj : k ≤ j := by decide) (hl : ms.length = ps.length := by rfl)
    (ht : eval (.Call (.Attribute o m apos) [] [] pos) X.env = (do
      let ov ← eval o X.env
      standAt apos.atName
      let (f, first) ← holding [ov] (getMethod ov m pl)
      callWith pos f first (backTo pos (starEach [] X.env)) (backToKw pos (keywordEach [] X.env))) := by rfl) :
    VE X W (.Call (.Attribute o m apos) [] [] pos) (dMeth cn m F ms fa dNil) := by
  obtain ⟨f, fd, h1, h2, rfl⟩ := c
  refine pe_imp (pe_methS0 ho C.cls hm h1 (hr.mono hj) h2 (fun σ => passAt tk σ) ht) fun σ H Q h => ?_
  have h' := imp_meth (K := X.K) (W := W) (ms := ms) (n := ps.length) hl h
  obtain ⟨H0, e, w, g⟩ := h'
  refine ⟨H0, e, w, ?_⟩
  cases q : fa e with
  | bad => rw [q] at g; exact g
  | ex x e1 => rw [q] at g; exact g
  | ok t e1 =>
    rw [q] at g
    intro H01 H1 w1 a1 v r1
    obtain ⟨ad, dx, fvs, g1, g2, g3, H02, e2, w2, g4⟩ := g H01 H1 w1 a1 v r1
    exact ⟨ad, dx, fvs, g1, g2, g3, g4 H02 H1 w2 .refl [] .nil⟩
/-- C(..) -/
theorem CM.mk (c : CM X.prog X.w X.K X.mg X.base k cn "__init__" ps F) (M : Mk X.K (He.ga X.K cn) (He.ma X.K (He.ga X.K cn) "__init__")) (ms : List Md) (hr : Room (j + 1) X.A) (tk : Takes X W) (hm : X.mg cn = some (.ref (He.ga X.K cn))) (ha : VA X W (a :: es) fs) (hj : k ≤ j := by decide) (hg : Gl X cn := by rfl) (hl : ms.length + 1 = ps.length := by rfl)
    (hdb : (cn == ("__debug__" : Str)) = false := by decide) (he : starEach (a :: es) X.env = (false, eval a X.env) :: starEach es X.env := by rfl) (hpl : (backTo pos (starEach es X.env)).any (·.1) = false := by rfl) :
    VE X W (.Call (.Name cn p) (a :: es) [] pos) (dMake cn F ms fs) := by
  obtain ⟨f, fd, h1, h2, rfl⟩ := c
  refine pe_imp (pe_makeS M (h1.mono hj) hr hg hm h2 (fun σ => passAt tk σ) ha hdb he hpl) fun σ H Q ⟨H0, e, w, h⟩ => ?_
  exact tA_then' w h fun ts e1 vs H01 H1 q1 w1 a1 r1 h3 x dx hx hdx ne => makeF_of w1 a1 r1 hl hx hdx ne h3
end
end VL

/-! VLt: dict comprehensions, list(range(n)), sorted. -/
namespace VL
open PySem PySem.Spec L2

def cmpDA (g : D → En → Option En) (ifs : Ft) (fk fv : Fe) (vs : List Nat) : List (D × D) → List D → En → Rz (List (D × D))
  | acc, [], e => .ok acc e
  | acc, d :: ds, e => match g d e with
    | none => .bad
    | some e1 => (ifs e1).nox.bind fun k e2 => match k with
      | false => cmpDA g ifs fk fv vs acc ds (wipeE e2 vs)
      | true => (fk e2).nox.bind fun tk e3 => (fv e3).nox.bind fun tv e4 => (frzT tv e4).bind fun y e5 => match look e5 tk.fr with
        | some kd => (match toKey kd with
          | some k => cmpDA g ifs fk fv vs (dputD acc k y) ds (wipeE e5 vs)
          | none => .bad)
        | none => .bad
def dDc (fi : Fi) (g : D → En → Option En) (ifs : Ft) (fk fv : Fe) (vs : List Nat) : Fe := fun e => (fi e).bind fun ds e1 => if Nat.ble ds.length 1000 = true then (cmpDA g ifs fk fv vs [] ds (wipeE e1 vs)).nox.bind fun ys e2 => .ok (.nw (.dct ys)) (unw e1 (wipeE e2 vs) vs) else .bad
theorem dputD_len (ks : List (D × D)) (k : Key) (d : D) : (dputD ks k d).length ≤ ks.length + 1 := by
  unfold dputD
  split
  · rw [List.length_map]; omega
  · rw [List.length_append]; exact Nat.le_refl _
section
variable {K : PySem.W.Frag} {H0 H H01 H1 H0' H' H0s Hs : Hp} {σ σ1 σs : L2.St} {e e1 e' es : En} {W : WX} {v : V} {ds : List D}
theorem wd_writeD {Da : Addr} {xs xs' : List (Key × V)} (w : Wd K H0 H σ e) (hD : H Da = some (.dK xs)) (n : H0 Da = none) (no : ¬ Own σ e Da) (nb : ∀ (j : Nat) (b : D), e[j]? = some (Sl.bw b) → σ[j]? = some (some (V.ref Da)) → Rep K H0 (.ref Da) b) : Wd K H0 (upd H Da (.dK xs')) σ e where
  sub := fun b o q => by
    by_cases z : b = Da
    · subst z; rw [n] at q; cases q
    · rw [upd_ne z]; exact w.sub _ _ q
  len := w.len
  fz := w.fz
  ow := fun i p d h => by
    obtain ⟨a, h1, h2⟩ := w.ow i p d h
    have na : a ≠ Da := fun z => no ⟨i, p, d, h, by rw [← z]; exact h1⟩
    refine ⟨a, h1, h2.keep (.refl _) fun b o hb q => ⟨?_, id⟩⟩
    have : b ≠ Da := fun z => by
      subst z
      rcases hb with hb | hb
      · exact na hb.symm
      · rw [hD] at hb; cases hb
    rw [upd_ne this]; exact q
  bw := fun i d h => by
    obtain ⟨v, h1, h2⟩ := w.bw i d h
    refine ⟨v, h1, ?_⟩
    rcases h2 with h2 | ⟨a, q1, q2, q3⟩
    · exact .inl h2
    · by_cases z : a = Da
      · subst z; subst q1; exact .inl (nb i d h h1)
      · refine .inr ⟨a, q1, q2.keep (.refl _) fun b o hb q => ⟨?_, id⟩, q3⟩
        have : b ≠ Da := fun y => by
          subst y
          rcases hb with hb | hb
          · exact z hb.symm
          · rw [hD] at hb; cases hb
        rw [upd_ne this]; exact q
  inj := w.inj
end
section
variable {K : PySem.W.Frag} {W : WX} {fr : Bool} {fi : Fi} {t : TG} {g : D → En → Option En} {ifs : Ft} {fk fv : Fe} {ts vs : List Nat} {σ : L2.St} {H : Hp} {Q : VK}
theorem imp_dc (hg : TgOk K fr ts t g) (hts : ∀ i ∈ ts, i ∈ vs) (h : tE K W (dDc fi g ifs fk fv vs) σ H Q) : tDc (tI K W fr fi) t (tT K WF ifs) (tE K WF fk) (tE K WF fv) vs σ H Q := by
  obtain ⟨H0, e, w, h⟩ := h
  have h : Gy K W σ H0 H e ((fi e).bind fun ds e1 => if Nat.ble ds.length 1000 = true then (cmpDA g ifs fk fv vs [] ds (wipeE e1 vs)).nox.bind fun ys e2 => .ok (.nw (.dct ys)) (unw e1 (wipeE e2 vs) vs) else .bad) fun t e' H0' H' => ∀ v, RepT K H0' H' H σ e' v t → Q v H' := h
  refine ⟨H0, e, w, ?_⟩
  cases q : fi e with
  | ex x e1 => rw [q] at h; exact h
  | bad => rw [q] at h; exact h
  | ok ds e1 =>
    rw [q] at h
    intro H01 H1 w1 a1 J sv Da hD
    have h : Gy K W σ H0 H e (if Nat.ble ds.length 1000 = true then (cmpDA g ifs fk fv vs [] ds (wipeE e1 vs)).nox.bind fun ys e2 => .ok (.nw (.dct ys)) (unw e1 (wipeE e2 vs) vs) else .bad) fun t e' H0' H' => ∀ v, RepT K H0' H' H σ e' v t → Q v H' := h
    by_cases hz : Nat.ble ds.length 1000 = true
    case neg => rw [if_neg hz] at h; exact h.elim
    rw [if_pos hz] at h
    have hz' := ble1000 hz
    cases qc : cmpDA g ifs fk fv vs [] ds (wipeE e1 vs) with
    | ex x e2 => rw [qc] at h; exact h.elim
    | bad => rw [qc] at h; exact h.elim
    | ok ys e2 =>
    rw [qc] at h
    have st1 : Step H01 H1 H01 (upd H1 Da (.dK [])) := .new w1.sub hD
    have w2 := w1.step st1
    have a2 : After K H01 H1 σ e1 H01 (upd H1 Da (.dK [])) σ e1 := .of_step st1
    have w3 : Wd K H01 (upd H1 Da (.dK [])) (wipe σ vs) (wipeE e1 vs) := wd_un w2 (wipe_length σ vs) fun j hj => wipe_get hj
    have a3 : After K H01 H1 σ e1 H01 (upd H1 Da (.dK [])) (wipe σ vs) (wipeE e1 vs) := after_un a2 fun j hj => wipe_get hj
    have nb : ∀ (j : Nat) (b : D), e1[j]? = some (Sl.bw b) → σ[j]? = some (some (V.ref Da)) → Rep K H01 (.ref Da) b := fun j b z1 z2 => by
      obtain ⟨v', z3, z4⟩ := w1.bw j b z1
      rw [z2] at z3; cases z3
      rcases z4 with z4 | ⟨c, z5, z6, _⟩
      · exact z4
      · cases z5
        obtain ⟨u, hu⟩ := z6.some
        rw [hD] at hu; cases hu
    have nbi : ∀ {H0i Hi : Hp} {σi : L2.St} {ei : En}, After K H01 H1 σ e1 H0i Hi σi ei → ∀ (j : Nat) (b : D), ei[j]? = some (Sl.bw b) → σi[j]? = some (some (V.ref Da)) → Rep K H0i (.ref Da) b := fun {H0i Hi σi ei} ai j b z1 z2 => by
      obtain ⟨z3, z4⟩ := ai.pinb j b z1
      exact (nb j b z4 (by rw [← z3]; exact z2)).mono ai.s0
    have no : ¬ Own (wipe σ vs) (wipeE e1 vs) Da := fun z => by
      have : ∀ b, Own (wipe σ vs) (wipeE e1 vs) b → Own σ e1 b := fun b ⟨i, p, d, z1, z2⟩ => by
        by_cases hi : i ∈ vs
        · cases wipeE_in hi z1
        · rw [wipeE_get hi] at z1; rw [wipe_get hi] at z2; exact ⟨i, p, d, z1, z2⟩
      obtain ⟨d, z⟩ := w1.own_some (this _ z)
      obtain ⟨u, hu⟩ := z.some
      rw [hD] at hu; cases hu
    refine ⟨fun i m Hi => m = ds.length - i ∧ i ≤ ds.length ∧ ∃ H0i ei acc accV, Wd K H0i Hi (wipe σ vs) ei ∧ After K H01 H1 σ e1 H0i Hi (wipe σ vs) ei ∧ Hi Da = some (.dK accV) ∧ RepK K H0i accV acc ∧ H0i Da = none ∧ ¬ Own (wipe σ vs) ei Da ∧ acc.length ≤ i ∧
      cmpDA g ifs fk fv vs acc (ds.drop i) ei = .ok ys e2,
      ⟨ds.length, by simp, Nat.zero_le _, H01, wipeE e1 vs, [], [], w3, a3, upd_same, .nil, w1.sub.free hD, no, Nat.zero_le _, qc⟩, ?_⟩
    rintro i m Hi ⟨rfl, hle, H0i, ei, acc, accV, wi, ai, hDi, ri, ni, noi, li, qi⟩
    obtain ⟨s1, s2⟩ := sv i H0i Hi (wipe σ vs) ei wi ai
    by_cases hlt : i < ds.length
    · have hd : ds[i]? = some ds[i] := List.getElem?_eq_getElem hlt
      obtain ⟨go, y⟩ := s2 _ hd
      rw [List.drop_eq_getElem_cons hlt] at qi
      unfold cmpDA at qi
      refine .inr ⟨go, _, fun H' z => ⟨ds.length - (i + 1), by omega, rfl, hlt, z⟩, fun x H3 yl => ?_⟩
      obtain ⟨H03, st, yt⟩ := y x H3 yl
      cases z : g ds[i] ei with
      | none => rw [z] at qi; cases qi
      | some e3 =>
        rw [z] at qi
        have w4 := wi.step st
        have a4 : After K H0i Hi (wipe σ vs) ei H03 H3 (wipe σ vs) ei := .of_step st
        refine hg x _ H03 H3 _ ei e3 H0i Hi _ ei _ w4 a4 yt z fun σ5 w5 a5 k5 l5 => ?_
        have hk5 : ∀ j, j ∉ vs → σ5[j]? = (wipe σ vs)[j]? := fun j hj => k5 j fun z => hj (hts j z)
        have l5' : σ5.length = σ.length := by rw [l5, wipe_length]
        have back : ∀ j, j ∉ vs → (wipe σ vs)[j]? = σ5[j]? := fun j hj => (hk5 j hj).symm
        have own_un : ∀ {ex : En} {b : Addr}, Own (wipe σ vs) (wipeE ex vs) b → Own σ5 ex b := fun {ex b} ⟨j, p, d, z1, z2⟩ => by
          by_cases hj : j ∈ vs
          · cases wipeE_in hj z1
          · rw [wipeE_get hj] at z1; rw [back j hj] at z2; exact ⟨j, p, d, z1, z2⟩
        refine ⟨wipe_eq l5' fun j hj => by rw [hk5 j hj, wipe_get hj], tT_n w5 qi fun k e6 H06 H6 w6 a6 q6 => ?_⟩
        have a6' := a5.trans a6
        have nD6 : ¬ Own σ5 e6 Da := a6'.nown hDi noi
        have hD6 : H6 Da = some (.dK accV) := a6'.keep _ _ hDi noi
        have n6 : H06 Da = none := a6'.off _ _ hDi ni noi
        cases k with
        | false =>
          rw [if_neg Bool.false_ne_true]
          exact ⟨H06, wipeE e6 vs, acc, accV, wd_un w6 (by rw [wipe_length, l5']) back, after_un (ai.trans a6') back, hD6, ri.mono a6'.s0, n6, fun z => nD6 (own_un z), Nat.le_succ_of_le li, q6⟩
        | true =>
          rw [if_pos rfl]
          refine tE_n w6 q6 fun t7 e7 v H07 H7 w7 a7 r7 q7 => ?_
          obtain ⟨H07b, w7b, a7b, s7, r7b⟩ := RepT.fr w7 a7 r7
          refine tE_n w7b q7 fun t8 e8 u H08 H8 w8 a8 r8 q8 => ?_
          cases z8 : frzT t8 e8 with
          | bad => rw [z8] at q8; cases q8
          | ex _ _ => rw [z8] at q8; cases q8
          | ok y e9 =>
            rw [z8] at q8
            obtain ⟨H09, w9, a9, r9⟩ := frzT_ok w8 a8 r8 z8
            have q8 : (match look e9 t7.fr with
              | some kd => (match toKey kd with
                | some k => cmpDA g ifs fk fv vs (dputD acc k y) (ds.drop (i + 1)) (wipeE e9 vs)
                | none => .bad)
              | none => .bad) = Rz.ok ys e2 := q8
            cases z9 : look e9 t7.fr with
            | none => rw [z9] at q8; cases q8
            | some kd =>
              rw [z9] at q8
              have q8 : (match toKey kd with
                | some k => cmpDA g ifs fk fv vs (dputD acc k y) (ds.drop (i + 1)) (wipeE e9 vs)
                | none => .bad) = Rz.ok ys e2 := q8
              cases z10 : toKey kd with
              | none => rw [z10] at q8; cases q8
              | some kk =>
                rw [z10] at q8
                have a9' := a6'.trans (a7b.trans a9)
                have ek := (look_ok w9 (r7b.mono a9.s0) z9).key z10
                have hD9 : H8 Da = some (.dK accV) := a9'.keep _ _ hDi noi
                have n9 : H09 Da = none := a9'.off _ _ hDi ni noi
                have nD9 : ¬ Own σ5 e9 Da := a9'.nown hDi noi
                have rr : RepK K H09 (putK accV kk u) (dputD acc kk y) := RepK.put r9 (ri.mono a9'.s0)
                have a9'' := ai.trans a9'
                refine ⟨accV, kk, ek, hD9, by rw [ri.length]; omega, H09, wipeE e9 vs, dputD acc kk y, putK accV kk u, ?_, ?_, upd_same, rr, n9, fun z => nD9 (own_un z), Nat.le_trans (dputD_len _ _ _) (Nat.succ_le_succ li), q8⟩
                · exact wd_un (wd_writeD w9 hD9 n9 nD9 (nbi a9'')) (by rw [wipe_length, l5']) back
                · exact after_un (after_write a9'' hD) back
    · have z : i = ds.length := by omega
      subst z
      rw [List.drop_length] at qi
      unfold cmpDA at qi
      cases qi
      have wb : Wd K H0i Hi σ (wipeE e2 vs) := wd_un wi (wipe_length σ vs).symm fun j hj => (wipe_get hj).symm
      have ab : After K H01 H1 σ e1 H0i Hi σ (wipeE e2 vs) := after_un ai fun j hj => (wipe_get hj).symm
      obtain ⟨wc, ac, oc, bc⟩ := unw_wd (e := e1) (us := vs) wb (a1.trans ab) (fun j hj s => fun z => .inr (wipeE_in hj z)) fun j d z => by
        obtain ⟨v, z1, z2⟩ := w1.fz j d z
        exact ⟨v, z1, z2.mono ab.s0⟩
      refine .inl ⟨s1 rfl, h H0i Hi wc ac (.ref Da) ⟨Da, rfl, ?_, fun z => noi ?_, ⟨ni, accV, hDi, ri⟩, fun j b z1 z2 => ?_⟩⟩
      · cases z : H Da with
        | none => rfl
        | some o =>
          obtain ⟨o', z'⟩ := a1.thr _ _ z
          rw [hD] at z'; cases z'
      · obtain ⟨j, p, d, z1, z2⟩ := oc _ z
        by_cases hj : j ∈ vs
        · cases wipeE_in hj z1
        · rw [wipeE_get hj] at z1; exact ⟨j, p, d, z1, by rw [wipe_get hj]; exact z2⟩
      · exact nbi ab j b (bc j b z1) z2
end
section
variable {X : Cx} {W : WX} {fr : Bool} {fi : Fi} {t : TG} {g : D → En → Option En} {fifs : Ft} {fk fv fa : Fe} {ts : List Nat} {kx vx tg iter a : Expr} {ifs : List Expr} {scope : Scope} {own : List (Str × Nat)} {pos p p2 pos2 : Pos}
theorem ve_dc (hc : X.calm = true) (hN : X.N.Nodup) (ok : BlkOk X.N X.env.scope scope own) (hi : VI X W fr tg iter fi) (ht : TgOk X.K fr ts t g)
    (hg : ∀ (s : Shared) (H : Hp) (C : Addr) (cl : List (Str × Addr)) (fp : List Addr), PG (X.blk s H scope (compEnvC scope cl C X.env) fp) tg t)
    (hf : ∀ (s : Shared) (H : Hp) (C : Addr) (cl : List (Str × Addr)) (fp : List Addr), VIfs (X.blk s H scope (compEnvC scope cl C X.env) fp) WF ifs fifs)
    (hk : ∀ (s : Shared) (H : Hp) (C : Addr) (cl : List (Str × Addr)) (fp : List Addr), VE (X.blk s H scope (compEnvC scope cl C X.env) fp) WF kx fk)
    (he : ∀ (s : Shared) (H : Hp) (C : Addr) (cl : List (Str × Addr)) (fp : List Addr), VE (X.blk s H scope (compEnvC scope cl C X.env) fp) WF vx fv) (hts : ∀ i ∈ ts, i ∈ own.map (·.2) := by decide) (hs : ∀ x, foldedSetIterable iter X.env x = pure x := by intro _; rfl) :
    VE X W (.DictComp kx vx [⟨tg, iter, ifs, 0⟩] scope pos) (dDc fi g fifs fk fv (own.map (·.2))) :=
  pe_imp (pe_dc (wi := tI X.K W fr fi) (tt := tT X.K WF fifs) (tk := tE X.K WF fk) (tv := tE X.K WF fv) hc hN hi ok hg hf hk he hs) fun σ H Q h => imp_dc ht hts h
/-! ### list(range(n)) -/
def rgD : D → Option Tg
  | .int n => if (decide (0 ≤ n) && decide (n ≤ 1000)) = true then some (.nw (.lst (upto 0 n.toNat))) else none
  | _ => none
theorem rgV_ints (n : Int) : rgV 0 n = ((List.range n.toNat).map fun (k : Nat) => (0 : Int) + (k : Int)).map V.int := by
  unfold rgV
  rw [List.map_map, Int.sub_zero]
  rfl
theorem upto_ints (n : Nat) : upto 0 n = ((List.range n).map fun (k : Nat) => (0 : Int) + (k : Int)).map D.int := by
  unfold upto
  rw [List.map_map]
  rfl
theorem ve_listRg (hmL : X.mg "list" = none) (hmR : X.mg "range" = none) (ha : VE X W a fa) (hc : X.calm = true := by rfl) (hgL : Gl X "list" := by rfl) (hgR : Gl X "range" := by rfl) (na : starEach [a] X.env = (false, eval a X.env) :: starEach [] X.env := by rfl)
    (nb : starEach [.Call (.Name "range" p2) [a] [] pos2] X.env = (false, eval (.Call (.Name "range" p2) [a] [] pos2) X.env) :: starEach [] X.env := by rfl) :
    VE X W (.Call (.Name "list" p) [.Call (.Name "range" p2) [a] [] pos2] [] pos) (dUn rgD fa) := by
  refine pe_imp (pe_listRg hc hgL hmL (prg_1 hgR hmR ha na) nb) fun σ H Q ⟨H0, e, w, h⟩ => ?_
  refine tE_then w h fun t1 e1 v1 H01 H1 q1 w1 a1 r1 h1 => ?_
  obtain ⟨H02, d, t, sm, o, eq, g⟩ := fin1_of w1 a1 r1 h1
  cases d with
  | int n =>
    have eq2 : (if (decide (0 ≤ n) && decide (n ≤ 1000)) = true then some (Tg.nw (.lst (upto 0 n.toNat))) else none) = some t := eq
    by_cases hz : (decide (0 ≤ n) && decide (n ≤ 1000)) = true
    · rw [if_pos hz] at eq2
      cases eq2
      obtain ⟨z1, z2⟩ := and2 hz
      have z1 := of_decide_eq_true z1
      have z2 := of_decide_eq_true z2
      refine ⟨n, o.int, .of_le (by omega) (by omega) (by omega) z1, fun q hq => gives_lst sm g hq ?_⟩
      rw [rgV_ints, upto_ints]
      exact Reps.of_ints _
    · rw [if_neg hz] at eq2; cases eq2
  | _ => cases eq
end
end VL

/-! VLu: sorted of lists and tuples of ints or texts. -/
namespace VL
open PySem PySem.Spec L2

def insB {α : Type} (le : α → α → Bool) (a : α) : List α → List α
  | [] => [a]
  | b :: bs => if le a b = true then a :: b :: bs else b :: insB le a bs
def isort {α : Type} (le : α → α → Bool) : List α → List α
  | [] => []
  | a :: as => insB le a (isort le as)
section
variable {α : Type} {le : α → α → Bool}
theorem insB_perm (a : α) : ∀ bs : List α, (insB le a bs).Perm (a :: bs)
  | [] => .refl _
  | b :: bs => by
    unfold insB
    split
    · exact .refl _
    · exact ((insB_perm a bs).cons b).trans (.swap a b bs)
theorem isort_perm : ∀ as : List α, (isort le as).Perm as
  | [] => .refl _
  | a :: as => (insB_perm a _).trans ((isort_perm as).cons a)
theorem insB_sorted (tot : ∀ a b, le a b = true ∨ le b a = true) (tr : ∀ a b c, le a b = true → le b c = true → le a c = true) (a : α) : ∀ {bs : List α}, bs.Pairwise (fun x y => le x y = true) → (insB le a bs).Pairwise fun x y => le x y = true
  | [], _ => List.pairwise_singleton _ _
  | b :: bs, h => by
    unfold insB
    rw [List.pairwise_cons] at h
    split
    · rename_i z
      rw [List.pairwise_cons, List.pairwise_cons]
      refine ⟨fun y hy => ?_, h.1, h.2⟩
      rcases List.mem_cons.mp hy with rfl | hy
      · exact z
      · exact tr _ _ _ z (h.1 y hy)
    · rename_i z
      rw [List.pairwise_cons]
      refine ⟨fun y hy => ?_, insB_sorted tot tr a h.2⟩
      rcases List.mem_cons.mp ((insB_perm a bs).mem_iff.mp hy) with rfl | hy
      · exact (tot b y).resolve_right z
      · exact h.1 y hy
theorem isort_sorted (tot : ∀ a b, le a b = true ∨ le b a = true) (tr : ∀ a b c, le a b = true → le b c = true → le a c = true) : ∀ as : List α, (isort le as).Pairwise fun x y => le x y = true
  | [] => .nil
  | a :: as => insB_sorted tot tr a (isort_sorted tot tr as)
theorem isort_eq (tot : ∀ a b, le a b = true ∨ le b a = true) (tr : ∀ a b c, le a b = true → le b c = true → le a c = true) (anti : ∀ a b, le a b = true → le b a = true → a = b) (as : List α) : as.mergeSort le = isort le as := by
  have h1 := List.pairwise_mergeSort (le := le) (fun a b c => tr a b c) (fun a b => by rcases tot a b with z | z <;> simp [z]) as
  have h2 := isort_sorted tot tr as
  exact ((List.mergeSort_perm as le).trans (isort_perm as).symm).eq_of_pairwise (fun a b _ _ => anti a b) h1 h2
end
def leI (a b : Int) : Bool := decide (a ≤ b)
def leN : List Nat → List Nat → Bool
  | [], _ => true
  | _ :: _, [] => false
  | a :: as, b :: bs => if a < b then true else if a = b then leN as bs else false
def leS (a b : Str) : Bool := leN a.cps.toList b.cps.toList
theorem leN_eq : ∀ a b : List Nat, leN a b = decide (a ≤ b)
  | [], b => by simp [leN]
  | a :: as, [] => by simp [leN]
  | a :: as, b :: bs => by
    unfold leN
    rw [leN_eq as bs]
    by_cases h1 : a < b
    · rw [if_pos h1]
      exact (decide_eq_true (by rw [List.cons_le_cons_iff]; exact .inl h1)).symm
    · rw [if_neg h1]
      by_cases h2 : a = b
      · rw [if_pos h2]
        subst h2
        simp [List.cons_le_cons_iff]
      · rw [if_neg h2]
        refine (decide_eq_false fun z => ?_).symm
        rw [List.cons_le_cons_iff] at z
        rcases z with z | ⟨z, _⟩
        · exact h1 z
        · exact h2 z
theorem leS_eq (a b : Str) : leS a b = decide (a.cps.toList ≤ b.cps.toList) := leN_eq _ _
def sortedD (d : D) : Option Tg := match itemsD d with
  | some ds => (match intsOf ds with
    | some ns => some (.nw (.lst ((isort leI ns).map D.int)))
    | none => (match strsOf ds with
      | some ss => some (.nw (.lst ((isort leS ss).map D.str)))
      | none => none))
  | none => none
section
variable {prog : Program} {w : World} {A : Around} {E : Value → Shared → Prop} {s : Shared} {β : Type} {R : Value → β → Prop} {enc : β → PyData}
open PyProof.Rows PySem.W in
/-- sorted of a list or a tuple whose items read as data -/
theorem sorted_any {l : Addr} {o : Obj} {n : Nat} {T : String} {vs : List Value} {bs : List β} {Q : Value → Shared → Prop} (hT : T = "list" ∨ T = "tuple") (ho : s.heap.get? l = some o) (hc : o.cls = .type T) (hd : o.data = .seq vs.toArray n) (hz : vs.length ≤ sizeLine)
    (e : EachIs R vs bs) (er : EachIs (fun v b => ∃ as, Reads s.heap v (enc b) as) vs bs) (hal : AllAlike (bs.map enc)) (hk : Sortable (bs.map enc)) (hu : ∀ b, b ∈ bs → A.units + 2 + (enc b).depth < cLine)
    (h : ∀ (out : List Value) (a : Addr) (h1 h' : Heap) (ep : Nat), EachIs R out (bs.mergeSort (dataLe false enc)) → (∀ b o', s.heap.get? b = some o' → h1.get? b = some o') → h1.objs.size ≤ a → (∀ b o', h1.get? b = some o' → h'.get? b = some o') → h'.get? a = some (seqObj "list" out.toArray ep) → Q (.ref a) { s with heap := h' }) :
    wpAny (model prog w) A (call (.builtin "sorted") [.ref l]) Q E s := by
  refine Calls.call_function_entry kind_sorted plain_sorted entry_sorted (args_sorted1 _) ?_
  unfold Builtin.«sorted»
  refine wpAny_bind (m := checkCount "sorted" 1 1 _) (wpAny_pure ?_)
  refine wpAny_bind (wpAny_collect_seq l hT ho hc hd (fun h1 k1 => ?_) (by simpa using hz))
  refine wpAny_bind (wpAny_newList ?_ (by simpa using hz))
  have ev : vs.toArray.toList = vs := by simp
  rw [ev]
  have hL : (h1.push (seqObj "list" vs.toArray 0)).get? h1.objs.size = some (seqObj "list" vs.toArray 0) := Heap.get?_push_size _ rfl
  show wpAny _ _ _ _ _ { s with heap := h1.push (seqObj "list" vs.toArray 0) }
  refine wpAny_bind (wpAny_holding (wpAny_call_entry slot_list_sort ⟨_, hL, rfl⟩ entry_list_sort ?body (args_list_sort _)))
  case body =>
    have old : ∀ b o', s.heap.get? b = some o' → (sortingHeap (h1.push (seqObj "list" vs.toArray 0)) h1.objs.size vs).get? b = some o' := fun b o' q =>
      sortingHeap_old (Nat.ne_of_lt (Heap.lt_size (k1 b o' q))) (Heap.get?_push_of_some _ (k1 b o' q))
    refine list_sort_vals (A := A.in1.in1) (s := { s with heap := h1.push (seqObj "list" vs.toArray 0) }) hL (SortsAt.data (A := A.in1.in1) (s := { s with heap := sortingHeap (h1.push (seqObj "list" vs.toArray 0)) h1.objs.size vs }) (each_map (R := fun v d => ∃ as, Reads (sortingHeap (h1.push (seqObj "list" vs.toArray 0)) h1.objs.size vs) v d as) enc (er.mono fun _ _ ⟨as, r⟩ => ⟨as, Reads.keeps old r⟩)) hal hk (bound_map hu)) hz ?_
    refine ⟨_, rfl, wpAny_pure ⟨_, rfl, ?_⟩⟩
    obtain ⟨ep, hep⟩ := sortedHeap_at (vs := vs) (out := (sortVals (dataKind (sortingHeap (h1.push (seqObj "list" vs.toArray 0)) h1.objs.size vs) (bs.map enc)) false vs vs).toArray) hL
    refine h _ h1.objs.size h1 _ ep (sortVals_data false e (er.mono fun _ _ ⟨as, r⟩ => ⟨as, Reads.keeps old r⟩) hal) k1 (Nat.le_refl _) (fun b o' q => ?_) hep
    have hb := Heap.lt_size q
    rw [sortedHeap_old (Nat.ne_of_lt hb) (Heap.lt_size (Heap.get?_push_of_some _ q))]
    exact Heap.get?_push_of_some _ q
end
theorem leI_sort (ns : List Int) : ns.mergeSort (PySem.W.dataLe false PyData.int) = isort leI ns := by
  rw [show (PySem.W.dataLe false PyData.int) = leI from PySem.W.dataLe_int fun i => i]
  exact isort_eq (fun a b => by unfold leI; simp only [decide_eq_true_eq]; omega) (fun a b c h1 h2 => by unfold leI at *; simp only [decide_eq_true_eq] at *; omega) (fun a b h1 h2 => by unfold leI at *; simp only [decide_eq_true_eq] at *; omega) ns
theorem leS_sort (ss : List Str) : ss.mergeSort (PySem.W.dataLe false PyData.str) = isort leS ss := by
  have e : (PySem.W.dataLe false PyData.str) = leS := by
    rw [PySem.W.dataLe_str fun i => i]
    funext a b
    exact (leS_eq a b).symm
  rw [e]
  refine isort_eq (fun a b => ?_) (fun a b c h1 h2 => ?_) (fun a b h1 h2 => ?_) ss
  · rw [leS_eq, leS_eq]; simp only [decide_eq_true_eq]; exact List.le_total _ _
  · rw [leS_eq] at *; simp only [decide_eq_true_eq] at *; exact List.le_trans h1 h2
  · rw [leS_eq] at *; simp only [decide_eq_true_eq] at *
    have := List.le_antisymm h1 h2
    obtain ⟨⟨a⟩⟩ := a
    obtain ⟨⟨b⟩⟩ := b
    simp at this
    rw [this]
section
variable {X : Cx} {k : Nat}
theorem Opd.items2 {H0 H : Hp} {v : V} {d : D} {ds : List D} {pins : List (Addr × Obj)} {σ : L2.St} {s : Shared} {u : Value} (I : Inv X pins σ H s) (sm : Same H0 H) (o : Opd X.K H0 H v d) (ru : RelV v u) (h : itemsD d = some ds) :
    ∃ a vs its ob n T, u = .ref a ∧ Reps X.K H0 vs ds ∧ Vals vs its ∧ its.length ≤ sizeLine ∧ (T = "list" ∨ T = "tuple") ∧ s.heap.get? a = some ob ∧ ob.cls = .type T ∧ ob.data = .seq its.toArray n := by
  obtain ⟨a, vs, rfl, r, sq⟩ := o.items sm h
  cases ru
  rcases sq with sq | sq
  · obtain ⟨its, rv, ⟨ob, n, h1, h2, _, h3⟩, hz⟩ := I.list sq
    exact ⟨a, vs, its, ob, n, "list", rfl, r, rv, by rw [← rv.length]; exact hz, .inl rfl, h1, h2, h3⟩
  · obtain ⟨its, rv, ⟨ob, h1, h2, n, h3⟩, hz⟩ := I.tuple sq
    exact ⟨a, vs, its, ob, n, "tuple", rfl, r, rv, by rw [← rv.length]; exact hz, .inr rfl, h1, h2, h3⟩
theorem each_vals {β : Type} {f : β → V} : ∀ {vs : List Value} {bs : List β}, Vals (bs.map f) vs → PySem.W.EachIs (fun v b => RelV (f b) v) vs bs
  | [], [], _ => .nil
  | v :: vs, b :: bs, h => by cases h with | cons h t => exact .cons h (each_vals t)
  | [], _ :: _, h => by cases h
  | _ :: _, [], h => by cases h
theorem vals_each {β : Type} {f : β → V} : ∀ {vs : List Value} {bs : List β}, PySem.W.EachIs (fun v b => RelV (f b) v) vs bs → Vals (bs.map f) vs
  | _, _, .nil => .nil
  | _, _, .cons h t => .cons h (vals_each t)
theorem cr_sortedD (hr : Room k X.A) : CallR X (.builtin "sorted") (rDs X.K (f1 sortedD)) := by
  intro pins s σ H xs us Q I rv h
  obtain ⟨H0, v, a, t, rfl, sm, o, e, g⟩ := rds1 h
  obtain ⟨u, rfl, ru⟩ := vals1 rv
  unfold sortedD at e
  cases q1 : itemsD a with
  | none => simp only [q1] at e; cases e
  | some ds =>
    simp only [q1] at e
    obtain ⟨ad, vs, its, ob, n, T, rfl, r, rv', hz, hT, ho, hc, hd⟩ := o.items2 I sm ru q1
    have hu : ∀ (d : PyData), d.depth = 0 → X.A.units + 2 + d.depth < cLine := fun d h => by have := hr.un; omega
    have lay : ∀ (xs : List V) (out : List Value) (a : Addr) (h1 h' : Heap) (ep : Nat), Vals xs out → xs.length ≤ sizeLine → (∀ b o', s.heap.get? b = some o' → h1.get? b = some o') → h1.objs.size ≤ a → (∀ b o', h1.get? b = some o' → h'.get? b = some o') →
        h'.get? a = some (PyProof.Rows.seqObj "list" out.toArray ep) → (H a = none → Q (.ref a) (upd H a (.lst xs))) → EP X pins σ Q (.ref a) { s with heap := h' } := fun xs out a h1 h' ep r1 z1 k1 l1 k2 e2 q => by
      have I1 : Inv X pins σ H { s with heap := h1 } := I.kept (t' := s.toks) k1
      exact ⟨.ref a, _, I1.laid (t' := s.toks) k2 l1 (show ObjOk X.prog X.w _ h' a (.lst xs) from ⟨z1, out, ep, r1, e2⟩), rfl, q (I1.hok.fresh l1)⟩
    cases q2 : intsOf ds with
    | some ns =>
      simp only [q2] at e
      cases e
      rw [intsOf_eq q2] at r
      have ev := r.ints
      subst ev
      have ei := each_vals rv'
      have hn : ns.length ≤ sizeLine := by have := rv'.length; rw [List.length_map] at this; omega
      refine sorted_any (bs := ns) (enc := PyData.int) hT ho hc hd hz ei (ei.mono fun v b rv => by obtain ⟨t, rfl⟩ := rv; exact ⟨[], .int b t⟩) (PySem.W.AllAlike.of fun _ _ => rfl) (PySem.W.Sortable.others fun b => ⟨fun z => (nomatch z), fun xs z => (nomatch z)⟩) (fun b _ => hu _ (by rw [PyData.depth])) fun out a h1 h' ep eo k1 l1 k2 e2 => ?_
      rw [leI_sort] at eo
      exact lay _ out a h1 h' ep (vals_each eo) (by rw [List.length_map, (isort_perm ns).length_eq]; exact hn) k1 l1 k2 e2 fun hn => gives_lst sm g hn (Reps.of_ints _)
    | none =>
      simp only [q2] at e
      cases q3 : strsOf ds with
      | none => simp only [q3] at e; cases e
      | some ss =>
        simp only [q3] at e
        cases e
        rw [strsOf_eq q3] at r
        have ev := r.strs
        subst ev
        have ei := each_vals rv'
        have hn : ss.length ≤ sizeLine := by have := rv'.length; rw [List.length_map] at this; omega
        refine sorted_any (bs := ss) (enc := PyData.str) hT ho hc hd hz ei (ei.mono fun v b rv => by obtain ⟨t, rfl⟩ := rv; exact ⟨[], .str b t⟩) (PySem.W.AllAlike.of fun _ _ => rfl) (PySem.W.Sortable.others fun b => ⟨fun z => (nomatch z), fun xs z => (nomatch z)⟩) (fun b _ => hu _ (by rw [PyData.depth])) fun out a h1 h' ep eo k1 l1 k2 e2 => ?_
        rw [leS_sort] at eo
        exact lay _ out a h1 h' ep (vals_each eo) (by rw [List.length_map, (isort_perm ss).length_eq]; exact hn) k1 l1 k2 e2 fun hn => gives_lst sm g hn (Reps.of_strs _)
end
end VL

/-! VLv: own error classes as the head tells them. -/
namespace VL
open PySem PySem.Spec L2

/-! ### the class of an own error -/
def oexIn (K : PySem.W.Frag) (C : Addr) : Bool := match K.lookup C with
  | some ⟨.type "type", _, .cls cd, sl⟩ => (match cd.mro, sl.toList with
    | .ref C' :: bm, [_, _, _, _, some (.builtin n), _] => C' == C && (n == "ValueError.__new__" && (!cd.hasDel && (cd.hasDict && PySem.HandSPX.refsVE bm)))
    | _, _ => false)
  | _ => false
theorem oex_of {K : PySem.W.Frag} {C : Addr} (q : oexIn K C = true) : ∃ nm q N bs bm sn sub ab col dd k0 k1 k2 k3 k5, K.lookup C = some (excClassObj nm q C N bs bm true sn sub ab col dd k0 k1 k2 k3 k5 "ValueError.__new__") ∧ PySem.HandSPX.refsVE bm = true := by
  unfold oexIn at q
  split at q
  · rename_i dd cd sl ho
    split at q
    · rename_i C' bm k0 k1 k2 k3 n k5 hm hs
      simp only [Bool.and_eq_true, beq_iff_eq, Bool.not_eq_true'] at q
      obtain ⟨rfl, rfl, hdel, hdict, ht⟩ := q
      obtain ⟨nm, bs, mro, ns, qn, hd, sn, sub, ab, col, del⟩ := cd
      dsimp only at hm hdel hdict
      subst hm hdel hdict
      have hsl : sl = #[k0, k1, k2, k3, some (.builtin "ValueError.__new__"), k5] := by
        obtain ⟨l⟩ := sl
        simp only at hs
        rw [hs]
      subst hsl
      exact ⟨nm, qn, ns, bs, bm, sn, sub, ab, col, dd, k0, k1, k2, k3, k5, ho, ht⟩
    · cases q
  · cases q
/-- what the head is asked of an own error -/
def xbB (K : PySem.W.Frag) (x : Str) (fl : List Str) : Bool := oexIn K (He.ga K x) && (decide (PySem.W.findIn K (.ref (He.ga K x)) "__setattr__" = some (some (.builtin "object.__setattr__"))) && (decide (PySem.W.subIn K (.ref (He.ga K x)) (.type "BaseException") = some true) &&
  (decide (PySem.W.typeIn K (.ref (He.ga K x)) = some (.type "type")) && (PySem.W.keepIn K (.ref (He.ga K x)) && (decide (PySem.W.findIn K (.ref (He.ga K x)) "__init__" = some (some (.ref (He.ma K (He.ga K x) "__init__")))) &&
  (decide (PySem.W.typeIn K (.ref (He.ma K (He.ga K x) "__init__")) = some (.type "function")) && (xfB K (He.ga K x) && fl.all fun f => decide (PySem.W.findIn K (.ref (He.ga K x)) f = some none))))))))
structure XB (K : PySem.W.Frag) (x : Str) (fl : List Str) : Prop where
  oex : OexC K (He.ga K x)
  init : PySem.W.findIn K (.ref (He.ga K x)) "__init__" = some (some (.ref (He.ma K (He.ga K x) "__init__")))
  ty : PySem.W.typeIn K (.ref (He.ma K (He.ga K x) "__init__")) = some (.type "function")
  xf : XfC K (He.ga K x)
  no : ∀ f ∈ fl, PySem.W.findIn K (.ref (He.ga K x)) f = some none
theorem xb_of {K : PySem.W.Frag} {x : Str} {fl : List Str} (h : xbB K x fl = true) : XB K x fl := by
  unfold xbB at h
  simp only [Bool.and_eq_true, decide_eq_true_eq, List.all_eq_true] at h
  obtain ⟨h1, h2, h3, h4, h5, h6, h7, h8, h9⟩ := h
  exact ⟨⟨oex_of h1, h2, h3, h4, h5⟩, h6, h7, xfB_ok h8, fun f hf => h9 f hf⟩
/-- an own error class whose __init__ stores its fields -/
structure RX (P : Program) (w : World) (K : PySem.W.Frag) (mg : Str → Option Value) (base : Heap) (x : Str) (fl : List Str) (n : Nat) (sp : Sp) : Prop where
  b : XB K x fl
  g : mg x = some (.ref (He.ga K x))
  f : ∃ fd ps, FnOk P w K mg base (L2.CX P w) 1 (He.ma K (He.ga K x) "__init__") fd ps sp ∧ Binds K fd ps [] ∧ ps.length = n
section
variable {P : Program} {w : World} {K : PySem.W.Frag} {mg : Str → Option Value} {base : Heap} {x : Str} {n1 n2 : Str} {st : Stmt} {q a0 a1 a2 : Str}
theorem RX.of1 (b : XB K x [n1]) (g : mg x = some (.ref (He.ga K x))) (D : DM K x "__init__" q st) (S : FnScope [a0, a1] [a0, a1] (defScope st))
    (hbi : ∀ (kV doc pm : Value) (an : Option Addr) (cdv ct : Value) (us : List Value), us.length = [a0, a1].length → bindArgs (PySem.W.fnOf "__init__" q (defArgs st) (defBody st) (defScope st) .none kV doc pm an cdv ct) ⟨us, []⟩ = pure ([a0, a1].zip us))
    (hb : ∀ (X : Cx) (cdv : Value) (A : Around) (outer : List Env) (s : Shared) (H : Hp) (vs : List V) (Q : VK) (E : XK) {f : Addr}, X = cxOf (L2.CX P w) P w K mg base [a0, a1] q (defScope st) f cdv A outer s H E → exS1 n1 X.K vs H Q E →
      ∃ t, PSs X (defBody st) t ∧ t { nx := fun _ H' => Q .non H', rt := Q } (L2.start [a0, a1] vs) H) : RX P w K mg base x [n1] 2 (exS1 n1 K) := by
  obtain ⟨fd, F⟩ := D.ex
  refine ⟨b, g, fd, [a0, a1], F.ok S (fun vs H Q E h => ?_) fun cdv A outer s H vs Q E hr h => hb _ cdv A outer s H vs Q E rfl h, FunD.bindsN F hbi, rfl⟩
  obtain ⟨a, C, y, rfl, _⟩ := h
  rfl
theorem RX.of2 (b : XB K x [n1, n2]) (g : mg x = some (.ref (He.ga K x))) (D : DM K x "__init__" q st) (S : FnScope [a0, a1, a2] [a0, a1, a2] (defScope st))
    (hbi : ∀ (kV doc pm : Value) (an : Option Addr) (cdv ct : Value) (us : List Value), us.length = [a0, a1, a2].length → bindArgs (PySem.W.fnOf "__init__" q (defArgs st) (defBody st) (defScope st) .none kV doc pm an cdv ct) ⟨us, []⟩ = pure ([a0, a1, a2].zip us))
    (hb : ∀ (X : Cx) (cdv : Value) (A : Around) (outer : List Env) (s : Shared) (H : Hp) (vs : List V) (Q : VK) (E : XK) {f : Addr}, X = cxOf (L2.CX P w) P w K mg base [a0, a1, a2] q (defScope st) f cdv A outer s H E → exS2 n1 n2 X.K vs H Q E →
      ∃ t, PSs X (defBody st) t ∧ t { nx := fun _ H' => Q .non H', rt := Q } (L2.start [a0, a1, a2] vs) H) : RX P w K mg base x [n1, n2] 3 (exS2 n1 n2 K) := by
  obtain ⟨fd, F⟩ := D.ex
  refine ⟨b, g, fd, [a0, a1, a2], F.ok S (fun vs H Q E h => ?_) fun cdv A outer s H vs Q E hr h => hb _ cdv A outer s H vs Q E rfl h, FunD.bindsN F hbi, rfl⟩
  obtain ⟨a, C, y, z, rfl, _⟩ := h
  rfl
end
theorem pass00 {X : Cx} : Passes (L2.CX X.prog X.w) X (fun _ _ _ => False) := fun _ _ _ _ _ _ _ ⟨_, _, _, _, _, _, _, _, _, _, _, _, h⟩ => h.elim
section
variable {X : Cx} {W : WX} {x : Str} {a b : Expr} {fv : Fv} {p p2 pos : Pos} {k : Nat} {n1 n2 : Str}
theorem RX.vs1 (R : RX X.prog X.w X.K X.mg X.base x [n1] 2 (exS1 n1 X.K)) (hr : Room (k + 2) X.A) (tk : Takes X W) (ha : VV X W [a] fv) (hc : X.calm = true := by rfl) (hg : Gl X x := by rfl)
    (hdb : (x == ("__debug__" : Str)) = false := by decide) (he : starEach [a] X.env = (false, eval a X.env) :: starEach [] X.env := by rfl) :
    VS X W (.Raise (some (.Call (.Name x p) [a] [] pos)) none p2) (sRaise x [n1] fv) := by
  obtain ⟨fd, ps, h1, h2, _⟩ := R.f
  exact vs_raise1 hc tk R.b.oex R.b.init R.b.ty (R.b.no n1 (List.mem_singleton.mpr rfl)) h1 (hr.mono (by omega)) h2 pass00 hg R.g ha hdb he
theorem RX.vs2 (R : RX X.prog X.w X.K X.mg X.base x [n1, n2] 3 (exS2 n1 n2 X.K)) (hr : Room (k + 2) X.A) (tk : Takes X W) (ha : VV X W [a, b] fv) (hc : X.calm = true := by rfl) (hg : Gl X x := by rfl)
    (hdb : (x == ("__debug__" : Str)) = false := by decide) (he : starEach [a, b] X.env = (false, eval a X.env) :: starEach [b] X.env := by rfl) (hpl : (backTo pos (starEach [b] X.env)).any (·.1) = false := by rfl) :
    VS X W (.Raise (some (.Call (.Name x p) [a, b] [] pos)) none p2) (sRaise x [n1, n2] fv) := by
  obtain ⟨fd, ps, h1, h2, _⟩ := R.f
  exact vs_raise2 hc tk R.b.oex R.b.init R.b.ty (R.b.no n1 (by simp)) (R.b.no n2 (by simp)) h1 (hr.mono (by omega)) h2 pass00 hg R.g ha hdb he hpl
end
/-- the classes that the head tells the clause of -/
def exmB (K : PySem.W.Frag) (x y : Str) (b : Bool) : Bool := decide (PySem.W.exmOne K (.ref (He.ga K x)) (.ref (He.ga K y)) = some b)

theorem exm_all {K : PySem.W.Frag} {c : Value} {l : List (Str × Bool)} (h : ∀ p ∈ l, PySem.W.exmOne K (.ref (He.ga K p.1)) c = some p.2) : ∀ s b, l.lookup s = some b → PySem.W.exmOne K (.ref (He.ga K s)) c = some b := by
  intro s b q
  induction l with
  | nil => cases q
  | cons p l ih =>
    obtain ⟨k, v⟩ := p
    rw [List.lookup_cons] at q
    cases z : s == k with
    | true =>
      rw [z] at q
      cases q
      have := beq_iff_eq.mp z
      subst this
      exact h (s, b) List.mem_cons_self
    | false =>
      rw [z] at q
      exact ih (fun p hp => h p (List.mem_cons_of_mem _ hp)) q
def gOne (cn f : Str) : Er → SuR := fun x => if x.c = cn then gFld f x else .bad
section
variable {X : Cx} {W : WX} {n : Str}
theorem su_one {i : Nat} {a : Addr} {oe : Obj} {cls : Value} {d : Option Addr} {pn : List (Addr × Obj)} {fld : Str} {cn : Str} {fl : List Str} {p1 p2 p3 : Pos} (B : XB X.K cn fl) (hfl : fld ∈ fl) (hz : Zc cls d oe) (hf : ∃ vs, oe.data = .fields vs) (hi : X.N[i]? = some n) (hv : Vis X.env.scope n)
    (hd : (n == ("__debug__" : Str)) = false := by decide) (hcd : (n == ("__classdict__" : Str)) = false := by decide)
    (hb : attributeBase (.Name n p1) fld X.env (eval (.Name n p1) X.env) = eval (.Name n p1) X.env := by rfl) :
    PSs (X.suite a ((a, oe) :: pn)) [.Return (some (.Attribute (.Name n p1) fld p2)) p3] (tSu X.K i (gOne cn fld) a cls d) :=
  su_ret hz hf (fun c ⟨v, h⟩ => by
    have := List.mem_singleton.mp h
    cases this
    exact B.xf) (B.no fld hfl) hi hv (fun x hx => if_neg hx) (fun x hx => if_pos hx) hd hcd hb
/-! ### name op= value, ints -/
def intS : Option Sl → Option Int
  | some (.fz (.int i)) => some i
  | _ => none
def sAugI (i : Nat) (g : Int → Int → Int) (fa : Fe) : Fs := fun e => match intS e[i]? with
  | some a => (fa e).to fun t e1 => match look e1 t.fr with
    | some (.int b) => asg i (.fz (.int (g a b))) e1
    | _ => .bad
  | none => .bad
theorem vs_augI {op : Operator} {g : Int → Int → Int} {i : Nat} {x : Str} {a : Expr} {fa : Fe} {p2 pos : Pos} (ho : PIp X op (ipI g)) (hN : X.N.Nodup) (hi : X.N[i]? = some x) (hx : Loc X.env.scope x) (ha : VE X W a fa)
    (hf : X.fn x = true ∨ X.env.scope.names.lookup x = some .local := by first | exact .inl rfl | exact .inr rfl | assumption) : VS X W (.AugAssign (.Name x p2) op a pos) (sAugI i g fa) := by
  refine ps_imp (ps_aug hN hi hx ha ho hf) fun D σ H ⟨H0, e, w, h⟩ => ?_
  unfold sAugI at h
  cases q : e[i]? with
  | none => simp only [q, intS] at h; exact h.elim
  | some s =>
    cases s with
    | fz d =>
      cases d with
      | int k =>
        simp only [q, intS] at h
        obtain ⟨v, h1, h2⟩ := w.fz i _ q
        cases h2
        refine ⟨.int k, h1, ?_⟩
        refine tE_sf w h fun t e1 y H01 H1 w1 a1 r1 h6 => ?_
        cases q3 : look e1 t.fr with
        | none => simp only [q3] at h6; exact h6.elim
        | some dy =>
          cases dy with
          | int j =>
            simp only [q3] at h6
            have ey := (look_ok w1 r1 q3).int
            subst ey
            exact ⟨k, j, rfl, rfl, asg_of (v := .int (g k j)) w1 a1 (show RepT X.K H01 H1 H σ e1 (.int (g k j)) (.fz (.int (g k j))) from .int _) h6⟩
          | _ => simp only [q3] at h6; exact h6.elim
      | _ => simp only [q, intS] at h; exact h.elim
    | _ => simp only [q, intS] at h; exact h.elim
end
end VL

/-! VLw: the law's own call. -/
namespace VL
open PySem PySem.Spec L2

def yes1 (r : Rz Tg) : Prop := ∃ e, r = .ok (.fz (.bl true)) e
theorem Wd.scr {K : PySem.W.Frag} {H : Hp} {a : Addr} {ns : List Int} (h : SqL K H a (ns.map V.int)) : Wd K H H [some (.ref a)] [.fz (.scr ns)] where
  sub := .refl _
  len := rfl
  fz := by
    intro i d q
    match i, q with
    | 0, q => cases q; exact ⟨_, rfl, .scr h⟩
    | _ + 1, q => cases q
  ow := by
    intro i p d q
    match i, q with
    | 0, q => cases q
    | _ + 1, q => cases q
  bw := by
    intro i d q
    match i, q with
    | 0, q => cases q
    | _ + 1, q => cases q
  inj := by
    intro i j p p' d d' b q
    match i, q with
    | 0, q => cases q
    | _ + 1, q => cases q
theorem law_sp {K : PySem.W.Frag} {F : Fe} {H : Hp} {a : Addr} {ns : List Int} (h : SqL K H a (ns.map V.int)) (hF : yes1 (F [.fz (.scr ns)])) :
    spV K 1 F [.ref a] H (fun v _ => v = .bl true) fun _ _ _ => False := by
  obtain ⟨e, q⟩ := hF
  refine ⟨rfl, H, [.fz (.scr ns)], Wd.scr h, ?_⟩
  rw [q]
  intro H0' H' _ _ v r
  cases (show Rep K H0' v (.bl true) from r)
  rfl
/-- a contract over every base -/
def CA (P : Program) (w : World) (K : PySem.W.Frag) (mg : Str → Option Value) (k : Nat) (x : Str) (ps : List Str) (F : Fe) : Prop :=
  ∃ f fd, (∀ base : Heap, FnOk P w K mg base (L2.CX P w) k f fd ps (spV K ps.length F)) ∧ mg x = some (.ref f) ∧ ∀ (s : Shared) (us : List Value), us.length = ps.length → BindsTo s fd ⟨us, []⟩ (ps.zip us)
theorem CA.of {P : Program} {w : World} {K : PySem.W.Frag} {mg : Str → Option Value} {k : Nat} {x : Str} {st : Stmt} {N ps : List Str} {fs : Fs} (D : DF K mg x st) (S : FnScope N ps (defScope st))
    (hbi : ∀ (kV doc pm : Value) (an : Option Addr) (cdv ct : Value) (us : List Value), us.length = ps.length → bindArgs (PySem.W.fnOf x x (defArgs st) (defBody st) (defScope st) .none kV doc pm an cdv ct) ⟨us, []⟩ = pure (ps.zip us))
    (hb : ∀ (base : Heap) (X : Cx) (W : WX) (cdv : Value) (A : Around) (outer : List Env) (s : Shared) (H : Hp) (E : XK) {f : Addr}, X = cxOf (L2.CX P w) P w K mg base N x (defScope st) f cdv A outer s H E → Room k X.A → W = (fun c d _ H => E c d H) → Takes X W → PassesOwn (model X.prog X.w) X.A X.env X.xe → VSs X W (defBody st) fs) :
    CA P w K mg (k + 1) x ps (fnD N.length fs) := by
  obtain ⟨f, fd, F, hm⟩ := D
  refine ⟨f, fd, fun base => fn_ok F S fun X W cdv A outer s H E hX hr hW tk => ?_, hm, FunD.bindsA F hbi⟩
  subst hX
  exact hb base _ W cdv A outer s H E rfl hr hW tk (passes_of rfl)
/-- a law's end over a head by facts -/
theorem walk_ofV {l : PySem.W.OpenLaw} {n k : Nat} {q : Program} {loose : List Str} {XP : (Str → Option Value) → Heap → Prop} {YP : World → Heap → Prop} {d : DefRec} {x y : Str} {F : Fe}
    (hn : l.most = some n) (hn2 : n ≤ sizeLine) (hdf : d.params.defaults = []) (hr : Room k callerA) (hy : d.name = y)
    (hE : ∀ (w : World) (mg : Str → Option Value) (h : Heap), YP w h → h.Ns mainGlobals mg → ∃ K : PySem.W.Frag, K.In h ∧ CA l.prog w K mg k y [x] F)
    (hF : ∀ ns : List Int, ns.length ≤ n → yes1 (F [.fz (.scr ns)])) :
    PySem.W.WalkO q loose XP YP l.row.toRowW d [] (fun f vs => PySem.call f vs) := by
  refine Att.attach_call hn hdf fun w s₀ s₁ mg mb fa o pm cd doc a vs ns G Y ho hd hcd hmg hobj hints hlen hg => ?_
  obtain ⟨K, KX, f, fd, h1, h2, h4⟩ := hE w mg _ Y G.T.g
  rw [← hy, hmg] at h2
  cases h2
  exact law_call (CX := L2.CX l.prog w) (sp := spV K 1 F) (fd := fd) KX G.T.g G.T.b G.T.builtins G.T.nolimit hg hobj hints (Nat.le_trans hlen hn2) hr (fun base _ _ => h1 base) (fun s u => h4 s [u] rfl) (fun H hO hS => law_sp hS (hF ns hlen)) fun H e s' z => let ⟨_, _, _, _, _, _, _, _, _, _, _, _, z⟩ := z; z
end VL

/-! VLx: tuples and lists times a number. -/
namespace VL
open PySem PySem.Spec L2

def mulD2 : D → D → Option Tg
  | .tup xs, .int k => if (decide (2 ≤ k) && decide (k ≤ 1000) && Nat.ble 1 xs.length && Nat.ble xs.length 1000) = true then some (.fz (.tup (List.replicate k.toNat xs).flatten)) else none
  | .lst xs, .int k => if (decide (-1000 ≤ k) && decide (k ≤ 1000) && Nat.ble xs.length 1000) = true then some (.nw (.lst (List.replicate k.toNat xs).flatten)) else none
  | .int i, .int j => mulD (.int i) (.int j)
  | _, _ => none
theorem Reps.rep {K : PySem.W.Frag} {H : Hp} {vs : List V} {ds : List D} (r : Reps K H vs ds) : ∀ n : Nat, Reps K H (List.replicate n vs).flatten (List.replicate n ds).flatten
  | 0 => .nil
  | n + 1 => by
    rw [List.replicate_succ, List.replicate_succ, List.flatten_cons, List.flatten_cons]
    exact r.append (Reps.rep r n)
section
variable {X : Cx} {K : PySem.W.Frag} {H0 H : Hp}
/-- .. a new frozen tuple -/
def rTupRep (K : PySem.W.Frag) : R2 := fun x y H Q => ∃ (p : Addr) (k : Int) (vs : List V), x = .ref p ∧ y = .int k ∧ SqT K H p vs ∧ vs ≠ [] ∧ 2 ≤ k ∧ k ≤ 1000 ∧ vs.length ≤ 1000 ∧
  ∀ q o, H q = none → o.dict = none → Q (.ref q) (upd H q (.frz o (.tup (List.replicate k.toNat vs).flatten)))
theorem op_tupRep : OpR X (binaryOp .Mult) (rTupRep X.K) := by
  intro pins s σ H x y v u Q I rx ry ⟨p, k, vs, e1, e2, hT, hne, k1, k2, hz, q⟩
  subst e1 e2
  cases rx
  obtain ⟨t, rfl⟩ := ry
  obtain ⟨ws, r, ⟨⟨cl, di, da, sl⟩, ho, hc, n, hd⟩, hs⟩ := I.tuple hT
  change cl = _ at hc
  change da = _ at hd
  subst hc hd
  have wl : ws.length = vs.length := r.length.symm
  have wn : ws ≠ [] := by
    intro e
    subst e
    exact hne (List.eq_nil_of_length_eq_zero wl.symm)
  have we : ws.toArray.isEmpty = false := by
    cases ws with
    | nil => exact (wn rfl).elim
    | cons _ _ => rfl
  have wz : ws.toArray.size = vs.length := by rw [List.size_toArray, wl]
  have bd : ((vs.length : Nat) : Int) * k ≤ 1000000 := by
    have : ((vs.length : Nat) : Int) * k ≤ 1000 * k := Int.mul_le_mul_of_nonneg_right (by omega) (by omega)
    omega
  have bn : k.toNat * vs.length ≤ 1000 * 1000 := Nat.mul_le_mul (by omega) hz
  have fl : (List.replicate k.toNat ws).flatten.length ≤ sizeLine := by rw [PyProof.Rows.lm_len_rep_flat, wl, sizeLine_eq]; omega
  have d0 : (decide (k < -(2 ^ 63)) || decide (k ≥ 2 ^ 63)) = false := by simp; omega
  have d1 : (ws.toArray.isEmpty || k == 1) = false := by rw [we]; simp; omega
  have d2 : (decide (k ≤ 0) || ws.toArray.isEmpty) = false := by rw [we]; simp; omega
  have d4 : Builtin.Tuple.tupleTooMany (((ws.toArray.size : Nat) : Int) * k) = false := by
    unfold Builtin.Tuple.tupleTooMany
    rw [sizeLine_eq, wz]
    simp; omega
  refine wpAny_binaryOp_repeat_ref (T := "tuple") (U := "int") (by decide) ⟨_, ho, rfl⟩ (fun z => typeIs_int z k t) noFill_tuple_mul F.fills_int_mul F.slot_int_rmul repeat_tuple F.slot_int_index.lookup ?_
  refine call_meets F.slot_int_rmul (typeIs_int s k t) F.entry_int_rmul (F.args_int_rmul_2 _ _) (int_rmul_tuple k t p ws.toArray n di sl) ⟨ho, rfl, ⟨_, ho, rfl⟩, ?_⟩
  refine call_meets F.slot_tuple_mul ⟨_, ho, rfl⟩ F.entry_tuple_mul (F.args_tuple_mul_2 _ _) (tuple_mulW p ws.toArray n di sl k t d0 d1 d2 (by rw [wz]; omega) d4 (by rw [size_rep, List.size_toArray]; exact fl)) ⟨ho, ?_⟩
  rw [size_rep]
  exact newT I (r.rep k.toNat) (by rw [PyProof.Rows.lm_len_rep_flat, sizeLine_eq]; omega) q
theorem op_mulD2 : OpR X (binaryOp .Mult) (rD2 X.K mulD2) := by
  intro pins s σ H x y v u Q I rx ry ⟨H0, a, b, t, sm, ha, hb, e, g⟩
  cases a <;> cases b <;> first | (cases e; done) | skip
  case int.int i j => exact op_mulD pins s σ H x y v u Q I rx ry ⟨H0, _, _, t, sm, ha, hb, e, g⟩
  case tup.int xs k =>
    have e : (if (decide (2 ≤ k) && decide (k ≤ 1000) && Nat.ble 1 xs.length && Nat.ble xs.length 1000) = true then some (Tg.fz (.tup (List.replicate k.toNat xs).flatten)) else none) = some t := e
    by_cases z : (decide (2 ≤ k) && decide (k ≤ 1000) && Nat.ble 1 xs.length && Nat.ble xs.length 1000) = true
    · rw [if_pos z] at e
      cases e
      simp only [Bool.and_eq_true, decide_eq_true_eq] at z
      obtain ⟨⟨⟨z1, z2⟩, z3⟩, z4⟩ := z
      have z3 := Nat.le_of_ble_eq_true z3
      have z4 := Nat.le_of_ble_eq_true z4
      obtain ⟨p, vs, ev, h1, h1', r1⟩ := ha.tup sm
      have hl := r1.length
      exact op_tupRep pins s σ H x y v u Q I rx ry ⟨p, k, vs, ev, hb.int, h1.sq, (fun n => by subst n; simp at hl; omega), z1, z2, (by omega), fun q o n hd => gives_tup sm g n hd (r1.rep _)⟩
    · rw [if_neg z] at e; cases e
  case lst.int xs k =>
    have e : (if (decide (-1000 ≤ k) && decide (k ≤ 1000) && Nat.ble xs.length 1000) = true then some (Tg.nw (.lst (List.replicate k.toNat xs).flatten)) else none) = some t := e
    by_cases z : (decide (-1000 ≤ k) && decide (k ≤ 1000) && Nat.ble xs.length 1000) = true
    · rw [if_pos z] at e
      cases e
      simp only [Bool.and_eq_true, decide_eq_true_eq] at z
      obtain ⟨⟨z1, z2⟩, z4⟩ := z
      have z4 := Nat.le_of_ble_eq_true z4
      obtain ⟨p, vs, ev, h1, r1⟩ := ha.lst sm
      have hl := r1.length
      refine op_rep pins s σ H x y v u Q I rx ry ⟨p, k, vs, ev, hb.int, h1, by omega, by omega, ?_, fun q n => gives_lst sm g n (r1.rep _)⟩
      rw [sizeLine_eq, hl]
      have a1 : xs.length * k.toNat ≤ 1000 * 1000 := Nat.mul_le_mul z4 (by omega)
      omega
    · rw [if_neg z] at e; cases e
end
end VL

/-! VLy: what the laws draw. -/
namespace VL
open PySem PySem.Spec L2

def nxA : Fs := (sSeq (sSet 3 (dBin ixD (dName 0) (dC (.int 2)))) (sSeq (sSet 4 (dBin addD (dC (.int 7)) (dName 3)))
  (sSeq (sIf (dTB (dBin oLt (dName 3) (dApp (f1 lenD) (dCons (dBin ixD (dName 0) (dC (.int 0))) dNil)))) (sSet 4 (dApp (f1 absD) (dCons (dBin ixD (dBin ixD (dName 0) (dC (.int 0))) (dName 3)) dNil))) sNil)
  (sSeq (sIf (dTB (dBin oLt (dName 4) (dBin powD (dC (.int 10)) (dC (.int 18))))) (sSeq (sSet 4 (dBin modD (dApp (f1 intD) (dCons (dBin addD (dBin addD (dBin mulD2 (dName 4) (dC (.int 48271))) (dBin mulD2 (dName 3) (dC (.int 69621)))) (dC (.int 11))) dNil)) (dC (.int 2147483647))))
  (sSet 4 (dBin addD (dBin mulD2 (dBin modD (dApp (f1 intD) (dCons (dBin addD (dBin mulD2 (dName 4) (dC (.int 16807))) (dC (.int 13))) dNil)) (dC (.int 2147483647))) (dC (.int 65537))) (dName 4)))) sNil)
  (sSeq (sSetIx 0 (dC (.int 1)) (dName 4))
  (sSetIx 0 (dC (.int 2)) (dBin addD (dName 3) (dC (.int 1)))))))))
def nxB : Fs := (sSeq (sSet 2 (dBin modD (dApp (f1 intD) (dCons (dBin ixD (dName 0) (dC (.int 1))) dNil)) (dName 1)))
  (sSeq (sSetIx 0 (dC (.int 1)) (dBin fdivD (dBin ixD (dName 0) (dC (.int 1))) (dName 1)))
  (sRet (dName 2))))
def nxC : Ft := dTB (dBin eqD (dBin ixD (dName 0) (dC (.int 1))) (dC (.int 0)))
def nxF : Fe := fnD 5 (sSeq (sIf nxC nxA sNil) nxB)
/-- the stream's data -/
def St (ns : List Int) (c k : Int) : D := .lst [.lst (ns.map D.int), .int c, .int k]

theorem bin_of {f : D → D → Option Tg} {fa fb : Fe} {e : En} {x y : D} {t : Tg} (ha : fa e = .ok (.fz x) e) (hb : fb e = .ok (.fz y) e) (hf : f x y = some t) : dBin f fa fb e = .ok t e := by
  unfold dBin
  rw [ha, Rz.bind_ok, hb, Rz.bind_ok]
  show (match f x y with | some t => Rz.ok t e | none => .bad) = _
  rw [hf]
theorem app1_of {f : D → Option Tg} {fa : Fe} {e : En} {x : D} {t : Tg} (ha : fa e = .ok (.fz x) e) (hf : f x = some t) : dApp (f1 f) (dCons fa dNil) e = .ok t e := by
  unfold dApp dCons
  rw [ha]
  show (match f x with | some t => Rz.ok t e | none => .bad) = _
  rw [hf]
theorem tb_of {fa : Fe} {e : En} {b : Bool} (ha : fa e = .ok (.fz (.bl b)) e) : dTB fa e = .ok b e := by
  unfold dTB
  rw [ha]
  rfl
theorem if_of {c : Ft} {a b : Fs} {e : En} {k : Bool} (hc : c e = .ok k e) : sIf c a b e = if k = true then a e else b e := by
  unfold sIf
  rw [hc]
  cases k <;> rfl
theorem set_of {fa : Fe} {i : Nat} {e : En} {d : D} (ha : fa e = .ok (.fz d) e) (hp : pinned e[i]? = false) : sSet i fa e = .nx (e.set i (.fz d)) := by
  unfold sSet
  rw [ha, Rz.to_ok]
  unfold asg
  rw [hp] <;> rfl
theorem seq_of {a b : Fs} {e e1 : En} (ha : a e = .nx e1) : sSeq a b e = b e1 := by
  unfold sSeq
  rw [ha] <;> rfl
theorem mul_r {i j : Int} (h : smallI j = true) : mulD2 (.int i) (.int j) = some (.fz (.int (i * j))) := by
  show (if (smallI i || smallI j) = true then some (Tg.fz (.int (i * j))) else none) = _
  rw [h, Bool.or_true] <;> rfl
theorem mod_r {i j : Int} (h : 0 < j) : modD (.int i) (.int j) = some (.fz (.int (i % j))) := by
  show (if decide (0 < j) = true then some (Tg.fz (.int (i % j))) else none) = _
  rw [if_pos (decide_eq_true h)]
theorem fdiv_r {i j : Int} (h : 0 < j) (h' : j < 1073741824) : fdivD (.int i) (.int j) = some (.fz (.int (i / j))) := by
  show (if (decide (0 < j) && decide (j < 1073741824)) = true then some (Tg.fz (.int (i / j))) else none) = _
  rw [if_pos (by simp [h, h'])]
theorem setIx_of {fk fv : Fe} {e e' : En} {v k : D} {i : Nat} (hv : fv e = .ok (.fz v) e) (ho : ownO e[i]? = true) (hk : fk e = .ok (.fz k) e) (hp : putIx i v k e = .nx e') : sSetIx i fk fv e = .nx e' := by
  unfold sSetIx
  rw [hv]
  show (if ownO e[i]? = true then (fk e).to fun tk e3 => (match look e3 tk.fr with | some k => putIx i v k e3 | none => .bad) else .bad) = _
  rw [if_pos ho, hk]
  exact hp

theorem nxB_of {x2 x3 x4 : Sl} {l : D} {c k m : Int} (hc : 0 ≤ c) (h1 : 1 ≤ m) (h2 : m < 1073741824) (p2 : pinned (some x2) = false) :
    nxB [.ow true (.lst [l, .int c, .int k]), .fz (.int m), x2, x3, x4] = .rt (.fz (.int (c % m))) [.ow true (.lst [l, .int (c / m), .int k]), .fz (.int m), .fz (.int (c % m)), x3, x4] := by
  unfold nxB
  refine Eq.trans (seq_of (set_of (d := .int (c % m)) (bin_of (x := .int c) (y := .int m) rfl rfl (mod_r (by omega))) p2)) ?_
  refine Eq.trans (seq_of (setIx_of (e' := [.ow true (.lst [l, .int (c / m), .int k]), .fz (.int m), .fz (.int (c % m)), x3, x4]) (v := .int (c / m)) (k := .int 1) (bin_of (x := .int c) (y := .int m) rfl rfl (fdiv_r (by omega) h2)) rfl rfl rfl)) ?_
  rfl
/-- the cell that is drawn from -/
def cell0 (ns : List Int) (k : Int) : Int := if k < (ns.length : Int) then (match atI ns k with | some i => if i < 0 then -i else i | none => 0) else 7 + k
def cell1 (k c : Int) : Int := (c * 48271 + k * 69621 + 11) % 2147483647
def cell2 (k c : Int) : Int := if c < 10 ^ 18 then (cell1 k c * 16807 + 13) % 2147483647 * 65537 + cell1 k c else c
theorem cell0_nn {ns : List Int} {k : Int} (h : 0 ≤ k) : 0 ≤ cell0 ns k := by
  unfold cell0
  split
  · split
    · split <;> omega
    · omega
  · omega
theorem cell2_nn {k c : Int} (h : 0 ≤ c) : 0 ≤ cell2 k c := by
  unfold cell2
  split
  · have := Int.emod_nonneg (cell1 k c * 16807 + 13) (b := 2147483647) (by decide)
    have : 0 ≤ cell1 k c := Int.emod_nonneg _ (by decide)
    omega
  · exact h
theorem nxA_of {x2 x3 x4 : Sl} {ns : List Int} {k m : Int} (hk : 0 ≤ k) (p3 : pinned (some x3) = false) (p4 : pinned (some x4) = false) :
    nxA [.ow true (St ns 0 k), .fz (.int m), x2, x3, x4] = .nx [.ow true (St ns (cell2 k (cell0 ns k)) (k + 1)), .fz (.int m), x2, .fz (.int k), .fz (.int (cell2 k (cell0 ns k)))] := by
  unfold nxA
  refine Eq.trans (seq_of (set_of (d := .int k) rfl p3)) ?_
  refine Eq.trans (seq_of (set_of (d := .int (7 + k)) (bin_of (x := .int 7) (y := .int k) rfl rfl rfl) p4)) ?_
  have h1 : sIf (dTB (dBin oLt (dName 3) (dApp (f1 lenD) (dCons (dBin ixD (dName 0) (dC (.int 0))) dNil)))) (sSet 4 (dApp (f1 absD) (dCons (dBin ixD (dBin ixD (dName 0) (dC (.int 0))) (dName 3)) dNil))) sNil
      [.ow true (St ns 0 k), .fz (.int m), x2, .fz (.int k), .fz (.int (7 + k))] = .nx [.ow true (St ns 0 k), .fz (.int m), x2, .fz (.int k), .fz (.int (cell0 ns k))] := by
    refine Eq.trans (if_of (k := decide (k < ((ns.map D.int).length : Int))) (tb_of (bin_of (x := .int k) (y := .int ((ns.map D.int).length : Int)) rfl rfl rfl))) ?_
    unfold cell0
    rw [List.length_map]
    by_cases z : k < (ns.length : Int)
    · rw [if_pos (decide_eq_true z), if_pos z]
      obtain ⟨n, rfl⟩ := Int.eq_ofNat_of_zero_le hk
      have hn : n < ns.length := by omega
      have e1 : atI ns (n : Int) = some ns[n] := by
        unfold atI ixN
        simp [hn]
      have e2 : atI (ns.map D.int) (n : Int) = some (.int ns[n]) := by
        rw [atI_map, e1] <;> rfl
      rw [e1]
      refine set_of (d := .int _) (app1_of (x := .int ns[n]) (bin_of (x := .lst (ns.map D.int)) (y := .int (n : Int)) rfl rfl ?_) rfl) rfl
      show (atI (ns.map D.int) (n : Int)).map Tg.fz = _
      rw [e2] <;> rfl
    · rw [if_neg (by simpa using z), if_neg z]
      rfl
  refine Eq.trans (seq_of h1) ?_
  have h2 : sIf (dTB (dBin oLt (dName 4) (dBin powD (dC (.int 10)) (dC (.int 18))))) (sSeq (sSet 4 (dBin modD (dApp (f1 intD) (dCons (dBin addD (dBin addD (dBin mulD2 (dName 4) (dC (.int 48271))) (dBin mulD2 (dName 3) (dC (.int 69621)))) (dC (.int 11))) dNil)) (dC (.int 2147483647))))
      (sSet 4 (dBin addD (dBin mulD2 (dBin modD (dApp (f1 intD) (dCons (dBin addD (dBin mulD2 (dName 4) (dC (.int 16807))) (dC (.int 13))) dNil)) (dC (.int 2147483647))) (dC (.int 65537))) (dName 4)))) sNil
      [.ow true (St ns 0 k), .fz (.int m), x2, .fz (.int k), .fz (.int (cell0 ns k))] = .nx [.ow true (St ns 0 k), .fz (.int m), x2, .fz (.int k), .fz (.int (cell2 k (cell0 ns k)))] := by
    generalize cell0 ns k = c
    have e3 : dBin powD (dC (.int 10)) (dC (.int 18)) [.ow true (St ns 0 k), .fz (.int m), x2, .fz (.int k), .fz (.int c)] = .ok (.fz (.int (10 ^ 18))) [.ow true (St ns 0 k), .fz (.int m), x2, .fz (.int k), .fz (.int c)] := by rfl
    refine Eq.trans (if_of (k := decide (c < 10 ^ 18)) (tb_of (bin_of (x := .int c) (y := .int (10 ^ 18)) rfl e3 rfl))) ?_
    unfold cell2
    by_cases z : c < 10 ^ 18
    · rw [if_pos (decide_eq_true z), if_pos z]
      refine Eq.trans (seq_of (set_of (d := .int (cell1 k c)) (bin_of (x := .int (c * 48271 + k * 69621 + 11)) (y := .int 2147483647) (app1_of (x := .int (c * 48271 + k * 69621 + 11)) (bin_of (x := .int (c * 48271 + k * 69621)) (y := .int 11) (bin_of (x := .int (c * 48271)) (y := .int (k * 69621)) (bin_of (x := .int c) (y := .int 48271) rfl rfl (mul_r rfl)) (bin_of (x := .int k) (y := .int 69621) rfl rfl (mul_r rfl)) rfl) rfl rfl) rfl) rfl (mod_r (by omega))) rfl)) ?_
      refine set_of (d := .int _) (bin_of (x := .int ((cell1 k c * 16807 + 13) % 2147483647 * 65537)) (y := .int (cell1 k c)) (bin_of (x := .int ((cell1 k c * 16807 + 13) % 2147483647)) (y := .int 65537) (bin_of (x := .int (cell1 k c * 16807 + 13)) (y := .int 2147483647) (app1_of (x := .int (cell1 k c * 16807 + 13)) (bin_of (x := .int (cell1 k c * 16807)) (y := .int 13) (bin_of (x := .int (cell1 k c)) (y := .int 16807) rfl rfl (mul_r rfl)) rfl rfl) rfl) rfl (mod_r (by omega))) rfl (mul_r rfl)) rfl rfl) rfl
    · rw [if_neg (by simpa using z), if_neg z]
      rfl
  refine Eq.trans (seq_of h2) ?_
  refine Eq.trans (seq_of (setIx_of (e' := [.ow true (St ns (cell2 k (cell0 ns k)) k), .fz (.int m), x2, .fz (.int k), .fz (.int (cell2 k (cell0 ns k)))]) (v := .int (cell2 k (cell0 ns k))) (k := .int 1) rfl rfl rfl rfl)) ?_
  exact setIx_of (v := .int (k + 1)) (k := .int 2) (bin_of (x := .int k) (y := .int 1) rfl rfl rfl) rfl rfl rfl
/-- what the stream may be -/
def Str0 (s : D) : Prop := ∃ ns c k, s = St ns c k ∧ 0 ≤ c ∧ 0 ≤ k
theorem nxF_of {s : D} {m : Int} (h : Str0 s) (h1 : 1 ≤ m) (h2 : m < 1073741824) : ∃ (r : Int) (s' : D), 0 ≤ r ∧ r < m ∧ Str0 s' ∧ nxF [.ow true s, .fz (.int m)] = .ok (.fz (.int r)) [.ow true s', .un] := by
  obtain ⟨ns, c, k, rfl, hc, hk⟩ := h
  by_cases z : c = 0
  · subst z
    refine ⟨cell2 k (cell0 ns k) % m, St ns (cell2 k (cell0 ns k) / m) (k + 1), Int.emod_nonneg _ (by omega), Int.emod_lt_of_pos _ (by omega), ⟨ns, _, _, rfl, Int.ediv_nonneg (cell2_nn (cell0_nn hk)) (by omega), by omega⟩, ?_⟩
    have b : sSeq (sIf nxC nxA sNil) nxB [.ow true (St ns 0 k), .fz (.int m), .un, .un, .un] = .rt (.fz (.int (cell2 k (cell0 ns k) % m))) [.ow true (St ns (cell2 k (cell0 ns k) / m) (k + 1)), .fz (.int m), .fz (.int (cell2 k (cell0 ns k) % m)), .fz (.int k), .fz (.int (cell2 k (cell0 ns k)))] := by
      refine Eq.trans (seq_of (e1 := [.ow true (St ns (cell2 k (cell0 ns k)) (k + 1)), .fz (.int m), .un, .fz (.int k), .fz (.int (cell2 k (cell0 ns k)))]) (Eq.trans (if_of (k := true) rfl) (nxA_of hk rfl rfl))) ?_
      exact nxB_of (cell2_nn (cell0_nn hk)) h1 h2 rfl
    show finF _ (sSeq (sIf nxC nxA sNil) nxB [.ow true (St ns 0 k), .fz (.int m), .un, .un, .un]) = _
    rw [b]
    rfl
  · refine ⟨c % m, St ns (c / m) k, Int.emod_nonneg _ (by omega), Int.emod_lt_of_pos _ (by omega), ⟨ns, _, _, rfl, Int.ediv_nonneg hc (by omega), hk⟩, ?_⟩
    have q : dBin eqD (dBin ixD (dName 0) (dC (.int 1))) (dC (.int 0)) [.ow true (St ns c k), .fz (.int m), .un, .un, .un] = .ok (.fz (.bl false)) [.ow true (St ns c k), .fz (.int m), .un, .un, .un] := by
      refine bin_of (x := .int c) (y := .int 0) rfl rfl ?_
      show some (Tg.fz (.bl (eqvD (.int c) (.int 0)))) = _
      have : eqvD (.int c) (.int 0) = false := by
        show (c == 0) = false
        exact beq_eq_false_iff_ne.mpr z
      rw [this]
    have b : sSeq (sIf nxC nxA sNil) nxB [.ow true (St ns c k), .fz (.int m), .un, .un, .un] = .rt (.fz (.int (c % m))) [.ow true (St ns (c / m) k), .fz (.int m), .fz (.int (c % m)), .un, .un] := by
      refine Eq.trans (seq_of (e1 := [.ow true (St ns c k), .fz (.int m), .un, .un, .un]) (Eq.trans (if_of (k := false) (tb_of q)) rfl)) ?_
      exact nxB_of hc h1 h2 rfl
    show finF _ (sSeq (sIf nxC nxA sNil) nxB [.ow true (St ns c k), .fz (.int m), .un, .un, .un]) = _
    rw [b]
    rfl
/-- a draw, the stream in the slot i -/
theorem draw_of {F : Fe} (hF : F = nxF) {i : Nat} {s : D} {m : Int} {e : En} (hi : e[i]? = some (.ow false s)) (h : Str0 s) (h1 : 1 ≤ m) (h2 : m < 1073741824) :
    ∃ (r : Int) (s' : D), 0 ≤ r ∧ r < m ∧ Str0 s' ∧ dCall F [.io, .v] (dCons (dName i) (dCons (dC (.int m)) dNil)) e = .ok (.fz (.int r)) (e.set i (.ow false s')) := by
  subst hF
  obtain ⟨r, s', a, b, c, d⟩ := nxF_of h h1 h2
  refine ⟨r, s', a, b, c, ?_⟩
  have q : dCons (dName i) (dCons (dC (.int m)) dNil) e = .ok [.sl i, .fz (.int m)] e := by
    unfold dCons dName
    rw [hi]
    rfl
  unfold dCall
  rw [q, Rz.bind_ok]
  show (match mkP [.io, .v] [.sl i, .fz (.int m)] e with | none => Rz.bad | some ps => _) = _
  have q2 : mkP [.io, .v] [.sl i, .fz (.int m)] e = some [.ow true s, .fz (.int m)] := by
    unfold mkP slot1
    simp only [hi]
    rfl
  rw [q2]
  show (match nxF [.ow true s, .fz (.int m)] with | .ok t qs => _ | .ex x qs => _ | .bad => _) = _
  rw [d]
  show Rz.ok (Tg.fz (.int r)) (wb1 e i (.ow true s')) = _
  unfold wb1
  rw [hi]
end VL

/-! VLz: a law's statements, one by one. -/
namespace VL
open PySem PySem.Spec L2

def Y (r : RS) : Prop := ∃ (s : Sl) (e : En), r = .rt (.fz (.bl true)) (s :: e)
theorem yes_of {n : Nat} {fs : Fs} {d : D} (h : Y (fs (.fz d :: List.replicate n .un))) : yes1 (fnD (n + 1) fs [.fz d]) := by
  obtain ⟨s, e, q⟩ := h
  have q2 : fs ([.fz d] ++ List.replicate (n + 1 - [Sl.fz d].length) .un) = .rt (.fz (.bl true)) (s :: e) := q
  unfold fnD
  rw [if_pos (show okIn [Sl.fz d] = true from rfl), q2]
  exact ⟨_, rfl⟩
theorem y_seq {a b : Fs} {e e1 : En} (h : a e = .nx e1) (k : Y (b e1)) : Y (sSeq a b e) := by
  rw [seq_of h]
  exact k
theorem y_draw {F : Fe} (hF : F = nxF) {b : Fs} {i j : Nat} {s : D} {m : Int} {e : En} (hi : e[j]? = some (.ow false s)) (h : Str0 s) (h1 : 1 ≤ m) (h2 : m < 1073741824) (hp : ∀ s', pinned (e.set j (.ow false s'))[i]? = false)
    (k : ∀ (r : Int) (s' : D), 0 ≤ r → r < m → Str0 s' → Y (b ((e.set j (.ow false s')).set i (.fz (.int r))))) : Y (sSeq (sSet i (dCall F [.io, .v] (dCons (dName j) (dCons (dC (.int m)) dNil)))) b e) := by
  obtain ⟨r, s', a1, a2, a3, q⟩ := draw_of hF hi h h1 h2
  refine y_seq ?_ (k r s' a1 a2 a3)
  unfold sSet
  rw [q, Rz.to_ok]
  unfold asg
  rw [hp]
  rfl
/-- x = somewhere[draw] -/
theorem y_drawIx {F : Fe} (hF : F = nxF) {fa : Fe} {t : Tg} {b : Fs} {i j : Nat} {s : D} {m : Int} {e : En} (ha : fa e = .ok t e) (hi : e[j]? = some (.ow false s)) (h : Str0 s) (h1 : 1 ≤ m) (h2 : m < 1073741824)
    (k : ∀ (r : Int) (s' : D), 0 ≤ r → r < m → Str0 s' → ∃ d, (match look (e.set j (.ow false s')) t.fr with | some x => ixD x (.int r) | none => none) = some (.fz d) ∧ pinned (e.set j (.ow false s'))[i]? = false ∧ Y (b ((e.set j (.ow false s')).set i (.fz d)))) :
    Y (sSeq (sSet i (dBin ixD fa (dCall F [.io, .v] (dCons (dName j) (dCons (dC (.int m)) dNil))))) b e) := by
  obtain ⟨r, s', a1, a2, a3, q⟩ := draw_of hF hi h h1 h2
  obtain ⟨d, q1, q2, k⟩ := k r s' a1 a2 a3
  refine y_seq ?_ k
  unfold sSet dBin
  rw [ha, Rz.bind_ok, q, Rz.bind_ok]
  cases z : look (e.set j (.ow false s')) t.fr with
  | none => rw [z] at q1; cases q1
  | some x =>
    rw [z] at q1
    have q1 : ixD x (.int r) = some (.fz d) := q1
    have z2 : fin2 ixD t.fr (Tg.fr (.fz (.int r))) (e.set j (.ow false s')) = .ok (.fz d) (e.set j (.ow false s')) := by
      unfold fin2
      rw [z]
      show (match ixD x (.int r) with | some t => Rz.ok t _ | none => .bad) = _
      rw [q1]
    rw [z2, Rz.to_ok]
    unfold asg
    rw [q2]
    rfl
theorem or_of {a b : Ft} {e : En} (ha : a e = .ok false e) (hb : b e = .ok false e) : dOr a b e = .ok false e := by
  unfold dOr
  rw [ha, Rz.bind_ok]
  exact hb
theorem and1_of {a b : Ft} {e : En} (ha : a e = .ok false e) : dAnd a b e = .ok false e := by
  unfold dAnd
  rw [ha] <;> rfl
theorem and2_of {a b : Ft} {e : En} (ha : a e = .ok true e) (hb : b e = .ok false e) : dAnd a b e = .ok false e := by
  unfold dAnd
  rw [ha, Rz.bind_ok]
  exact hb
theorem ifn_of {c : Ft} {a : Fs} {e : En} (hc : c e = .ok false e) : sIf c a sNil e = .nx e := by
  unfold sIf
  rw [hc] <;> rfl
theorem y_ret {fa : Fe} {s : Sl} {e e' : En} (h : fa e = .ok (.fz (.bl true)) (s :: e')) : Y (sRet fa e) := by
  refine ⟨s, e', ?_⟩
  unfold sRet
  rw [h] <;> rfl
end VL

namespace Lw
open PySem PySem.Spec L2 VL
def top (i : Nat) : Stmt := PySem.Challenge.pw_fewestrules_k84_refusals_of_paths.main.body.getD i (.Pass ⟨0, 0, 0, 0⟩)
structure Fx (P : Program) (w : World) (K : PySem.W.Frag) (mg : Str → Option Value) (base : Heap) : Prop where
  b_abs : mg "abs" = none
  b_all : mg "all" = none
  b_any : mg "any" = none
  b_bool : mg "bool" = none
  b_enumerate : mg "enumerate" = none
  b_int : mg "int" = none
  b_isinstance : mg "isinstance" = none
  b_len : mg "len" = none
  b_list : mg "list" = none
  b_max : mg "max" = none
  b_min : mg "min" = none
  b_range : mg "range" = none
  b_sorted : mg "sorted" = none
  b_str : mg "str" = none
  b_sum : mg "sum" = none
  b_tuple : mg "tuple" = none
  b_zip : mg "zip" = none
  c_CHARACTERS : GC mg "CHARACTERS" (.str "abcdefghijklmnopqrstuvwxyz") (.str "abcdefghijklmnopqrstuvwxyz")
  c_DIGITS : GC mg "DIGITS" (.str "0123456789") (.str "0123456789")
  c_LONGEST : GC mg "LONGEST" (.int 12) (.int 12)
  c_MOST : GC mg "MOST" (.int 12) (.int 12)
  c_MOST_ORDERS : GC mg "MOST_ORDERS" (.int 6) (.int 6)
  g_RulesError : mg "RulesError" = some (.ref (He.ga K "RulesError"))
  g_BadValue : mg "BadValue" = some (.ref (He.ga K "BadValue"))
  xb_BadValue : XB K "BadValue" ["name"]
  dm_BadValue : DM K "BadValue" "__init__" "BadValue.__init__" (inClass (top 2) 0)
  ex_BadValue : ∀ p ∈ ([("BadValue", true)] : List (Str × Bool)), PySem.W.exmOne K (.ref (He.ga K p.1)) (.ref (He.ga K "BadValue")) = some p.2
  g_Pairs : mg "Pairs" = some (.ref (He.ga K "Pairs"))
  cf_Pairs : CF K "Pairs" ["places", "first", "second", "own", "letters", "many", "links"]
  mk_Pairs : Mk K (He.ga K "Pairs") (He.ma K (He.ga K "Pairs") "__init__")
  me_Pairs___init__ : Meth K (He.ga K "Pairs") "__init__" (He.ma K (He.ga K "Pairs") "__init__")
  me_Pairs_can_follow : Meth K (He.ga K "Pairs") "can_follow" (He.ma K (He.ga K "Pairs") "can_follow")
  me_Pairs_lengths : Meth K (He.ga K "Pairs") "lengths" (He.ma K (He.ga K "Pairs") "lengths")
  me_Pairs_levels : Meth K (He.ga K "Pairs") "levels" (He.ma K (He.ga K "Pairs") "levels")
  d_is_whole : DF K mg "is_whole" (top 8)
  d_is_level : DF K mg "is_level" (top 9)
  d_is_letter : DF K mg "is_letter" (top 10)
  d_are_letters : DF K mg "are_letters" (top 11)
  d_is_order : DF K mg "is_order" (top 12)
  d_removed : DF K mg "removed" (top 13)
  d_places_of : DF K mg "places_of" (top 15)
  d_least_between : DF K mg "least_between" (top 16)
  d_Pairs_lengths : DM K "Pairs" "lengths" "Pairs.lengths" (inClass (top 17) 2)
  d_longest_in : DF K mg "longest_in" (top 18)
  d_Pairs_can_follow : DM K "Pairs" "can_follow" "Pairs.can_follow" (inClass (top 17) 1)
  d_Pairs___init__ : DM K "Pairs" "__init__" "Pairs.__init__" (inClass (top 17) 0)
  d_longest_of : DF K mg "longest_of" (top 19)
  d_is_integer : DF K mg "is_integer" (top 20)
  d_are_right : DF K mg "are_right" (top 21)
  d_turned_around : DF K mg "turned_around" (top 23)
  d_put_after : DF K mg "put_after" (top 24)
  d_put : DF K mg "put" (top 25)
  d_from_left : DF K mg "from_left" (top 27)
  d_from_right : DF K mg "from_right" (top 28)
  d_gap_rules : DF K mg "gap_rules" (top 29)
  d_keep : DF K mg "keep" (top 30)
  d_distance_of : DF K mg "distance_of" (top 32)
  d_rules_of : DF K mg "rules_of" (top 33)
  d_has_letters : DF K mg "has_letters" (top 36)
  d_is_path : DF K mg "is_path" (top 37)
  d_check_path : DF K mg "check_path" (top 38)
  d_check_alike : DF K mg "check_alike" (top 39)
  d_check_begin : DF K mg "check_begin" (top 40)
  d_length_of : DF K mg "length_of" (top 41)
  d_length : DF K mg "length" (top 42)
  d_direct : DF K mg "direct" (top 43)
  d_is_shortest : DF K mg "is_shortest" (top 44)
  d_farthest : DF K mg "farthest" (top 45)
  d_joined_rules : DF K mg "joined_rules" (top 46)
  d_kept_along : DF K mg "kept_along" (top 47)
  d_lies_between : DF K mg "lies_between" (top 48)
  d_is_step : DF K mg "is_step" (top 50)
  d_is_one_rule_away : DF K mg "is_one_rule_away" (top 51)
  d_way : DF K mg "way" (top 52)
  d_is_row : DF K mg "is_row" (top 53)
  d_is_shortest_row : DF K mg "is_shortest_row" (top 54)
  d__law_stream : DF K mg "_law_stream" (top 56)
  d__law_next : DF K mg "_law_next" (top 57)
  d__law_path_told : DF K mg "_law_path_told" (top 58)
  d__law_told : DF K mg "_law_told" (top 59)
  d_law : DF K mg "law" (top 60)
section
variable {P : Program} {w : World} {K : PySem.W.Frag} {mg : Str → Option Value} {base : Heap} (FX : Fx P w K mg base)
include FX
theorem rx_BadValue : RX P w K mg base "BadValue" ["name"] 2 (exS1 "name" K) :=
  RX.of1 FX.xb_BadValue FX.g_BadValue FX.dm_BadValue ⟨rfl, rfl, rfl, by decide +kernel, rfl, by decide +kernel, by decide +kernel⟩ (fun _ _ _ _ _ _ us hl => match us, hl with | [_, _], _ => rfl) fun X cdv A outer s H vs Q E f hX h => by
    subst hX
    exact ex_body1 (hsp := h)
def fs_is_whole : Fs :=
  (sRet (dAndV (dUn (isiT .int) (dName 0)) (dNotV (dUn (isiT .bool) (dName 0)))))
def F_is_whole : Fe := fnD 1 fs_is_whole
theorem ok_is_whole : CE P w K mg base 1 "is_whole" ["value"] F_is_whole := by
  have nd : (["value"] : List Str).Nodup := by decide +kernel
  refine CE.of (N := ["value"]) FX.d_is_whole ⟨rfl, rfl, rfl, by decide +kernel, rfl, by decide +kernel, by decide +kernel⟩ (fun _ _ _ _ _ _ us hl => match us, hl with | [_], _ => rfl) fun X W cdv A outer s H E f hX hr hW tk po => ?_
  subst hX
  delta fs_is_whole
  exact (vss_one (vs_ret (ve_and (ve_isi .int FX.b_isinstance FX.b_int (ve_name 0)) (ve_one (ve_not (ve_isi .bool FX.b_isinstance FX.b_bool (ve_name 0)))))))
def fs_is_level : Fs :=
  (sRet (dAndV (dCall F_is_whole [.v] (dCons (dName 0) dNil)) (dChain oLe oLe (dC (.int 1)) (dName 0) (dC (.int 3)))))
def F_is_level : Fe := fnD 1 fs_is_level
theorem ok_is_level : CE P w K mg base 2 "is_level" ["value"] F_is_level := by
  have nd : (["value"] : List Str).Nodup := by decide +kernel
  refine CE.of (N := ["value"]) FX.d_is_level ⟨rfl, rfl, rfl, by decide +kernel, rfl, by decide +kernel, by decide +kernel⟩ (fun _ _ _ _ _ _ us hl => match us, hl with | [_], _ => rfl) fun X W cdv A outer s H E f hX hr hW tk po => ?_
  subst hX
  delta fs_is_level
  exact (vss_one (vs_ret (ve_and ((ok_is_whole FX).ve [.v] hr tk (va_cons (ve_name 0) va_nil)) (ve_one (ve_chain (op_oLe hr) (op_oLe hr) ve_int (ve_name 0) ve_int)))))
def fs_is_letter : Fs :=
  (sSeq (sIf (dOr (dNot (dTru (dUn (isiT .str) (dName 0)))) (dOr (dNot (dTB (dChain oLe oLe (dC (.int 1)) (dApp (f1 lenD) (dCons (dName 0) dNil)) (dC (.int 12))))) (dTB (dBin notInD (dBin ixD (dName 0) (dC (.int 0))) (dC (.str "abcdefghijklmnopqrstuvwxyz")))))) (sRet (dC (.bl false))) sNil)
  (sRet (dApp (f1 allD) (dCons (dLc (itF (dName 0)) (asg1 1) dYes (dOrV (dBin inD (dName 1) (dC (.str "abcdefghijklmnopqrstuvwxyz"))) (dBin inD (dName 1) (dC (.str "0123456789")))) [1]) dNil))))
def F_is_letter : Fe := fnD 2 fs_is_letter
theorem ok_is_letter : CE P w K mg base 1 "is_letter" ["value"] F_is_letter := by
  have nd : (["value", "sign"] : List Str).Nodup := by decide +kernel
  refine CE.of (N := ["value", "sign"]) FX.d_is_letter ⟨rfl, rfl, rfl, by decide +kernel, rfl, by decide +kernel, by decide +kernel⟩ (fun _ _ _ _ _ _ us hl => match us, hl with | [_], _ => rfl) fun X W cdv A outer s H E f hX hr hW tk po => ?_
  subst hX
  delta fs_is_letter
  exact (vss_cons (vs_if (vt_w (vw_or (vt_not (vt_tru (ve_isi .str FX.b_isinstance FX.b_str (ve_name 0)))) (vw_or (vt_not (vt_chain (op_oLe hr) (op_oLe hr) ve_int (ve_callB cr_len FX.b_len (by with_unfolding_all rfl) (va_cons (ve_name 0) va_nil)) (FX.c_LONGEST.ve))) (vw_one_or (vt_cmp (op_notInDD hr) (ve_ix (ix_D hr) (ve_name 0) ve_int) (FX.c_CHARACTERS.ve) (by rfl)))))) (vss_one (vs_ret ve_bl)) vss_nil)
  (vss_one (vs_ret (ve_callB (cr_allD rfl) FX.b_all (by with_unfolding_all rfl) (va_cons (ve_lc rfl nd (blkOk_by (own := [("sign",1)]) (by kernel_rfl)) (vi_any (ve_name 0)) (tg_name 1) (fun _ _ _ _ _ => (pg_name nd rfl (by first | exact Or.inl rfl | exact Or.inr rfl))) (fun _ _ _ _ _ => vifs_nil) (fun _ _ _ _ _ => (ve_or (ve_cmp (op_inDD hr) (ve_name 1) (FX.c_CHARACTERS.ve) (by rfl)) (ve_one (ve_cmp (op_inDD hr) (ve_name 1) (FX.c_DIGITS.ve) (by rfl)))))) va_nil)))))
def fs_are_letters : Fs :=
  (sSeq (sIf (dOr (dNot (dTru (dUn (isiT .tuple) (dName 0)))) (dOr (dTB (dBin oGt (dApp (f1 lenD) (dCons (dName 0) dNil)) (dC (.int 12)))) (dNot (dTru (dApp (f1 allD) (dCons (dLc (itF (dName 0)) (asg1 1) dYes (dCall F_is_letter [.v] (dCons (dName 1) dNil)) [1]) dNil)))))) (sRet (dC (.bl false))) sNil)
  (sRet (dApp (f1 allD) (dCons (dLc (itF (dName 0)) (asg1 1) dYes (dBin eqD (dM1 countD (dName 0) (dName 1)) (dC (.int 1))) [1]) dNil))))
def F_are_letters : Fe := fnD 2 fs_are_letters
theorem ok_are_letters : CE P w K mg base 2 "are_letters" ["value"] F_are_letters := by
  have nd : (["value", "one"] : List Str).Nodup := by decide +kernel
  refine CE.of (N := ["value", "one"]) FX.d_are_letters ⟨rfl, rfl, rfl, by decide +kernel, rfl, by decide +kernel, by decide +kernel⟩ (fun _ _ _ _ _ _ us hl => match us, hl with | [_], _ => rfl) fun X W cdv A outer s H E f hX hr hW tk po => ?_
  subst hX
  delta fs_are_letters
  exact (vss_cons (vs_if (vt_w (vw_or (vt_not (vt_tru (ve_isi .tuple FX.b_isinstance FX.b_tuple (ve_name 0)))) (vw_or (vt_cmp (op_oGt hr) (ve_callB cr_len FX.b_len (by with_unfolding_all rfl) (va_cons (ve_name 0) va_nil)) (FX.c_MOST.ve) (by rfl)) (vw_one_or (vt_not (vt_tru (ve_callB (cr_allD rfl) FX.b_all (by with_unfolding_all rfl) (va_cons (ve_lc rfl nd (blkOk_by (own := [("one",1)]) (by kernel_rfl)) (vi_any (ve_name 0)) (tg_name 1) (fun _ _ _ _ _ => (pg_name nd rfl (by first | exact Or.inl rfl | exact Or.inr rfl))) (fun _ _ _ _ _ => vifs_nil) (fun _ _ _ _ _ => ((ok_is_letter FX).ve [.v] hr takes0 (va_cons (ve_name 1) va_nil)))) va_nil)))))))) (vss_one (vs_ret ve_bl)) vss_nil)
  (vss_one (vs_ret (ve_callB (cr_allD rfl) FX.b_all (by with_unfolding_all rfl) (va_cons (ve_lc rfl nd (blkOk_by (own := [("one",1)]) (by kernel_rfl)) (vi_any (ve_name 0)) (tg_name 1) (fun _ _ _ _ _ => (pg_name nd rfl (by first | exact Or.inl rfl | exact Or.inr rfl))) (fun _ _ _ _ _ => vifs_nil) (fun _ _ _ _ _ => (ve_cmp (op_eqDD hr) (ve_m1 PySem.F.slot_list_count PySem.F.type_list_count (mt_countL hr) PySem.F.slot_tuple_count PySem.F.type_tuple_count (mt_countT hr) (ve_name 0) (ve_name 1)) ve_int (by rfl)))) va_nil)))))
def fs_is_order : Fs :=
  (sSeq (sIf (dOr (dNot (dTru (dUn (isiT .tuple) (dName 0)))) (dOr (dTB (dBin neD (dApp (f1 lenD) (dCons (dName 0) dNil)) (dC (.int 2)))) (dNot (dTru (dCall F_are_letters [.v] (dCons (dBin ixD (dName 0) (dC (.int 0))) dNil)))))) (sRet (dC (.bl false))) sNil)
  (sSeq (sUnp [1, 2] (dName 0))
  (sSeq (sIf (dOr (dNot (dTru (dUn (isiT .tuple) (dName 2)))) (dTB (dBin neD (dApp (f1 lenD) (dCons (dName 2) dNil)) (dApp (f2 max2) (dCons (dC (.int 0)) (dCons (dBin subD (dApp (f1 lenD) (dCons (dName 1) dNil)) (dC (.int 1))) dNil)))))) (sRet (dC (.bl false))) sNil)
  (sRet (dApp (f1 allD) (dCons (dLc (itF (dName 2)) (asg1 3) dYes (dCall F_is_level [.v] (dCons (dName 3) dNil)) [3]) dNil))))))
def F_is_order : Fe := fnD 4 fs_is_order
theorem ok_is_order : CE P w K mg base 3 "is_order" ["value"] F_is_order := by
  have nd : (["value", "letters", "strengths", "one"] : List Str).Nodup := by decide +kernel
  refine CE.of (N := ["value", "letters", "strengths", "one"]) FX.d_is_order ⟨rfl, rfl, rfl, by decide +kernel, rfl, by decide +kernel, by decide +kernel⟩ (fun _ _ _ _ _ _ us hl => match us, hl with | [_], _ => rfl) fun X W cdv A outer s H E f hX hr hW tk po => ?_
  subst hX
  delta fs_is_order
  exact (vss_cons (vs_if (vt_w (vw_or (vt_not (vt_tru (ve_isi .tuple FX.b_isinstance FX.b_tuple (ve_name 0)))) (vw_or (vt_cmp (op_neDD hr) (ve_callB cr_len FX.b_len (by with_unfolding_all rfl) (va_cons (ve_name 0) va_nil)) ve_int (by rfl)) (vw_one_or (vt_not (vt_tru ((ok_are_letters FX).ve [.v] hr tk (va_cons (ve_ix (ix_D hr) (ve_name 0) ve_int) va_nil)))))))) (vss_one (vs_ret ve_bl)) vss_nil)
  (vss_cons (vs_unp (is := [1, 2]) rfl (pgs_cons (pg_name nd rfl (by first | exact Or.inl rfl | exact Or.inr rfl)) (pgs_cons (pg_name nd rfl (by first | exact Or.inl rfl | exact Or.inr rfl)) pgs_nil)) (ve_name 0))
  (vss_cons (vs_if (vt_w (vw_or (vt_not (vt_tru (ve_isi .tuple FX.b_isinstance FX.b_tuple (ve_name 2)))) (vw_one_or (vt_cmp (op_neDD hr) (ve_callB cr_len FX.b_len (by with_unfolding_all rfl) (va_cons (ve_name 2) va_nil)) (ve_callB (cr_max2 rfl) FX.b_max (by with_unfolding_all rfl) (va_cons ve_int (va_cons (ve_bin op_subD (ve_callB cr_len FX.b_len (by with_unfolding_all rfl) (va_cons (ve_name 1) va_nil)) ve_int) va_nil))) (by rfl))))) (vss_one (vs_ret ve_bl)) vss_nil)
  (vss_one (vs_ret (ve_callB (cr_allD rfl) FX.b_all (by with_unfolding_all rfl) (va_cons (ve_lc rfl nd (blkOk_by (own := [("one",3)]) (by kernel_rfl)) (vi_any (ve_name 2)) (tg_name 3) (fun _ _ _ _ _ => (pg_name nd rfl (by first | exact Or.inl rfl | exact Or.inr rfl))) (fun _ _ _ _ _ => vifs_nil) (fun _ _ _ _ _ => ((ok_is_level FX).ve [.v] hr takes0 (va_cons (ve_name 3) va_nil)))) va_nil)))))))
def fs_removed : Fs :=
  (sSeq (sUnp [2, 3] (dName 0))
  (sSeq (sSet 4 (dM1 indexD (dName 2) (dName 1)))
  (sSeq (sSet 5 (dBin addD (dSl (dName 2) oNone (oSome (dName 4))) (dSl (dName 2) (oSome (dBin addD (dName 4) (dC (.int 1)))) oNone)))
  (sSeq (sIf (dTB (dBin eqD (dName 4) (dC (.int 0)))) (sRet (dTup (vCons (dName 5) (vCons (dSl (dName 3) (oSome (dC (.int 1))) oNone) vNil)))) sNil)
  (sSeq (sIf (dTB (dBin eqD (dName 4) (dBin subD (dApp (f1 lenD) (dCons (dName 2) dNil)) (dC (.int 1))))) (sRet (dTup (vCons (dName 5) (vCons (dSl (dName 3) oNone (oSome (dUn negD (dC (.int 1))))) vNil)))) sNil)
  (sRet (dTup (vCons (dName 5) (vCons (dBin addD (dBin addD (dSl (dName 3) oNone (oSome (dBin subD (dName 4) (dC (.int 1))))) (dTup (vCons (dApp (f2 min2) (dCons (dBin ixD (dName 3) (dBin subD (dName 4) (dC (.int 1)))) (dCons (dBin ixD (dName 3) (dName 4)) dNil))) vNil))) (dSl (dName 3) (oSome (dBin addD (dName 4) (dC (.int 1)))) oNone)) vNil)))))))))
def F_removed : Fe := fnD 6 fs_removed
theorem ok_removed : CE P w K mg base 1 "removed" ["order", "letter"] F_removed := by
  have nd : (["order", "letter", "letters", "strengths", "at", "left"] : List Str).Nodup := by decide +kernel
  refine CE.of (N := ["order", "letter", "letters", "strengths", "at", "left"]) FX.d_removed ⟨rfl, rfl, rfl, by decide +kernel, rfl, by decide +kernel, by decide +kernel⟩ (fun _ _ _ _ _ _ us hl => match us, hl with | [_, _], _ => rfl) fun X W cdv A outer s H E f hX hr hW tk po => ?_
  subst hX
  delta fs_removed
  exact (vss_cons (vs_unp (is := [2, 3]) rfl (pgs_cons (pg_name nd rfl (by first | exact Or.inl rfl | exact Or.inr rfl)) (pgs_cons (pg_name nd rfl (by first | exact Or.inl rfl | exact Or.inr rfl)) pgs_nil)) (ve_name 0))
  (vss_cons (vs_set nd rfl (by first | exact Or.inl rfl | exact Or.inr rfl) (ve_m1 PySem.F.slot_list_index PySem.F.type_list_index (mt_indexL hr) PySem.F.slot_tuple_index PySem.F.type_tuple_index (mt_indexT hr) (ve_name 2) (ve_name 1)))
  (vss_cons (vs_set nd rfl (by first | exact Or.inl rfl | exact Or.inr rfl) (ve_bin op_addD (ve_sl (ve_name 2) vo_none (vo_some (ve_name 4))) (ve_sl (ve_name 2) (vo_some (ve_bin op_addD (ve_name 4) ve_int)) vo_none)))
  (vss_cons (vs_if (vt_cmp (op_eqDD hr) (ve_name 4) ve_int (by rfl)) (vss_one (vs_ret (ve_tup (vv_cons (ve_name 5) (vv_cons (ve_sl (ve_name 3) (vo_some ve_int) vo_none) vv_nil))))) vss_nil)
  (vss_cons (vs_if (vt_cmp (op_eqDD hr) (ve_name 4) (ve_bin op_subD (ve_callB cr_len FX.b_len (by with_unfolding_all rfl) (va_cons (ve_name 2) va_nil)) ve_int) (by rfl)) (vss_one (vs_ret (ve_tup (vv_cons (ve_name 5) (vv_cons (ve_sl (ve_name 3) vo_none (vo_some (ve_un un_negD ve_int))) vv_nil))))) vss_nil)
  (vss_one (vs_ret (ve_tup (vv_cons (ve_name 5) (vv_cons (ve_bin op_addD (ve_bin op_addD (ve_sl (ve_name 3) vo_none (vo_some (ve_bin op_subD (ve_name 4) ve_int))) (ve_tup (vv_cons (ve_callB (cr_min2 rfl) FX.b_min (by with_unfolding_all rfl) (va_cons (ve_ix (ix_D hr) (ve_name 3) (ve_bin op_subD (ve_name 4) ve_int)) (va_cons (ve_ix (ix_D hr) (ve_name 3) (ve_name 4)) va_nil))) vv_nil))) (ve_sl (ve_name 3) (vo_some (ve_bin op_addD (ve_name 4) ve_int)) vo_none)) vv_nil))))))))))
def fs_places_of : Fs :=
  (sRet (dDc (enF (dBin ixD (dName 0) (dC (.int 0)))) (asgT [1, 2]) dYes (dName 2) (dName 1) [1, 2]))
def F_places_of : Fe := fnD 3 fs_places_of
theorem ok_places_of : CE P w K mg base 1 "places_of" ["order"] F_places_of := by
  have nd : (["order", "at", "letter"] : List Str).Nodup := by decide +kernel
  refine CE.of (N := ["order", "at", "letter"]) FX.d_places_of ⟨rfl, rfl, rfl, by decide +kernel, rfl, by decide +kernel, by decide +kernel⟩ (fun _ _ _ _ _ _ us hl => match us, hl with | [_], _ => rfl) fun X W cdv A outer s H E f hX hr hW tk po => ?_
  subst hX
  delta fs_places_of
  exact (vss_one (vs_ret (ve_dc rfl nd (blkOk_by (own := [("at",1),("letter",2)]) (by kernel_rfl)) (vi_enum rfl FX.b_enumerate (ve_ix (ix_D hr) (ve_name 0) ve_int)) (tg_tup _ [1, 2]) (fun _ _ _ _ _ => (pg_tup rfl (pgs_cons (pg_name nd rfl (by first | exact Or.inl rfl | exact Or.inr rfl)) (pgs_cons (pg_name nd rfl (by first | exact Or.inl rfl | exact Or.inr rfl)) pgs_nil)))) (fun _ _ _ _ _ => vifs_nil) (fun _ _ _ _ _ => (ve_name 2)) (fun _ _ _ _ _ => (ve_name 1)))))
def fs_least_between : Fs :=
  (sRet (dApp (f1 min1) (dCons (dSl (dBin ixD (dName 0) (dC (.int 1))) (oSome (dName 1)) (oSome (dName 2))) dNil)))
def F_least_between : Fe := fnD 3 fs_least_between
theorem ok_least_between : CE P w K mg base 1 "least_between" ["order", "low", "high"] F_least_between := by
  have nd : (["order", "low", "high"] : List Str).Nodup := by decide +kernel
  refine CE.of (N := ["order", "low", "high"]) FX.d_least_between ⟨rfl, rfl, rfl, by decide +kernel, rfl, by decide +kernel, by decide +kernel⟩ (fun _ _ _ _ _ _ us hl => match us, hl with | [_, _, _], _ => rfl) fun X W cdv A outer s H E f hX hr hW tk po => ?_
  subst hX
  delta fs_least_between
  exact (vss_one (vs_ret (ve_callB (cr_min1 rfl hr) FX.b_min (by with_unfolding_all rfl) (va_cons (ve_sl (ve_ix (ix_D hr) (ve_name 0) ve_int) (vo_some (ve_name 1)) (vo_some (ve_name 2))) va_nil))))
def fs_Pairs_lengths : Fs :=
  (sSeq (sSet 1 (dLc (itF (dUn (fldD "Pairs" "letters") (dName 0))) (asg1 3) dYes (dC (.int 1)) [3]))
  (sSeq (sFor (rngF rng3 (dCons (dBin subD (dUn (fldD "Pairs" "many") (dName 0)) (dC (.int 1))) (dCons (dUn negD (dC (.int 1))) (dCons (dUn negD (dC (.int 1))) dNil)))) (asg1 2) (sSetIx 1 (dName 2) (dBin addD (dC (.int 1)) (dApp (f1 max1) (dCons (dBin addD (dLst (vCons (dC (.int 0)) vNil)) (dLc (itF (dBin ixD (dUn (fldD "Pairs" "links") (dName 0)) (dName 2))) (asg1 4) dYes (dBin ixD (dName 1) (dName 4)) [4])) dNil)))))
  (sRet (dName 1))))
def F_Pairs_lengths : Fe := fnD 5 fs_Pairs_lengths
theorem ok_Pairs_lengths : CM P w K mg base 1 "Pairs" "lengths" ["self"] F_Pairs_lengths := by
  have nd : (["self", "found", "i", "_", "j"] : List Str).Nodup := by decide +kernel
  refine CM.of (N := ["self", "found", "i", "_", "j"]) FX.d_Pairs_lengths ⟨rfl, rfl, rfl, by decide +kernel, rfl, by decide +kernel, by decide +kernel⟩ (fun _ _ _ _ _ _ us hl => match us, hl with | [_], _ => rfl) fun X W cdv A outer s H E f hX hr hW tk po => ?_
  subst hX
  delta fs_Pairs_lengths
  exact (vss_cons (by first | exact (vs_setLc rfl nd rfl rfl (by rfl) (blkOk_by (own := [("_",3)]) (by kernel_rfl)) (vi_any (ve_fld FX.cf_Pairs (by decide +kernel) (ve_name 0))) (tg_name 3) (fun _ _ _ _ _ => (pg_name nd rfl (by first | exact Or.inl rfl | exact Or.inr rfl))) (fun _ _ _ _ _ => vifs_nil) (fun _ _ _ _ _ => ve_int)) | exact (vs_set nd rfl (by first | exact Or.inl rfl | exact Or.inr rfl) (ve_lc rfl nd (blkOk_by (own := [("_",3)]) (by kernel_rfl)) (vi_any (ve_fld FX.cf_Pairs (by decide +kernel) (ve_name 0))) (tg_name 3) (fun _ _ _ _ _ => (pg_name nd rfl (by first | exact Or.inl rfl | exact Or.inr rfl))) (fun _ _ _ _ _ => vifs_nil) (fun _ _ _ _ _ => ve_int))))
  (vss_cons (vs_for po rfl (vi_range3 rfl FX.b_range (va_cons (ve_bin op_subD (ve_fld FX.cf_Pairs (by decide +kernel) (ve_name 0)) ve_int) (va_cons (ve_un un_negD ve_int) (va_cons (ve_un un_negD ve_int) va_nil)))) (pg_name nd rfl (by first | exact Or.inl rfl | exact Or.inr rfl)) (tg_name 2) (vss_one (vs_setIx hr 1 rfl (by first | exact Or.inl rfl | exact Or.inr (Or.inl rfl) | exact Or.inr (Or.inr rfl)) (ve_name 2) (ve_bin op_addD ve_int (ve_callB (cr_max1 rfl hr) FX.b_max (by with_unfolding_all rfl) (va_cons (ve_bin op_addD (ve_lst (vv_cons ve_int vv_nil)) (ve_lc rfl nd (blkOk_by (own := [("j",4)]) (by kernel_rfl)) (vi_any (ve_ix (ix_D hr) (ve_fld FX.cf_Pairs (by decide +kernel) (ve_name 0)) (ve_name 2))) (tg_name 4) (fun _ _ _ _ _ => (pg_name nd rfl (by first | exact Or.inl rfl | exact Or.inr rfl))) (fun _ _ _ _ _ => vifs_nil) (fun _ _ _ _ _ => (ve_ix (ix_D hr) (ve_name 1) (ve_name 4))))) va_nil))))))
  (vss_one (vs_ret (ve_name 1)))))
def fs_longest_in : Fs :=
  (sSeq (sSet 1 (dMeth "Pairs" "lengths" F_Pairs_lengths [.b] (dName 0) dNil))
  (sSeq (sSet 2 (dLst vNil))
  (sSeq (sSet 3 (dApp (f1 max1) (dCons (dBin addD (dLst (vCons (dC (.int 0)) vNil)) (dName 1)) dNil)))
  (sSeq (sSet 4 (dUn rgD (dUn (fldD "Pairs" "many") (dName 0))))
  (sSeq (sWhile 1000 (dTB (dBin oGt (dName 3) (dC (.int 0)))) (sSeq (sSet 5 (dApp (f1 min1) (dCons (dLc (itF (dName 4)) (asg1 6) (dTB (dBin eqD (dBin ixD (dName 1) (dName 6)) (dName 3))) (dName 6) [6]) dNil)))
  (sSeq (sMut 2 appM (vCons (dBin ixD (dUn (fldD "Pairs" "letters") (dName 0)) (dName 5)) vNil))
  (sSeq (sSet 4 (dBin ixD (dUn (fldD "Pairs" "links") (dName 0)) (dName 5)))
  (sAugI 3 (fun i j => i - j) (dC (.int 1)))))))
  (sRet (dApp (f1 tupleD) (dCons (dName 2) dNil))))))))
def F_longest_in : Fe := fnD 7 fs_longest_in
theorem ok_longest_in : CE P w K mg base 2 "longest_in" ["pairs"] F_longest_in := by
  have nd : (["pairs", "lengths", "found", "left", "choices", "i", "one"] : List Str).Nodup := by decide +kernel
  refine CE.of (N := ["pairs", "lengths", "found", "left", "choices", "i", "one"]) FX.d_longest_in ⟨rfl, rfl, rfl, by decide +kernel, rfl, by decide +kernel, by decide +kernel⟩ (fun _ _ _ _ _ _ us hl => match us, hl with | [_], _ => rfl) fun X W cdv A outer s H E f hX hr hW tk po => ?_
  subst hX
  delta fs_longest_in
  exact (vss_cons (vs_set nd rfl (by first | exact Or.inl rfl | exact Or.inr rfl) ((ok_Pairs_lengths FX).ve0 FX.cf_Pairs FX.me_Pairs_lengths [.b] hr tk (ve_name 0)))
  (vss_cons (vs_set nd rfl (by first | exact Or.inl rfl | exact Or.inr rfl) (ve_lst vv_nil))
  (vss_cons (vs_set nd rfl (by first | exact Or.inl rfl | exact Or.inr rfl) (ve_callB (cr_max1 rfl hr) FX.b_max (by with_unfolding_all rfl) (va_cons (ve_bin op_addD (ve_lst (vv_cons ve_int vv_nil)) (ve_name 1)) va_nil)))
  (vss_cons (vs_set nd rfl (by first | exact Or.inl rfl | exact Or.inr rfl) (ve_listRg FX.b_list FX.b_range (ve_fld FX.cf_Pairs (by decide +kernel) (ve_name 0))))
  (vss_cons (vs_while 1000 po (vt_cmp (op_oGt hr) (ve_name 3) ve_int (by rfl)) (vss_cons (vs_set nd rfl (by first | exact Or.inl rfl | exact Or.inr rfl) (ve_callB (cr_min1 rfl hr) FX.b_min (by with_unfolding_all rfl) (va_cons (ve_lc rfl nd (blkOk_by (own := [("one",6)]) (by kernel_rfl)) (vi_any (ve_name 4)) (tg_name 6) (fun _ _ _ _ _ => (pg_name nd rfl (by first | exact Or.inl rfl | exact Or.inr rfl))) (fun _ _ _ _ _ => (vifs_one (vt_cmp (op_eqDD hr) (ve_ix (ix_D hr) (ve_name 1) (ve_name 6)) (ve_name 3) (by rfl)))) (fun _ _ _ _ _ => (ve_name 6))) va_nil)))
  (vss_cons (vs_mut 2 mt_append PySem.F.slot_list_append PySem.F.type_list_append imp_app_m rfl (by first | exact Or.inl rfl | exact Or.inr (Or.inl rfl) | exact Or.inr (Or.inr rfl)) (vv_cons (ve_ix (ix_D hr) (ve_fld FX.cf_Pairs (by decide +kernel) (ve_name 0)) (ve_name 5)) vv_nil))
  (vss_cons (vs_set nd rfl (by first | exact Or.inl rfl | exact Or.inr rfl) (ve_ix (ix_D hr) (ve_fld FX.cf_Pairs (by decide +kernel) (ve_name 0)) (ve_name 5)))
  (vss_one (vs_augI ip_sub nd rfl (by first | exact Or.inl rfl | exact Or.inr rfl) ve_int))))))
  (vss_one (vs_ret (ve_callTy cr_tuple FX.b_tuple (by with_unfolding_all rfl) (va_cons (ve_name 2) va_nil)))))))))
def fs_Pairs_can_follow : Fs :=
  (sSeq (sSet 3 (dBin ixD (dUn (fldD "Pairs" "places") (dName 0)) (dBin ixD (dUn (fldD "Pairs" "letters") (dName 0)) (dName 1))))
  (sSeq (sSet 4 (dBin ixD (dUn (fldD "Pairs" "places") (dName 0)) (dBin ixD (dUn (fldD "Pairs" "letters") (dName 0)) (dName 2))))
  (sSeq (sIf (dTB (dBin oGt (dName 3) (dName 4))) (sRet (dC (.bl false))) sNil)
  (sRet (dBin eqD (dCall F_least_between [.v,.v,.v] (dCons (dUn (fldD "Pairs" "first") (dName 0)) (dCons (dName 3) (dCons (dName 4) dNil)))) (dCall F_least_between [.v,.v,.v] (dCons (dUn (fldD "Pairs" "second") (dName 0)) (dCons (dBin ixD (dUn (fldD "Pairs" "own") (dName 0)) (dName 1)) (dCons (dBin ixD (dUn (fldD "Pairs" "own") (dName 0)) (dName 2)) dNil)))))))))
def F_Pairs_can_follow : Fe := fnD 5 fs_Pairs_can_follow
theorem ok_Pairs_can_follow : CM P w K mg base 2 "Pairs" "can_follow" ["self", "i", "j"] F_Pairs_can_follow := by
  have nd : (["self", "i", "j", "low", "high"] : List Str).Nodup := by decide +kernel
  refine CM.of (N := ["self", "i", "j", "low", "high"]) FX.d_Pairs_can_follow ⟨rfl, rfl, rfl, by decide +kernel, rfl, by decide +kernel, by decide +kernel⟩ (fun _ _ _ _ _ _ us hl => match us, hl with | [_, _, _], _ => rfl) fun X W cdv A outer s H E f hX hr hW tk po => ?_
  subst hX
  delta fs_Pairs_can_follow
  exact (vss_cons (vs_set nd rfl (by first | exact Or.inl rfl | exact Or.inr rfl) (ve_ix (ix_D hr) (ve_fld FX.cf_Pairs (by decide +kernel) (ve_name 0)) (ve_ix (ix_D hr) (ve_fld FX.cf_Pairs (by decide +kernel) (ve_name 0)) (ve_name 1))))
  (vss_cons (vs_set nd rfl (by first | exact Or.inl rfl | exact Or.inr rfl) (ve_ix (ix_D hr) (ve_fld FX.cf_Pairs (by decide +kernel) (ve_name 0)) (ve_ix (ix_D hr) (ve_fld FX.cf_Pairs (by decide +kernel) (ve_name 0)) (ve_name 2))))
  (vss_cons (vs_if (vt_cmp (op_oGt hr) (ve_name 3) (ve_name 4) (by rfl)) (vss_one (vs_ret ve_bl)) vss_nil)
  (vss_one (vs_ret (ve_cmp (op_eqDD hr) ((ok_least_between FX).ve [.v,.v,.v] hr tk (va_cons (ve_fld FX.cf_Pairs (by decide +kernel) (ve_name 0)) (va_cons (ve_name 3) (va_cons (ve_name 4) va_nil)))) ((ok_least_between FX).ve [.v,.v,.v] hr tk (va_cons (ve_fld FX.cf_Pairs (by decide +kernel) (ve_name 0)) (va_cons (ve_ix (ix_D hr) (ve_fld FX.cf_Pairs (by decide +kernel) (ve_name 0)) (ve_name 1)) (va_cons (ve_ix (ix_D hr) (ve_fld FX.cf_Pairs (by decide +kernel) (ve_name 0)) (ve_name 2)) va_nil)))) (by rfl)))))))
def fs_Pairs___init__ : Fs :=
  (sSeq (sFldS 0 "Pairs" "places" (dCall F_places_of [.v] (dCons (dName 1) dNil)))
  (sSeq (sFldS 0 "Pairs" "first" (dName 1))
  (sSeq (sFldS 0 "Pairs" "second" (dName 2))
  (sSeq (sFldS 0 "Pairs" "own" (dLc (enF (dBin ixD (dName 2) (dC (.int 0)))) (asgT [3, 4]) (dTB (dBin inD (dName 4) (dUn (fldD "Pairs" "places") (dName 0)))) (dName 3) [3, 4]))
  (sSeq (sFldS 0 "Pairs" "letters" (dLc (itF (dUn (fldD "Pairs" "own") (dName 0))) (asg1 3) dYes (dBin ixD (dBin ixD (dName 2) (dC (.int 0))) (dName 3)) [3]))
  (sSeq (sFldS 0 "Pairs" "many" (dApp (f1 lenD) (dCons (dUn (fldD "Pairs" "own") (dName 0)) dNil)))
  (sFldS 0 "Pairs" "links" (dLc (rngF rng1 (dCons (dUn (fldD "Pairs" "many") (dName 0)) dNil)) (asg1 5) dYes (dLc (rngF rng2 (dCons (dBin addD (dName 5) (dC (.int 1))) (dCons (dUn (fldD "Pairs" "many") (dName 0)) dNil))) (asg1 6) (dTru (dMeth "Pairs" "can_follow" F_Pairs_can_follow [.b,.v,.v] (dName 0) (dCons (dName 5) (dCons (dName 6) dNil)))) (dName 6) [6]) [5]))))))))
def F_Pairs___init__ : Fe := fnD 7 fs_Pairs___init__
theorem ok_Pairs___init__ : CM P w K mg base 3 "Pairs" "__init__" ["self", "first", "second"] F_Pairs___init__ := by
  have nd : (["self", "first", "second", "at", "letter", "i", "j"] : List Str).Nodup := by decide +kernel
  refine CM.of (N := ["self", "first", "second", "at", "letter", "i", "j"]) FX.d_Pairs___init__ ⟨rfl, rfl, rfl, by decide +kernel, rfl, by decide +kernel, by decide +kernel⟩ (fun _ _ _ _ _ _ us hl => match us, hl with | [_, _, _], _ => rfl) fun X W cdv A outer s H E f hX hr hW tk po => ?_
  subst hX
  delta fs_Pairs___init__
  exact (vss_cons (vs_fldS FX.cf_Pairs (by decide +kernel) 0 rfl (by first | exact Or.inl rfl | exact Or.inr (Or.inl rfl) | exact Or.inr (Or.inr rfl)) ((ok_places_of FX).ve [.v] hr tk (va_cons (ve_name 1) va_nil)))
  (vss_cons (vs_fldS FX.cf_Pairs (by decide +kernel) 0 rfl (by first | exact Or.inl rfl | exact Or.inr (Or.inl rfl) | exact Or.inr (Or.inr rfl)) (ve_name 1))
  (vss_cons (vs_fldS FX.cf_Pairs (by decide +kernel) 0 rfl (by first | exact Or.inl rfl | exact Or.inr (Or.inl rfl) | exact Or.inr (Or.inr rfl)) (ve_name 2))
  (vss_cons (vs_fldS FX.cf_Pairs (by decide +kernel) 0 rfl (by first | exact Or.inl rfl | exact Or.inr (Or.inl rfl) | exact Or.inr (Or.inr rfl)) (ve_lc rfl nd (blkOk_by (own := [("at",3),("letter",4)]) (by kernel_rfl)) (vi_enum rfl FX.b_enumerate (ve_ix (ix_D hr) (ve_name 2) ve_int)) (tg_tup _ [3, 4]) (fun _ _ _ _ _ => (pg_tup rfl (pgs_cons (pg_name nd rfl (by first | exact Or.inl rfl | exact Or.inr rfl)) (pgs_cons (pg_name nd rfl (by first | exact Or.inl rfl | exact Or.inr rfl)) pgs_nil)))) (fun _ _ _ _ _ => (vifs_one (vt_cmp (op_inDD hr) (ve_name 4) (ve_fld FX.cf_Pairs (by decide +kernel) (ve_name 0)) (by rfl)))) (fun _ _ _ _ _ => (ve_name 3))))
  (vss_cons (vs_fldS FX.cf_Pairs (by decide +kernel) 0 rfl (by first | exact Or.inl rfl | exact Or.inr (Or.inl rfl) | exact Or.inr (Or.inr rfl)) (ve_lc rfl nd (blkOk_by (own := [("at",3)]) (by kernel_rfl)) (vi_any (ve_fld FX.cf_Pairs (by decide +kernel) (ve_name 0))) (tg_name 3) (fun _ _ _ _ _ => (pg_name nd rfl (by first | exact Or.inl rfl | exact Or.inr rfl))) (fun _ _ _ _ _ => vifs_nil) (fun _ _ _ _ _ => (ve_ix (ix_D hr) (ve_ix (ix_D hr) (ve_name 2) ve_int) (ve_name 3)))))
  (vss_cons (vs_fldS FX.cf_Pairs (by decide +kernel) 0 rfl (by first | exact Or.inl rfl | exact Or.inr (Or.inl rfl) | exact Or.inr (Or.inr rfl)) (ve_callB cr_len FX.b_len (by with_unfolding_all rfl) (va_cons (ve_fld FX.cf_Pairs (by decide +kernel) (ve_name 0)) va_nil)))
  (vss_one (vs_fldS FX.cf_Pairs (by decide +kernel) 0 rfl (by first | exact Or.inl rfl | exact Or.inr (Or.inl rfl) | exact Or.inr (Or.inr rfl)) (ve_lc rfl nd (blkOk_by (own := [("i",5)]) (by kernel_rfl)) (vi_range1 rfl FX.b_range (va_cons (ve_fld FX.cf_Pairs (by decide +kernel) (ve_name 0)) va_nil)) (tg_name 5) (fun _ _ _ _ _ => (pg_name nd rfl (by first | exact Or.inl rfl | exact Or.inr rfl))) (fun _ _ _ _ _ => vifs_nil) (fun _ _ _ _ _ => (ve_lc rfl nd (blkOk_by (own := [("j",6)]) (by kernel_rfl)) (vi_range2 rfl FX.b_range (va_cons (ve_bin op_addD (ve_name 5) ve_int) (va_cons (ve_fld FX.cf_Pairs (by decide +kernel) (ve_name 0)) va_nil))) (tg_name 6) (fun _ _ _ _ _ => (pg_name nd rfl (by first | exact Or.inl rfl | exact Or.inr rfl))) (fun _ _ _ _ _ => (vifs_one (vt_tru ((ok_Pairs_can_follow FX).ve FX.cf_Pairs FX.me_Pairs_can_follow [.b,.v,.v] hr takes0 (ve_name 0) (va_cons (ve_name 5) (va_cons (ve_name 6) va_nil)))))) (fun _ _ _ _ _ => (ve_name 6)))))))))))))
def fs_longest_of : Fs :=
  (sRet (dCallN F_longest_in .b (dMake "Pairs" F_Pairs___init__ [.v,.v] (dCons (dName 0) (dCons (dName 1) dNil)))))
def F_longest_of : Fe := fnD 2 fs_longest_of
theorem ok_longest_of : CE P w K mg base 5 "longest_of" ["first", "second"] F_longest_of := by
  have nd : (["first", "second"] : List Str).Nodup := by decide +kernel
  refine CE.of (N := ["first", "second"]) FX.d_longest_of ⟨rfl, rfl, rfl, by decide +kernel, rfl, by decide +kernel, by decide +kernel⟩ (fun _ _ _ _ _ _ us hl => match us, hl with | [_, _], _ => rfl) fun X W cdv A outer s H E f hX hr hW tk po => ?_
  subst hX
  delta fs_longest_of
  exact (vss_one (vs_ret ((ok_longest_in FX).veN .b hr tk ((ok_Pairs___init__ FX).mk FX.mk_Pairs [.v,.v] hr tk FX.g_Pairs (va_cons (ve_name 0) (va_cons (ve_name 1) va_nil))))))
def fs_is_integer : Fs :=
  (sRet (dAndV (dUn (isiT .int) (dName 0)) (dNotV (dUn (isiT .bool) (dName 0)))))
def F_is_integer : Fe := fnD 1 fs_is_integer
theorem ok_is_integer : CE P w K mg base 1 "is_integer" ["value"] F_is_integer := by
  have nd : (["value"] : List Str).Nodup := by decide +kernel
  refine CE.of (N := ["value"]) FX.d_is_integer ⟨rfl, rfl, rfl, by decide +kernel, rfl, by decide +kernel, by decide +kernel⟩ (fun _ _ _ _ _ _ us hl => match us, hl with | [_], _ => rfl) fun X W cdv A outer s H E f hX hr hW tk po => ?_
  subst hX
  delta fs_is_integer
  exact (vss_one (vs_ret (ve_and (ve_isi .int FX.b_isinstance FX.b_int (ve_name 0)) (ve_one (ve_not (ve_isi .bool FX.b_isinstance FX.b_bool (ve_name 0)))))))
def fs_are_right : Fs :=
  (sSeq (sIf (dOr (dNot (dTru (dUn (isiT .tuple) (dName 2)))) (dOr (dTB (dBin neD (dApp (f1 lenD) (dCons (dName 2) dNil)) (dApp (f1 lenD) (dCons (dBin ixD (dName 1) (dC (.int 0))) dNil)))) (dNot (dTru (dApp (f1 allD) (dCons (dLc (itF (dName 2)) (asg1 9) dYes (dCall F_is_integer [.v] (dCons (dName 9) dNil)) [9]) dNil)))))) (sRet (dC (.bl false))) sNil)
  (sSeq (sSet 3 (dMake "Pairs" F_Pairs___init__ [.v,.v] (dCons (dName 0) (dCons (dName 1) dNil))))
  (sSeq (sIf (dNot (dTru (dApp (f1 allD) (dCons (dLc (rngF rng1 (dCons (dApp (f1 lenD) (dCons (dName 2) dNil)) dNil)) (asg1 6) dYes (dOrV (dBin eqD (dBin ixD (dName 2) (dName 6)) (dC (.int 0))) (dBin inD (dBin ixD (dBin ixD (dName 1) (dC (.int 0))) (dName 6)) (dUn (fldD "Pairs" "places") (dName 3)))) [6]) dNil)))) (sRet (dC (.bl false))) sNil)
  (sSeq (sSet 4 (dLc (itF (dUn (fldD "Pairs" "own") (dName 3))) (asg1 6) dYes (dBin ixD (dName 2) (dName 6)) [6]))
  (sSeq (sIf (dNot (dTru (dApp (f1 allD) (dCons (dLc (itF (dName 4)) (asg1 7) dYes (dBin oGe (dName 7) (dC (.int 1))) [7]) dNil)))) (sRet (dC (.bl false))) sNil)
  (sSeq (sFor (rngF rng1 (dCons (dUn (fldD "Pairs" "many") (dName 3)) dNil)) (asg1 5) (sIf (dTru (dApp (f1 anyD) (dCons (dLc (itF (dBin ixD (dUn (fldD "Pairs" "links") (dName 3)) (dName 5))) (asg1 8) dYes (dBin oLe (dBin ixD (dName 4) (dName 8)) (dBin ixD (dName 4) (dName 5))) [8]) dNil))) (sRet (dC (.bl false))) sNil))
  (sRet (dC (.bl true)))))))))
def F_are_right : Fe := fnD 10 fs_are_right
theorem ok_are_right : CE P w K mg base 5 "are_right" ["first", "second", "levels"] F_are_right := by
  have nd : (["first", "second", "levels", "pairs", "row", "i", "at", "level", "j", "one"] : List Str).Nodup := by decide +kernel
  refine CE.of (N := ["first", "second", "levels", "pairs", "row", "i", "at", "level", "j", "one"]) FX.d_are_right ⟨rfl, rfl, rfl, by decide +kernel, rfl, by decide +kernel, by decide +kernel⟩ (fun _ _ _ _ _ _ us hl => match us, hl with | [_, _, _], _ => rfl) fun X W cdv A outer s H E f hX hr hW tk po => ?_
  subst hX
  delta fs_are_right
  exact (vss_cons (vs_if (vt_w (vw_or (vt_not (vt_tru (ve_isi .tuple FX.b_isinstance FX.b_tuple (ve_name 2)))) (vw_or (vt_cmp (op_neDD hr) (ve_callB cr_len FX.b_len (by with_unfolding_all rfl) (va_cons (ve_name 2) va_nil)) (ve_callB cr_len FX.b_len (by with_unfolding_all rfl) (va_cons (ve_ix (ix_D hr) (ve_name 1) ve_int) va_nil)) (by rfl)) (vw_one_or (vt_not (vt_tru (ve_callB (cr_allD rfl) FX.b_all (by with_unfolding_all rfl) (va_cons (ve_lc rfl nd (blkOk_by (own := [("one",9)]) (by kernel_rfl)) (vi_any (ve_name 2)) (tg_name 9) (fun _ _ _ _ _ => (pg_name nd rfl (by first | exact Or.inl rfl | exact Or.inr rfl))) (fun _ _ _ _ _ => vifs_nil) (fun _ _ _ _ _ => ((ok_is_integer FX).ve [.v] hr takes0 (va_cons (ve_name 9) va_nil)))) va_nil)))))))) (vss_one (vs_ret ve_bl)) vss_nil)
  (vss_cons (vs_set nd rfl (by first | exact Or.inl rfl | exact Or.inr rfl) ((ok_Pairs___init__ FX).mk FX.mk_Pairs [.v,.v] hr tk FX.g_Pairs (va_cons (ve_name 0) (va_cons (ve_name 1) va_nil))))
  (vss_cons (vs_if (vt_not (vt_tru (ve_callB (cr_allD rfl) FX.b_all (by with_unfolding_all rfl) (va_cons (ve_lc rfl nd (blkOk_by (own := [("at",6)]) (by kernel_rfl)) (vi_range1 rfl FX.b_range (va_cons (ve_callB cr_len FX.b_len (by with_unfolding_all rfl) (va_cons (ve_name 2) va_nil)) va_nil)) (tg_name 6) (fun _ _ _ _ _ => (pg_name nd rfl (by first | exact Or.inl rfl | exact Or.inr rfl))) (fun _ _ _ _ _ => vifs_nil) (fun _ _ _ _ _ => (ve_or (ve_cmp (op_eqDD hr) (ve_ix (ix_D hr) (ve_name 2) (ve_name 6)) ve_int (by rfl)) (ve_one (ve_cmp (op_inDD hr) (ve_ix (ix_D hr) (ve_ix (ix_D hr) (ve_name 1) ve_int) (ve_name 6)) (ve_fld FX.cf_Pairs (by decide +kernel) (ve_name 3)) (by rfl)))))) va_nil)))) (vss_one (vs_ret ve_bl)) vss_nil)
  (vss_cons (by first | exact (vs_setLc rfl nd rfl rfl (by rfl) (blkOk_by (own := [("at",6)]) (by kernel_rfl)) (vi_any (ve_fld FX.cf_Pairs (by decide +kernel) (ve_name 3))) (tg_name 6) (fun _ _ _ _ _ => (pg_name nd rfl (by first | exact Or.inl rfl | exact Or.inr rfl))) (fun _ _ _ _ _ => vifs_nil) (fun _ _ _ _ _ => (ve_ix (ix_D hr) (ve_name 2) (ve_name 6)))) | exact (vs_set nd rfl (by first | exact Or.inl rfl | exact Or.inr rfl) (ve_lc rfl nd (blkOk_by (own := [("at",6)]) (by kernel_rfl)) (vi_any (ve_fld FX.cf_Pairs (by decide +kernel) (ve_name 3))) (tg_name 6) (fun _ _ _ _ _ => (pg_name nd rfl (by first | exact Or.inl rfl | exact Or.inr rfl))) (fun _ _ _ _ _ => vifs_nil) (fun _ _ _ _ _ => (ve_ix (ix_D hr) (ve_name 2) (ve_name 6))))))
  (vss_cons (vs_if (vt_not (vt_tru (ve_callB (cr_allD rfl) FX.b_all (by with_unfolding_all rfl) (va_cons (ve_lc rfl nd (blkOk_by (own := [("level",7)]) (by kernel_rfl)) (vi_any (ve_name 4)) (tg_name 7) (fun _ _ _ _ _ => (pg_name nd rfl (by first | exact Or.inl rfl | exact Or.inr rfl))) (fun _ _ _ _ _ => vifs_nil) (fun _ _ _ _ _ => (ve_cmp (op_oGe hr) (ve_name 7) ve_int (by rfl)))) va_nil)))) (vss_one (vs_ret ve_bl)) vss_nil)
  (vss_cons (vs_for po rfl (vi_range1 rfl FX.b_range (va_cons (ve_fld FX.cf_Pairs (by decide +kernel) (ve_name 3)) va_nil)) (pg_name nd rfl (by first | exact Or.inl rfl | exact Or.inr rfl)) (tg_name 5) (vss_one (vs_if (vt_tru (ve_callB (cr_anyD rfl) FX.b_any (by with_unfolding_all rfl) (va_cons (ve_lc rfl nd (blkOk_by (own := [("j",8)]) (by kernel_rfl)) (vi_any (ve_ix (ix_D hr) (ve_fld FX.cf_Pairs (by decide +kernel) (ve_name 3)) (ve_name 5))) (tg_name 8) (fun _ _ _ _ _ => (pg_name nd rfl (by first | exact Or.inl rfl | exact Or.inr rfl))) (fun _ _ _ _ _ => vifs_nil) (fun _ _ _ _ _ => (ve_cmp (op_oLe hr) (ve_ix (ix_D hr) (ve_name 4) (ve_name 8)) (ve_ix (ix_D hr) (ve_name 4) (ve_name 5)) (by rfl)))) va_nil))) (vss_one (vs_ret ve_bl)) vss_nil)))
  (vss_one (vs_ret ve_bl))))))))
def fs_turned_around : Fs :=
  (sRet (dTup (vCons (dUn revD (dBin ixD (dName 0) (dC (.int 0)))) (vCons (dUn revD (dBin ixD (dName 0) (dC (.int 1)))) vNil))))
def F_turned_around : Fe := fnD 1 fs_turned_around
theorem ok_turned_around : CE P w K mg base 1 "turned_around" ["order"] F_turned_around := by
  have nd : (["order"] : List Str).Nodup := by decide +kernel
  refine CE.of (N := ["order"]) FX.d_turned_around ⟨rfl, rfl, rfl, by decide +kernel, rfl, by decide +kernel, by decide +kernel⟩ (fun _ _ _ _ _ _ us hl => match us, hl with | [_], _ => rfl) fun X W cdv A outer s H E f hX hr hW tk po => ?_
  subst hX
  delta fs_turned_around
  exact (vss_one (vs_ret (ve_tup (vv_cons (ve_rev (ve_ix (ix_D hr) (ve_name 0) ve_int)) (vv_cons (ve_rev (ve_ix (ix_D hr) (ve_name 0) ve_int)) vv_nil)))))
def fs_put_after : Fs :=
  (sSeq (sUnp [4, 5] (dName 0))
  (sSeq (sSet 6 (dM1 indexD (dName 4) (dName 1)))
  (sSeq (sWhile 1000 (dAnd (dTB (dBin oLt (dName 6) (dApp (f1 lenD) (dCons (dName 5) dNil)))) (dTB (dBin oGt (dBin ixD (dName 5) (dName 6)) (dName 2)))) (sSet 6 (dBin addD (dName 6) (dC (.int 1)))))
  (sSeq (sSet 7 (dBin addD (dBin addD (dSl (dName 4) oNone (oSome (dBin addD (dName 6) (dC (.int 1))))) (dTup (vCons (dName 3) vNil))) (dSl (dName 4) (oSome (dBin addD (dName 6) (dC (.int 1)))) oNone)))
  (sRet (dTup (vCons (dName 7) (vCons (dBin addD (dBin addD (dSl (dName 5) oNone (oSome (dName 6))) (dTup (vCons (dName 2) vNil))) (dSl (dName 5) (oSome (dName 6)) oNone)) vNil))))))))
def F_put_after : Fe := fnD 8 fs_put_after
theorem ok_put_after : CE P w K mg base 1 "put_after" ["order", "anchor", "strength", "letter"] F_put_after := by
  have nd : (["order", "anchor", "strength", "letter", "letters", "strengths", "at", "row"] : List Str).Nodup := by decide +kernel
  refine CE.of (N := ["order", "anchor", "strength", "letter", "letters", "strengths", "at", "row"]) FX.d_put_after ⟨rfl, rfl, rfl, by decide +kernel, rfl, by decide +kernel, by decide +kernel⟩ (fun _ _ _ _ _ _ us hl => match us, hl with | [_, _, _, _], _ => rfl) fun X W cdv A outer s H E f hX hr hW tk po => ?_
  subst hX
  delta fs_put_after
  exact (vss_cons (vs_unp (is := [4, 5]) rfl (pgs_cons (pg_name nd rfl (by first | exact Or.inl rfl | exact Or.inr rfl)) (pgs_cons (pg_name nd rfl (by first | exact Or.inl rfl | exact Or.inr rfl)) pgs_nil)) (ve_name 0))
  (vss_cons (vs_set nd rfl (by first | exact Or.inl rfl | exact Or.inr rfl) (ve_m1 PySem.F.slot_list_index PySem.F.type_list_index (mt_indexL hr) PySem.F.slot_tuple_index PySem.F.type_tuple_index (mt_indexT hr) (ve_name 4) (ve_name 1)))
  (vss_cons (vs_while 1000 po (vt_w (vw_and (vt_cmp (op_oLt hr) (ve_name 6) (ve_callB cr_len FX.b_len (by with_unfolding_all rfl) (va_cons (ve_name 5) va_nil)) (by rfl)) (vw_one_and (vt_cmp (op_oGt hr) (ve_ix (ix_D hr) (ve_name 5) (ve_name 6)) (ve_name 2) (by rfl))))) (vss_one (vs_set nd rfl (by first | exact Or.inl rfl | exact Or.inr rfl) (ve_bin op_addD (ve_name 6) ve_int))))
  (vss_cons (vs_set nd rfl (by first | exact Or.inl rfl | exact Or.inr rfl) (ve_bin op_addD (ve_bin op_addD (ve_sl (ve_name 4) vo_none (vo_some (ve_bin op_addD (ve_name 6) ve_int))) (ve_tup (vv_cons (ve_name 3) vv_nil))) (ve_sl (ve_name 4) (vo_some (ve_bin op_addD (ve_name 6) ve_int)) vo_none)))
  (vss_one (vs_ret (ve_tup (vv_cons (ve_name 7) (vv_cons (ve_bin op_addD (ve_bin op_addD (ve_sl (ve_name 5) vo_none (vo_some (ve_name 6))) (ve_tup (vv_cons (ve_name 2) vv_nil))) (ve_sl (ve_name 5) (vo_some (ve_name 6)) vo_none)) vv_nil)))))))))
def fs_put : Fs :=
  (sSeq (sUnp [2, 3, 4, 5] (dName 1))
  (sSeq (sIf (dTB (dBin inD (dName 5) (dBin ixD (dName 0) (dC (.int 0))))) (sSet 0 (dCall F_removed [.v,.v] (dCons (dName 0) (dCons (dName 5) dNil)))) sNil)
  (sSeq (sIf (dTB (dBin eqD (dName 2) (dC (.str "after")))) (sRet (dCall F_put_after [.v,.v,.v,.v] (dCons (dName 0) (dCons (dName 3) (dCons (dName 4) (dCons (dName 5) dNil)))))) sNil)
  (sRet (dCall F_turned_around [.v] (dCons (dCall F_put_after [.v,.v,.v,.v] (dCons (dCall F_turned_around [.v] (dCons (dName 0) dNil)) (dCons (dName 3) (dCons (dName 4) (dCons (dName 5) dNil))))) dNil))))))
def F_put : Fe := fnD 6 fs_put
theorem ok_put : CE P w K mg base 2 "put" ["order", "rule"] F_put := by
  have nd : (["order", "rule", "side", "anchor", "strength", "letter"] : List Str).Nodup := by decide +kernel
  refine CE.of (N := ["order", "rule", "side", "anchor", "strength", "letter"]) FX.d_put ⟨rfl, rfl, rfl, by decide +kernel, rfl, by decide +kernel, by decide +kernel⟩ (fun _ _ _ _ _ _ us hl => match us, hl with | [_, _], _ => rfl) fun X W cdv A outer s H E f hX hr hW tk po => ?_
  subst hX
  delta fs_put
  exact (vss_cons (vs_unp (is := [2, 3, 4, 5]) rfl (pgs_cons (pg_name nd rfl (by first | exact Or.inl rfl | exact Or.inr rfl)) (pgs_cons (pg_name nd rfl (by first | exact Or.inl rfl | exact Or.inr rfl)) (pgs_cons (pg_name nd rfl (by first | exact Or.inl rfl | exact Or.inr rfl)) (pgs_cons (pg_name nd rfl (by first | exact Or.inl rfl | exact Or.inr rfl)) pgs_nil)))) (ve_name 1))
  (vss_cons (vs_if (vt_cmp (op_inDD hr) (ve_name 5) (ve_ix (ix_D hr) (ve_name 0) ve_int) (by rfl)) (vss_one (vs_set nd rfl (by first | exact Or.inl rfl | exact Or.inr rfl) ((ok_removed FX).ve [.v,.v] hr tk (va_cons (ve_name 0) (va_cons (ve_name 5) va_nil))))) vss_nil)
  (vss_cons (vs_if (vt_cmp (op_eqDD hr) (ve_name 2) ve_str (by rfl)) (vss_one (vs_ret ((ok_put_after FX).ve [.v,.v,.v,.v] hr tk (va_cons (ve_name 0) (va_cons (ve_name 3) (va_cons (ve_name 4) (va_cons (ve_name 5) va_nil))))))) vss_nil)
  (vss_one (vs_ret ((ok_turned_around FX).ve [.v] hr tk (va_cons ((ok_put_after FX).ve [.v,.v,.v,.v] hr tk (va_cons ((ok_turned_around FX).ve [.v] hr tk (va_cons (ve_name 0) va_nil)) (va_cons (ve_name 3) (va_cons (ve_name 4) (va_cons (ve_name 5) va_nil))))) va_nil)))))))
def fs_from_left : Fs :=
  (sSeq (sUnp [3, 4] (dName 0))
  (sRet (dLc (rngF rng2 (dCons (dName 1) (dCons (dName 2) dNil))) (asg1 5) dYes (dTup (vCons (dC (.str "after")) (vCons (dBin ixD (dName 3) (dBin subD (dName 5) (dC (.int 1)))) (vCons (dBin ixD (dName 4) (dBin subD (dName 5) (dC (.int 1)))) (vCons (dBin ixD (dName 3) (dName 5)) vNil))))) [5])))
def F_from_left : Fe := fnD 6 fs_from_left
theorem ok_from_left : CE P w K mg base 1 "from_left" ["second", "low", "high"] F_from_left := by
  have nd : (["second", "low", "high", "letters", "strengths", "at"] : List Str).Nodup := by decide +kernel
  refine CE.of (N := ["second", "low", "high", "letters", "strengths", "at"]) FX.d_from_left ⟨rfl, rfl, rfl, by decide +kernel, rfl, by decide +kernel, by decide +kernel⟩ (fun _ _ _ _ _ _ us hl => match us, hl with | [_, _, _], _ => rfl) fun X W cdv A outer s H E f hX hr hW tk po => ?_
  subst hX
  delta fs_from_left
  exact (vss_cons (vs_unp (is := [3, 4]) rfl (pgs_cons (pg_name nd rfl (by first | exact Or.inl rfl | exact Or.inr rfl)) (pgs_cons (pg_name nd rfl (by first | exact Or.inl rfl | exact Or.inr rfl)) pgs_nil)) (ve_name 0))
  (vss_one (vs_ret (ve_lc rfl nd (blkOk_by (own := [("at",5)]) (by kernel_rfl)) (vi_range2 rfl FX.b_range (va_cons (ve_name 1) (va_cons (ve_name 2) va_nil))) (tg_name 5) (fun _ _ _ _ _ => (pg_name nd rfl (by first | exact Or.inl rfl | exact Or.inr rfl))) (fun _ _ _ _ _ => vifs_nil) (fun _ _ _ _ _ => (ve_tup (vv_cons ve_str (vv_cons (ve_ix (ix_D hr) (ve_name 3) (ve_bin op_subD (ve_name 5) ve_int)) (vv_cons (ve_ix (ix_D hr) (ve_name 4) (ve_bin op_subD (ve_name 5) ve_int)) (vv_cons (ve_ix (ix_D hr) (ve_name 3) (ve_name 5)) vv_nil))))))))))
def fs_from_right : Fs :=
  (sSeq (sUnp [3, 4] (dName 0))
  (sRet (dLc (rngF rng3 (dCons (dBin subD (dName 2) (dC (.int 1))) (dCons (dBin subD (dName 1) (dC (.int 1))) (dCons (dUn negD (dC (.int 1))) dNil)))) (asg1 5) dYes (dTup (vCons (dC (.str "before")) (vCons (dBin ixD (dName 3) (dBin addD (dName 5) (dC (.int 1)))) (vCons (dBin ixD (dName 4) (dName 5)) (vCons (dBin ixD (dName 3) (dName 5)) vNil))))) [5])))
def F_from_right : Fe := fnD 6 fs_from_right
theorem ok_from_right : CE P w K mg base 1 "from_right" ["second", "low", "high"] F_from_right := by
  have nd : (["second", "low", "high", "letters", "strengths", "at"] : List Str).Nodup := by decide +kernel
  refine CE.of (N := ["second", "low", "high", "letters", "strengths", "at"]) FX.d_from_right ⟨rfl, rfl, rfl, by decide +kernel, rfl, by decide +kernel, by decide +kernel⟩ (fun _ _ _ _ _ _ us hl => match us, hl with | [_, _, _], _ => rfl) fun X W cdv A outer s H E f hX hr hW tk po => ?_
  subst hX
  delta fs_from_right
  exact (vss_cons (vs_unp (is := [3, 4]) rfl (pgs_cons (pg_name nd rfl (by first | exact Or.inl rfl | exact Or.inr rfl)) (pgs_cons (pg_name nd rfl (by first | exact Or.inl rfl | exact Or.inr rfl)) pgs_nil)) (ve_name 0))
  (vss_one (vs_ret (ve_lc rfl nd (blkOk_by (own := [("at",5)]) (by kernel_rfl)) (vi_range3 rfl FX.b_range (va_cons (ve_bin op_subD (ve_name 2) ve_int) (va_cons (ve_bin op_subD (ve_name 1) ve_int) (va_cons (ve_un un_negD ve_int) va_nil)))) (tg_name 5) (fun _ _ _ _ _ => (pg_name nd rfl (by first | exact Or.inl rfl | exact Or.inr rfl))) (fun _ _ _ _ _ => vifs_nil) (fun _ _ _ _ _ => (ve_tup (vv_cons ve_str (vv_cons (ve_ix (ix_D hr) (ve_name 3) (ve_bin op_addD (ve_name 5) ve_int)) (vv_cons (ve_ix (ix_D hr) (ve_name 4) (ve_name 5)) (vv_cons (ve_ix (ix_D hr) (ve_name 3) (ve_name 5)) vv_nil))))))))))
def fs_gap_rules : Fs :=
  (sSeq (sSet 3 (dApp (f1 min1) (dCons (dSl (dBin ixD (dName 0) (dC (.int 1))) (oSome (dName 1)) (oSome (dName 2))) dNil)))
  (sSeq (sSet 4 (dBin addD (dName 1) (dM1 indexD (dSl (dBin ixD (dName 0) (dC (.int 1))) (oSome (dName 1)) (oSome (dName 2))) (dName 3))))
  (sRet (dBin addD (dCall F_from_left [.v,.v,.v] (dCons (dName 0) (dCons (dBin addD (dName 1) (dC (.int 1))) (dCons (dBin addD (dName 4) (dC (.int 1))) dNil)))) (dCall F_from_right [.v,.v,.v] (dCons (dName 0) (dCons (dBin addD (dName 4) (dC (.int 1))) (dCons (dName 2) dNil))))))))
def F_gap_rules : Fe := fnD 5 fs_gap_rules
theorem ok_gap_rules : CE P w K mg base 2 "gap_rules" ["second", "low", "high"] F_gap_rules := by
  have nd : (["second", "low", "high", "strongest", "cut"] : List Str).Nodup := by decide +kernel
  refine CE.of (N := ["second", "low", "high", "strongest", "cut"]) FX.d_gap_rules ⟨rfl, rfl, rfl, by decide +kernel, rfl, by decide +kernel, by decide +kernel⟩ (fun _ _ _ _ _ _ us hl => match us, hl with | [_, _, _], _ => rfl) fun X W cdv A outer s H E f hX hr hW tk po => ?_
  subst hX
  delta fs_gap_rules
  exact (vss_cons (vs_set nd rfl (by first | exact Or.inl rfl | exact Or.inr rfl) (ve_callB (cr_min1 rfl hr) FX.b_min (by with_unfolding_all rfl) (va_cons (ve_sl (ve_ix (ix_D hr) (ve_name 0) ve_int) (vo_some (ve_name 1)) (vo_some (ve_name 2))) va_nil)))
  (vss_cons (vs_set nd rfl (by first | exact Or.inl rfl | exact Or.inr rfl) (ve_bin op_addD (ve_name 1) (ve_m1 PySem.F.slot_list_index PySem.F.type_list_index (mt_indexL hr) PySem.F.slot_tuple_index PySem.F.type_tuple_index (mt_indexT hr) (ve_sl (ve_ix (ix_D hr) (ve_name 0) ve_int) (vo_some (ve_name 1)) (vo_some (ve_name 2))) (ve_name 3))))
  (vss_one (vs_ret (ve_bin op_addD ((ok_from_left FX).ve [.v,.v,.v] hr tk (va_cons (ve_name 0) (va_cons (ve_bin op_addD (ve_name 1) ve_int) (va_cons (ve_bin op_addD (ve_name 4) ve_int) va_nil)))) ((ok_from_right FX).ve [.v,.v,.v] hr tk (va_cons (ve_name 0) (va_cons (ve_bin op_addD (ve_name 4) ve_int) (va_cons (ve_name 2) va_nil)))))))))
def fs_keep : Fs :=
  (sSeq (sSet 2 (dLc (itF (dName 1)) (asg1 6) dYes (dM1 indexD (dBin ixD (dName 0) (dC (.int 0))) (dName 6)) [6]))
  (sSeq (sSet 3 (dCall F_from_right [.v,.v,.v] (dCons (dName 0) (dCons (dC (.int 0)) (dCons (dBin ixD (dName 2) (dC (.int 0))) dNil)))))
  (sSeq (sFor (ziF (dCons (dName 2) (dCons (dSl (dName 2) (oSome (dC (.int 1))) oNone) dNil))) (asgT [4, 5]) (sSet 3 (dBin addD (dName 3) (dCall F_gap_rules [.v,.v,.v] (dCons (dName 0) (dCons (dName 4) (dCons (dName 5) dNil)))))))
  (sRet (dApp (f1 tupleD) (dCons (dBin addD (dName 3) (dCall F_from_left [.v,.v,.v] (dCons (dName 0) (dCons (dBin addD (dBin ixD (dName 2) (dUn negD (dC (.int 1)))) (dC (.int 1))) (dCons (dApp (f1 lenD) (dCons (dBin ixD (dName 0) (dC (.int 0))) dNil)) dNil))))) dNil))))))
def F_keep : Fe := fnD 7 fs_keep
theorem ok_keep : CE P w K mg base 3 "keep" ["second", "letters"] F_keep := by
  have nd : (["second", "letters", "places", "found", "low", "high", "letter"] : List Str).Nodup := by decide +kernel
  refine CE.of (N := ["second", "letters", "places", "found", "low", "high", "letter"]) FX.d_keep ⟨rfl, rfl, rfl, by decide +kernel, rfl, by decide +kernel, by decide +kernel⟩ (fun _ _ _ _ _ _ us hl => match us, hl with | [_, _], _ => rfl) fun X W cdv A outer s H E f hX hr hW tk po => ?_
  subst hX
  delta fs_keep
  exact (vss_cons (by first | exact (vs_setLc rfl nd rfl rfl (by rfl) (blkOk_by (own := [("letter",6)]) (by kernel_rfl)) (vi_any (ve_name 1)) (tg_name 6) (fun _ _ _ _ _ => (pg_name nd rfl (by first | exact Or.inl rfl | exact Or.inr rfl))) (fun _ _ _ _ _ => vifs_nil) (fun _ _ _ _ _ => (ve_m1 PySem.F.slot_list_index PySem.F.type_list_index (mt_indexL hr) PySem.F.slot_tuple_index PySem.F.type_tuple_index (mt_indexT hr) (ve_ix (ix_D hr) (ve_name 0) ve_int) (ve_name 6)))) | exact (vs_set nd rfl (by first | exact Or.inl rfl | exact Or.inr rfl) (ve_lc rfl nd (blkOk_by (own := [("letter",6)]) (by kernel_rfl)) (vi_any (ve_name 1)) (tg_name 6) (fun _ _ _ _ _ => (pg_name nd rfl (by first | exact Or.inl rfl | exact Or.inr rfl))) (fun _ _ _ _ _ => vifs_nil) (fun _ _ _ _ _ => (ve_m1 PySem.F.slot_list_index PySem.F.type_list_index (mt_indexL hr) PySem.F.slot_tuple_index PySem.F.type_tuple_index (mt_indexT hr) (ve_ix (ix_D hr) (ve_name 0) ve_int) (ve_name 6))))))
  (vss_cons (vs_set nd rfl (by first | exact Or.inl rfl | exact Or.inr rfl) ((ok_from_right FX).ve [.v,.v,.v] hr tk (va_cons (ve_name 0) (va_cons ve_int (va_cons (ve_ix (ix_D hr) (ve_name 2) ve_int) va_nil)))))
  (vss_cons (vs_for po rfl (vi_zip rfl FX.b_zip (va_cons (ve_name 2) (va_cons (ve_sl (ve_name 2) (vo_some ve_int) vo_none) va_nil))) (pg_tup rfl (pgs_cons (pg_name nd rfl (by first | exact Or.inl rfl | exact Or.inr rfl)) (pgs_cons (pg_name nd rfl (by first | exact Or.inl rfl | exact Or.inr rfl)) pgs_nil))) (tg_tup _ [4, 5]) (vss_one (vs_set nd rfl (by first | exact Or.inl rfl | exact Or.inr rfl) (ve_bin op_addD (ve_name 3) ((ok_gap_rules FX).ve [.v,.v,.v] hr tk (va_cons (ve_name 0) (va_cons (ve_name 4) (va_cons (ve_name 5) va_nil))))))))
  (vss_one (vs_ret (ve_callTy cr_tuple FX.b_tuple (by with_unfolding_all rfl) (va_cons (ve_bin op_addD (ve_name 3) ((ok_from_left FX).ve [.v,.v,.v] hr tk (va_cons (ve_name 0) (va_cons (ve_bin op_addD (ve_ix (ix_D hr) (ve_name 2) (ve_un un_negD ve_int)) ve_int) (va_cons (ve_callB cr_len FX.b_len (by with_unfolding_all rfl) (va_cons (ve_ix (ix_D hr) (ve_name 0) ve_int) va_nil)) va_nil))))) va_nil)))))))
def fs_distance_of : Fs :=
  (sRet (dBin subD (dApp (f1 lenD) (dCons (dBin ixD (dName 1) (dC (.int 0))) dNil)) (dApp (f1 lenD) (dCons (dCall F_longest_of [.v,.v] (dCons (dName 0) (dCons (dName 1) dNil))) dNil))))
def F_distance_of : Fe := fnD 2 fs_distance_of
theorem ok_distance_of : CE P w K mg base 6 "distance_of" ["first", "second"] F_distance_of := by
  have nd : (["first", "second"] : List Str).Nodup := by decide +kernel
  refine CE.of (N := ["first", "second"]) FX.d_distance_of ⟨rfl, rfl, rfl, by decide +kernel, rfl, by decide +kernel, by decide +kernel⟩ (fun _ _ _ _ _ _ us hl => match us, hl with | [_, _], _ => rfl) fun X W cdv A outer s H E f hX hr hW tk po => ?_
  subst hX
  delta fs_distance_of
  exact (vss_one (vs_ret (ve_bin op_subD (ve_callB cr_len FX.b_len (by with_unfolding_all rfl) (va_cons (ve_ix (ix_D hr) (ve_name 1) ve_int) va_nil)) (ve_callB cr_len FX.b_len (by with_unfolding_all rfl) (va_cons ((ok_longest_of FX).ve [.v,.v] hr tk (va_cons (ve_name 0) (va_cons (ve_name 1) va_nil))) va_nil)))))
def fs_rules_of : Fs :=
  (sRet (dIf (dTru (dBin ixD (dName 1) (dC (.int 0)))) (dCall F_keep [.v,.v] (dCons (dName 1) (dCons (dCall F_longest_of [.v,.v] (dCons (dName 0) (dCons (dName 1) dNil))) dNil))) (dTup vNil)))
def F_rules_of : Fe := fnD 2 fs_rules_of
theorem ok_rules_of : CE P w K mg base 6 "rules_of" ["first", "second"] F_rules_of := by
  have nd : (["first", "second"] : List Str).Nodup := by decide +kernel
  refine CE.of (N := ["first", "second"]) FX.d_rules_of ⟨rfl, rfl, rfl, by decide +kernel, rfl, by decide +kernel, by decide +kernel⟩ (fun _ _ _ _ _ _ us hl => match us, hl with | [_, _], _ => rfl) fun X W cdv A outer s H E f hX hr hW tk po => ?_
  subst hX
  delta fs_rules_of
  exact (vss_one (vs_ret (ve_if (vt_tru (ve_ix (ix_D hr) (ve_name 1) ve_int)) ((ok_keep FX).ve [.v,.v] hr tk (va_cons (ve_name 1) (va_cons ((ok_longest_of FX).ve [.v,.v] hr tk (va_cons (ve_name 0) (va_cons (ve_name 1) va_nil))) va_nil))) (ve_tup vv_nil))))
def fs_has_letters : Fs :=
  (sRet (dAndV (dCall F_is_order [.v] (dCons (dName 0) dNil)) (dBin eqD (dApp (f1 sortedD) (dCons (dBin ixD (dName 0) (dC (.int 0))) dNil)) (dApp (f1 sortedD) (dCons (dName 1) dNil)))))
def F_has_letters : Fe := fnD 2 fs_has_letters
theorem ok_has_letters : CE P w K mg base 4 "has_letters" ["value", "letters"] F_has_letters := by
  have nd : (["value", "letters"] : List Str).Nodup := by decide +kernel
  refine CE.of (N := ["value", "letters"]) FX.d_has_letters ⟨rfl, rfl, rfl, by decide +kernel, rfl, by decide +kernel, by decide +kernel⟩ (fun _ _ _ _ _ _ us hl => match us, hl with | [_, _], _ => rfl) fun X W cdv A outer s H E f hX hr hW tk po => ?_
  subst hX
  delta fs_has_letters
  exact (vss_one (vs_ret (ve_and ((ok_is_order FX).ve [.v] hr tk (va_cons (ve_name 0) va_nil)) (ve_one (ve_cmp (op_eqDD hr) (ve_callB (cr_sortedD hr) FX.b_sorted (by with_unfolding_all rfl) (va_cons (ve_ix (ix_D hr) (ve_name 0) ve_int) va_nil)) (ve_callB (cr_sortedD hr) FX.b_sorted (by with_unfolding_all rfl) (va_cons (ve_name 1) va_nil)) (by rfl))))))
def fs_is_path : Fs :=
  (sSeq (sIf (dOr (dNot (dTru (dUn (isiT .tuple) (dName 0)))) (dOr (dNot (dTB (dChain oLe oLe (dC (.int 1)) (dApp (f1 lenD) (dCons (dName 0) dNil)) (dC (.int 6))))) (dNot (dTru (dCall F_is_order [.v] (dCons (dBin ixD (dName 0) (dC (.int 0))) dNil)))))) (sRet (dC (.bl false))) sNil)
  (sRet (dAndV (dBin oGt (dApp (f1 lenD) (dCons (dBin ixD (dBin ixD (dName 0) (dC (.int 0))) (dC (.int 0))) dNil)) (dC (.int 0))) (dApp (f1 allD) (dCons (dLc (itF (dName 0)) (asg1 1) dYes (dCall F_has_letters [.v,.v] (dCons (dName 1) (dCons (dBin ixD (dBin ixD (dName 0) (dC (.int 0))) (dC (.int 0))) dNil))) [1]) dNil)))))
def F_is_path : Fe := fnD 2 fs_is_path
theorem ok_is_path : CE P w K mg base 5 "is_path" ["value"] F_is_path := by
  have nd : (["value", "order"] : List Str).Nodup := by decide +kernel
  refine CE.of (N := ["value", "order"]) FX.d_is_path ⟨rfl, rfl, rfl, by decide +kernel, rfl, by decide +kernel, by decide +kernel⟩ (fun _ _ _ _ _ _ us hl => match us, hl with | [_], _ => rfl) fun X W cdv A outer s H E f hX hr hW tk po => ?_
  subst hX
  delta fs_is_path
  exact (vss_cons (vs_if (vt_w (vw_or (vt_not (vt_tru (ve_isi .tuple FX.b_isinstance FX.b_tuple (ve_name 0)))) (vw_or (vt_not (vt_chain (op_oLe hr) (op_oLe hr) ve_int (ve_callB cr_len FX.b_len (by with_unfolding_all rfl) (va_cons (ve_name 0) va_nil)) (FX.c_MOST_ORDERS.ve))) (vw_one_or (vt_not (vt_tru ((ok_is_order FX).ve [.v] hr tk (va_cons (ve_ix (ix_D hr) (ve_name 0) ve_int) va_nil)))))))) (vss_one (vs_ret ve_bl)) vss_nil)
  (vss_one (vs_ret (ve_and (ve_cmp (op_oGt hr) (ve_callB cr_len FX.b_len (by with_unfolding_all rfl) (va_cons (ve_ix (ix_D hr) (ve_ix (ix_D hr) (ve_name 0) ve_int) ve_int) va_nil)) ve_int (by rfl)) (ve_one (ve_callB (cr_allD rfl) FX.b_all (by with_unfolding_all rfl) (va_cons (ve_lc rfl nd (blkOk_by (own := [("order",1)]) (by kernel_rfl)) (vi_any (ve_name 0)) (tg_name 1) (fun _ _ _ _ _ => (pg_name nd rfl (by first | exact Or.inl rfl | exact Or.inr rfl))) (fun _ _ _ _ _ => vifs_nil) (fun _ _ _ _ _ => ((ok_has_letters FX).ve [.v,.v] hr takes0 (va_cons (ve_name 1) (va_cons (ve_ix (ix_D hr) (ve_ix (ix_D hr) (ve_name 0) ve_int) ve_int) va_nil))))) va_nil)))))))
def fs_check_path : Fs :=
  (sIf (dNot (dTru (dCall F_is_path [.v] (dCons (dName 0) dNil)))) (sRaise "BadValue" ["name"] (vCons (dC (.str "orders")) vNil)) sNil)
def F_check_path : Fe := fnD 1 fs_check_path
theorem ok_check_path : CE P w K mg base 6 "check_path" ["value"] F_check_path := by
  have nd : (["value"] : List Str).Nodup := by decide +kernel
  refine CE.of (N := ["value"]) FX.d_check_path ⟨rfl, rfl, rfl, by decide +kernel, rfl, by decide +kernel, by decide +kernel⟩ (fun _ _ _ _ _ _ us hl => match us, hl with | [_], _ => rfl) fun X W cdv A outer s H E f hX hr hW tk po => ?_
  subst hX
  delta fs_check_path
  exact (vss_one (vs_if (vt_not (vt_tru ((ok_is_path FX).ve [.v] hr tk (va_cons (ve_name 0) va_nil)))) (vss_one (RX.vs1 (rx_BadValue FX) hr tk (vv_cons ve_str vv_nil))) vss_nil))
def fs_check_alike : Fs :=
  (sIf (dNot (dTru (dCall F_has_letters [.v,.v] (dCons (dName 0) (dCons (dBin ixD (dName 1) (dC (.int 0))) dNil))))) (sRaise "BadValue" ["name"] (vCons (dName 2) vNil)) sNil)
def F_check_alike : Fe := fnD 3 fs_check_alike
theorem ok_check_alike : CE P w K mg base 5 "check_alike" ["value", "order", "name"] F_check_alike := by
  have nd : (["value", "order", "name"] : List Str).Nodup := by decide +kernel
  refine CE.of (N := ["value", "order", "name"]) FX.d_check_alike ⟨rfl, rfl, rfl, by decide +kernel, rfl, by decide +kernel, by decide +kernel⟩ (fun _ _ _ _ _ _ us hl => match us, hl with | [_, _, _], _ => rfl) fun X W cdv A outer s H E f hX hr hW tk po => ?_
  subst hX
  delta fs_check_alike
  exact (vss_one (vs_if (vt_not (vt_tru ((ok_has_letters FX).ve [.v,.v] hr tk (va_cons (ve_name 0) (va_cons (ve_ix (ix_D hr) (ve_name 1) ve_int) va_nil))))) (vss_one (RX.vs1 (rx_BadValue FX) hr tk (vv_cons (ve_name 2) vv_nil))) vss_nil))
def fs_check_begin : Fs :=
  (sIf (dOr (dNot (dTru (dCall F_is_order [.v] (dCons (dName 0) dNil)))) (dNot (dTru (dBin ixD (dName 0) (dC (.int 0)))))) (sRaise "BadValue" ["name"] (vCons (dName 1) vNil)) sNil)
def F_check_begin : Fe := fnD 2 fs_check_begin
theorem ok_check_begin : CE P w K mg base 4 "check_begin" ["value", "name"] F_check_begin := by
  have nd : (["value", "name"] : List Str).Nodup := by decide +kernel
  refine CE.of (N := ["value", "name"]) FX.d_check_begin ⟨rfl, rfl, rfl, by decide +kernel, rfl, by decide +kernel, by decide +kernel⟩ (fun _ _ _ _ _ _ us hl => match us, hl with | [_, _], _ => rfl) fun X W cdv A outer s H E f hX hr hW tk po => ?_
  subst hX
  delta fs_check_begin
  exact (vss_one (vs_if (vt_w (vw_or (vt_not (vt_tru ((ok_is_order FX).ve [.v] hr tk (va_cons (ve_name 0) va_nil)))) (vw_one_or (vt_not (vt_tru (ve_ix (ix_D hr) (ve_name 0) ve_int)))))) (vss_one (RX.vs1 (rx_BadValue FX) hr tk (vv_cons (ve_name 1) vv_nil))) vss_nil))
def fs_length_of : Fs :=
  (sRet (dApp (f1 sumD) (dCons (dLc (ziF (dCons (dName 0) (dCons (dSl (dName 0) (oSome (dC (.int 1))) oNone) dNil))) (asgT [1, 2]) dYes (dCall F_distance_of [.v,.v] (dCons (dName 1) (dCons (dName 2) dNil))) [1, 2]) dNil)))
def F_length_of : Fe := fnD 3 fs_length_of
theorem ok_length_of : CE P w K mg base 7 "length_of" ["orders"] F_length_of := by
  have nd : (["orders", "one", "other"] : List Str).Nodup := by decide +kernel
  refine CE.of (N := ["orders", "one", "other"]) FX.d_length_of ⟨rfl, rfl, rfl, by decide +kernel, rfl, by decide +kernel, by decide +kernel⟩ (fun _ _ _ _ _ _ us hl => match us, hl with | [_], _ => rfl) fun X W cdv A outer s H E f hX hr hW tk po => ?_
  subst hX
  delta fs_length_of
  exact (vss_one (vs_ret (ve_callB (cr_sumD rfl) FX.b_sum (by with_unfolding_all rfl) (va_cons (ve_lc rfl nd (blkOk_by (own := [("one",1),("other",2)]) (by kernel_rfl)) (vi_zip rfl FX.b_zip (va_cons (ve_name 0) (va_cons (ve_sl (ve_name 0) (vo_some ve_int) vo_none) va_nil))) (tg_tup _ [1, 2]) (fun _ _ _ _ _ => (pg_tup rfl (pgs_cons (pg_name nd rfl (by first | exact Or.inl rfl | exact Or.inr rfl)) (pgs_cons (pg_name nd rfl (by first | exact Or.inl rfl | exact Or.inr rfl)) pgs_nil)))) (fun _ _ _ _ _ => vifs_nil) (fun _ _ _ _ _ => ((ok_distance_of FX).ve [.v,.v] hr takes0 (va_cons (ve_name 1) (va_cons (ve_name 2) va_nil))))) va_nil))))
def fs_length : Fs :=
  (sSeq (sDrop (dCall F_check_path [.v] (dCons (dName 0) dNil)))
  (sRet (dCall F_length_of [.v] (dCons (dName 0) dNil))))
def F_length : Fe := fnD 1 fs_length
theorem ok_length : CE P w K mg base 8 "length" ["orders"] F_length := by
  have nd : (["orders"] : List Str).Nodup := by decide +kernel
  refine CE.of (N := ["orders"]) FX.d_length ⟨rfl, rfl, rfl, by decide +kernel, rfl, by decide +kernel, by decide +kernel⟩ (fun _ _ _ _ _ _ us hl => match us, hl with | [_], _ => rfl) fun X W cdv A outer s H E f hX hr hW tk po => ?_
  subst hX
  delta fs_length
  exact (vss_cons (vs_expr ((ok_check_path FX).ve [.v] hr tk (va_cons (ve_name 0) va_nil)))
  (vss_one (vs_ret ((ok_length_of FX).ve [.v] hr tk (va_cons (ve_name 0) va_nil)))))
def fs_direct : Fs :=
  (sSeq (sDrop (dCall F_check_path [.v] (dCons (dName 0) dNil)))
  (sRet (dCall F_distance_of [.v,.v] (dCons (dBin ixD (dName 0) (dC (.int 0))) (dCons (dBin ixD (dName 0) (dUn negD (dC (.int 1)))) dNil)))))
def F_direct : Fe := fnD 1 fs_direct
theorem ok_direct : CE P w K mg base 7 "direct" ["orders"] F_direct := by
  have nd : (["orders"] : List Str).Nodup := by decide +kernel
  refine CE.of (N := ["orders"]) FX.d_direct ⟨rfl, rfl, rfl, by decide +kernel, rfl, by decide +kernel, by decide +kernel⟩ (fun _ _ _ _ _ _ us hl => match us, hl with | [_], _ => rfl) fun X W cdv A outer s H E f hX hr hW tk po => ?_
  subst hX
  delta fs_direct
  exact (vss_cons (vs_expr ((ok_check_path FX).ve [.v] hr tk (va_cons (ve_name 0) va_nil)))
  (vss_one (vs_ret ((ok_distance_of FX).ve [.v,.v] hr tk (va_cons (ve_ix (ix_D hr) (ve_name 0) ve_int) (va_cons (ve_ix (ix_D hr) (ve_name 0) (ve_un un_negD ve_int)) va_nil))))))
def fs_is_shortest : Fs :=
  (sSeq (sDrop (dCall F_check_path [.v] (dCons (dName 0) dNil)))
  (sRet (dBin eqD (dCall F_length_of [.v] (dCons (dName 0) dNil)) (dCall F_distance_of [.v,.v] (dCons (dBin ixD (dName 0) (dC (.int 0))) (dCons (dBin ixD (dName 0) (dUn negD (dC (.int 1)))) dNil))))))
def F_is_shortest : Fe := fnD 1 fs_is_shortest
theorem ok_is_shortest : CE P w K mg base 8 "is_shortest" ["orders"] F_is_shortest := by
  have nd : (["orders"] : List Str).Nodup := by decide +kernel
  refine CE.of (N := ["orders"]) FX.d_is_shortest ⟨rfl, rfl, rfl, by decide +kernel, rfl, by decide +kernel, by decide +kernel⟩ (fun _ _ _ _ _ _ us hl => match us, hl with | [_], _ => rfl) fun X W cdv A outer s H E f hX hr hW tk po => ?_
  subst hX
  delta fs_is_shortest
  exact (vss_cons (vs_expr ((ok_check_path FX).ve [.v] hr tk (va_cons (ve_name 0) va_nil)))
  (vss_one (vs_ret (ve_cmp (op_eqDD hr) ((ok_length_of FX).ve [.v] hr tk (va_cons (ve_name 0) va_nil)) ((ok_distance_of FX).ve [.v,.v] hr tk (va_cons (ve_ix (ix_D hr) (ve_name 0) ve_int) (va_cons (ve_ix (ix_D hr) (ve_name 0) (ve_un un_negD ve_int)) va_nil))) (by rfl)))))
def fs_farthest : Fs :=
  (sSeq (sDrop (dCall F_check_path [.v] (dCons (dName 0) dNil)))
  (sSeq (sSet 1 (dLc (itF (dName 0)) (asg1 2) dYes (dCall F_distance_of [.v,.v] (dCons (dBin ixD (dName 0) (dC (.int 0))) (dCons (dName 2) dNil))) [2]))
  (sRet (dM1 indexD (dName 1) (dApp (f1 max1) (dCons (dName 1) dNil))))))
def F_farthest : Fe := fnD 3 fs_farthest
theorem ok_farthest : CE P w K mg base 7 "farthest" ["orders"] F_farthest := by
  have nd : (["orders", "distances", "order"] : List Str).Nodup := by decide +kernel
  refine CE.of (N := ["orders", "distances", "order"]) FX.d_farthest ⟨rfl, rfl, rfl, by decide +kernel, rfl, by decide +kernel, by decide +kernel⟩ (fun _ _ _ _ _ _ us hl => match us, hl with | [_], _ => rfl) fun X W cdv A outer s H E f hX hr hW tk po => ?_
  subst hX
  delta fs_farthest
  exact (vss_cons (vs_expr ((ok_check_path FX).ve [.v] hr tk (va_cons (ve_name 0) va_nil)))
  (vss_cons (by first | exact (vs_setLc rfl nd rfl rfl (by rfl) (blkOk_by (own := [("order",2)]) (by kernel_rfl)) (vi_any (ve_name 0)) (tg_name 2) (fun _ _ _ _ _ => (pg_name nd rfl (by first | exact Or.inl rfl | exact Or.inr rfl))) (fun _ _ _ _ _ => vifs_nil) (fun _ _ _ _ _ => ((ok_distance_of FX).ve [.v,.v] hr takes0 (va_cons (ve_ix (ix_D hr) (ve_name 0) ve_int) (va_cons (ve_name 2) va_nil))))) | exact (vs_set nd rfl (by first | exact Or.inl rfl | exact Or.inr rfl) (ve_lc rfl nd (blkOk_by (own := [("order",2)]) (by kernel_rfl)) (vi_any (ve_name 0)) (tg_name 2) (fun _ _ _ _ _ => (pg_name nd rfl (by first | exact Or.inl rfl | exact Or.inr rfl))) (fun _ _ _ _ _ => vifs_nil) (fun _ _ _ _ _ => ((ok_distance_of FX).ve [.v,.v] hr takes0 (va_cons (ve_ix (ix_D hr) (ve_name 0) ve_int) (va_cons (ve_name 2) va_nil)))))))
  (vss_one (vs_ret (ve_m1 PySem.F.slot_list_index PySem.F.type_list_index (mt_indexL hr) PySem.F.slot_tuple_index PySem.F.type_tuple_index (mt_indexT hr) (ve_name 1) (ve_callB (cr_max1 rfl hr) FX.b_max (by with_unfolding_all rfl) (va_cons (ve_name 1) va_nil)))))))
def fs_joined_rules : Fs :=
  (sSeq (sDrop (dCall F_check_path [.v] (dCons (dName 0) dNil)))
  (sSeq (sSet 1 (dTup vNil))
  (sSeq (sFor (ziF (dCons (dName 0) (dCons (dSl (dName 0) (oSome (dC (.int 1))) oNone) dNil))) (asgT [2, 3]) (sSet 1 (dBin addD (dName 1) (dCall F_rules_of [.v,.v] (dCons (dName 2) (dCons (dName 3) dNil))))))
  (sRet (dName 1)))))
def F_joined_rules : Fe := fnD 4 fs_joined_rules
theorem ok_joined_rules : CE P w K mg base 7 "joined_rules" ["orders"] F_joined_rules := by
  have nd : (["orders", "found", "one", "other"] : List Str).Nodup := by decide +kernel
  refine CE.of (N := ["orders", "found", "one", "other"]) FX.d_joined_rules ⟨rfl, rfl, rfl, by decide +kernel, rfl, by decide +kernel, by decide +kernel⟩ (fun _ _ _ _ _ _ us hl => match us, hl with | [_], _ => rfl) fun X W cdv A outer s H E f hX hr hW tk po => ?_
  subst hX
  delta fs_joined_rules
  exact (vss_cons (vs_expr ((ok_check_path FX).ve [.v] hr tk (va_cons (ve_name 0) va_nil)))
  (vss_cons (vs_set nd rfl (by first | exact Or.inl rfl | exact Or.inr rfl) (ve_tup vv_nil))
  (vss_cons (vs_for po rfl (vi_zip rfl FX.b_zip (va_cons (ve_name 0) (va_cons (ve_sl (ve_name 0) (vo_some ve_int) vo_none) va_nil))) (pg_tup rfl (pgs_cons (pg_name nd rfl (by first | exact Or.inl rfl | exact Or.inr rfl)) (pgs_cons (pg_name nd rfl (by first | exact Or.inl rfl | exact Or.inr rfl)) pgs_nil))) (tg_tup _ [2, 3]) (vss_one (vs_set nd rfl (by first | exact Or.inl rfl | exact Or.inr rfl) (ve_bin op_addD (ve_name 1) ((ok_rules_of FX).ve [.v,.v] hr tk (va_cons (ve_name 2) (va_cons (ve_name 3) va_nil)))))))
  (vss_one (vs_ret (ve_name 1))))))
def fs_kept_along : Fs :=
  (sSeq (sSet 1 (dLc (itF (dCall F_joined_rules [.v] (dCons (dName 0) dNil))) (asg1 2) dYes (dBin ixD (dName 2) (dC (.int 3))) [2]))
  (sRet (dApp (f1 tupleD) (dCons (dLc (itF (dBin ixD (dBin ixD (dName 0) (dC (.int 0))) (dC (.int 0)))) (asg1 3) (dTB (dBin notInD (dName 3) (dName 1))) (dName 3) [3]) dNil))))
def F_kept_along : Fe := fnD 4 fs_kept_along
theorem ok_kept_along : CE P w K mg base 8 "kept_along" ["orders"] F_kept_along := by
  have nd : (["orders", "moved", "rule", "letter"] : List Str).Nodup := by decide +kernel
  refine CE.of (N := ["orders", "moved", "rule", "letter"]) FX.d_kept_along ⟨rfl, rfl, rfl, by decide +kernel, rfl, by decide +kernel, by decide +kernel⟩ (fun _ _ _ _ _ _ us hl => match us, hl with | [_], _ => rfl) fun X W cdv A outer s H E f hX hr hW tk po => ?_
  subst hX
  delta fs_kept_along
  exact (vss_cons (by first | exact (vs_setLc rfl nd rfl rfl (by rfl) (blkOk_by (own := [("rule",2)]) (by kernel_rfl)) (vi_any ((ok_joined_rules FX).ve [.v] hr tk (va_cons (ve_name 0) va_nil))) (tg_name 2) (fun _ _ _ _ _ => (pg_name nd rfl (by first | exact Or.inl rfl | exact Or.inr rfl))) (fun _ _ _ _ _ => vifs_nil) (fun _ _ _ _ _ => (ve_ix (ix_D hr) (ve_name 2) ve_int))) | exact (vs_set nd rfl (by first | exact Or.inl rfl | exact Or.inr rfl) (ve_lc rfl nd (blkOk_by (own := [("rule",2)]) (by kernel_rfl)) (vi_any ((ok_joined_rules FX).ve [.v] hr tk (va_cons (ve_name 0) va_nil))) (tg_name 2) (fun _ _ _ _ _ => (pg_name nd rfl (by first | exact Or.inl rfl | exact Or.inr rfl))) (fun _ _ _ _ _ => vifs_nil) (fun _ _ _ _ _ => (ve_ix (ix_D hr) (ve_name 2) ve_int)))))
  (vss_one (vs_ret (ve_callTy cr_tuple FX.b_tuple (by with_unfolding_all rfl) (va_cons (ve_lc rfl nd (blkOk_by (own := [("letter",3)]) (by kernel_rfl)) (vi_any (ve_ix (ix_D hr) (ve_ix (ix_D hr) (ve_name 0) ve_int) ve_int)) (tg_name 3) (fun _ _ _ _ _ => (pg_name nd rfl (by first | exact Or.inl rfl | exact Or.inr rfl))) (fun _ _ _ _ _ => (vifs_one (vt_cmp (op_notInDD hr) (ve_name 3) (ve_name 1) (by rfl)))) (fun _ _ _ _ _ => (ve_name 3))) va_nil)))))
def fs_lies_between : Fs :=
  (sSeq (sDrop (dCall F_check_begin [.v,.v] (dCons (dName 0) (dCons (dC (.str "middle")) dNil))))
  (sSeq (sDrop (dCall F_check_alike [.v,.v,.v] (dCons (dName 1) (dCons (dName 0) (dCons (dC (.str "first")) dNil)))))
  (sSeq (sDrop (dCall F_check_alike [.v,.v,.v] (dCons (dName 2) (dCons (dName 0) (dCons (dC (.str "second")) dNil)))))
  (sRet (dBin eqD (dBin addD (dCall F_distance_of [.v,.v] (dCons (dName 1) (dCons (dName 0) dNil))) (dCall F_distance_of [.v,.v] (dCons (dName 0) (dCons (dName 2) dNil)))) (dCall F_distance_of [.v,.v] (dCons (dName 1) (dCons (dName 2) dNil))))))))
def F_lies_between : Fe := fnD 3 fs_lies_between
theorem ok_lies_between : CE P w K mg base 7 "lies_between" ["middle", "first", "second"] F_lies_between := by
  have nd : (["middle", "first", "second"] : List Str).Nodup := by decide +kernel
  refine CE.of (N := ["middle", "first", "second"]) FX.d_lies_between ⟨rfl, rfl, rfl, by decide +kernel, rfl, by decide +kernel, by decide +kernel⟩ (fun _ _ _ _ _ _ us hl => match us, hl with | [_, _, _], _ => rfl) fun X W cdv A outer s H E f hX hr hW tk po => ?_
  subst hX
  delta fs_lies_between
  exact (vss_cons (vs_expr ((ok_check_begin FX).ve [.v,.v] hr tk (va_cons (ve_name 0) (va_cons ve_str va_nil))))
  (vss_cons (vs_expr ((ok_check_alike FX).ve [.v,.v,.v] hr tk (va_cons (ve_name 1) (va_cons (ve_name 0) (va_cons ve_str va_nil)))))
  (vss_cons (vs_expr ((ok_check_alike FX).ve [.v,.v,.v] hr tk (va_cons (ve_name 2) (va_cons (ve_name 0) (va_cons ve_str va_nil)))))
  (vss_one (vs_ret (ve_cmp (op_eqDD hr) (ve_bin op_addD ((ok_distance_of FX).ve [.v,.v] hr tk (va_cons (ve_name 1) (va_cons (ve_name 0) va_nil))) ((ok_distance_of FX).ve [.v,.v] hr tk (va_cons (ve_name 0) (va_cons (ve_name 2) va_nil)))) ((ok_distance_of FX).ve [.v,.v] hr tk (va_cons (ve_name 1) (va_cons (ve_name 2) va_nil))) (by rfl)))))))
def fs_is_step : Fs :=
  (sSeq (sIf (dTB (dBin eqD (dName 0) (dName 1))) (sRet (dC (.bl false))) sNil)
  (sRet (dApp (f1 anyD) (dCons (dLc (itF (dBin ixD (dName 0) (dC (.int 0)))) (asg1 2) dYes (dBin eqD (dCall F_removed [.v,.v] (dCons (dName 0) (dCons (dName 2) dNil))) (dCall F_removed [.v,.v] (dCons (dName 1) (dCons (dName 2) dNil)))) [2]) dNil))))
def F_is_step : Fe := fnD 3 fs_is_step
theorem ok_is_step : CE P w K mg base 2 "is_step" ["first", "second"] F_is_step := by
  have nd : (["first", "second", "letter"] : List Str).Nodup := by decide +kernel
  refine CE.of (N := ["first", "second", "letter"]) FX.d_is_step ⟨rfl, rfl, rfl, by decide +kernel, rfl, by decide +kernel, by decide +kernel⟩ (fun _ _ _ _ _ _ us hl => match us, hl with | [_, _], _ => rfl) fun X W cdv A outer s H E f hX hr hW tk po => ?_
  subst hX
  delta fs_is_step
  exact (vss_cons (vs_if (vt_cmp (op_eqDD hr) (ve_name 0) (ve_name 1) (by rfl)) (vss_one (vs_ret ve_bl)) vss_nil)
  (vss_one (vs_ret (ve_callB (cr_anyD rfl) FX.b_any (by with_unfolding_all rfl) (va_cons (ve_lc rfl nd (blkOk_by (own := [("letter",2)]) (by kernel_rfl)) (vi_any (ve_ix (ix_D hr) (ve_name 0) ve_int)) (tg_name 2) (fun _ _ _ _ _ => (pg_name nd rfl (by first | exact Or.inl rfl | exact Or.inr rfl))) (fun _ _ _ _ _ => vifs_nil) (fun _ _ _ _ _ => (ve_cmp (op_eqDD hr) ((ok_removed FX).ve [.v,.v] hr takes0 (va_cons (ve_name 0) (va_cons (ve_name 2) va_nil))) ((ok_removed FX).ve [.v,.v] hr takes0 (va_cons (ve_name 1) (va_cons (ve_name 2) va_nil))) (by rfl)))) va_nil)))))
def fs_is_one_rule_away : Fs :=
  (sSeq (sDrop (dCall F_check_begin [.v,.v] (dCons (dName 0) (dCons (dC (.str "first")) dNil))))
  (sSeq (sDrop (dCall F_check_alike [.v,.v,.v] (dCons (dName 1) (dCons (dName 0) (dCons (dC (.str "second")) dNil)))))
  (sRet (dCall F_is_step [.v,.v] (dCons (dName 0) (dCons (dName 1) dNil))))))
def F_is_one_rule_away : Fe := fnD 2 fs_is_one_rule_away
theorem ok_is_one_rule_away : CE P w K mg base 6 "is_one_rule_away" ["first", "second"] F_is_one_rule_away := by
  have nd : (["first", "second"] : List Str).Nodup := by decide +kernel
  refine CE.of (N := ["first", "second"]) FX.d_is_one_rule_away ⟨rfl, rfl, rfl, by decide +kernel, rfl, by decide +kernel, by decide +kernel⟩ (fun _ _ _ _ _ _ us hl => match us, hl with | [_, _], _ => rfl) fun X W cdv A outer s H E f hX hr hW tk po => ?_
  subst hX
  delta fs_is_one_rule_away
  exact (vss_cons (vs_expr ((ok_check_begin FX).ve [.v,.v] hr tk (va_cons (ve_name 0) (va_cons ve_str va_nil))))
  (vss_cons (vs_expr ((ok_check_alike FX).ve [.v,.v,.v] hr tk (va_cons (ve_name 1) (va_cons (ve_name 0) (va_cons ve_str va_nil)))))
  (vss_one (vs_ret ((ok_is_step FX).ve [.v,.v] hr tk (va_cons (ve_name 0) (va_cons (ve_name 1) va_nil)))))))
def fs_way : Fs :=
  (sSeq (sDrop (dCall F_check_begin [.v,.v] (dCons (dName 0) (dCons (dC (.str "first")) dNil))))
  (sSeq (sDrop (dCall F_check_alike [.v,.v,.v] (dCons (dName 1) (dCons (dName 0) (dCons (dC (.str "second")) dNil)))))
  (sSeq (sSet 2 (dLst (vCons (dName 0) vNil)))
  (sSeq (sFor (itF (dCall F_rules_of [.v,.v] (dCons (dName 0) (dCons (dName 1) dNil)))) (asg1 3) (sMut 2 appM (vCons (dCall F_put [.v,.v] (dCons (dBin ixD (dName 2) (dUn negD (dC (.int 1)))) (dCons (dName 3) dNil))) vNil)))
  (sRet (dApp (f1 tupleD) (dCons (dName 2) dNil)))))))
def F_way : Fe := fnD 4 fs_way
theorem ok_way : CE P w K mg base 7 "way" ["first", "second"] F_way := by
  have nd : (["first", "second", "found", "rule"] : List Str).Nodup := by decide +kernel
  refine CE.of (N := ["first", "second", "found", "rule"]) FX.d_way ⟨rfl, rfl, rfl, by decide +kernel, rfl, by decide +kernel, by decide +kernel⟩ (fun _ _ _ _ _ _ us hl => match us, hl with | [_, _], _ => rfl) fun X W cdv A outer s H E f hX hr hW tk po => ?_
  subst hX
  delta fs_way
  exact (vss_cons (vs_expr ((ok_check_begin FX).ve [.v,.v] hr tk (va_cons (ve_name 0) (va_cons ve_str va_nil))))
  (vss_cons (vs_expr ((ok_check_alike FX).ve [.v,.v,.v] hr tk (va_cons (ve_name 1) (va_cons (ve_name 0) (va_cons ve_str va_nil)))))
  (vss_cons (vs_set nd rfl (by first | exact Or.inl rfl | exact Or.inr rfl) (ve_lst (vv_cons (ve_name 0) vv_nil)))
  (vss_cons (vs_for po rfl (vi_any ((ok_rules_of FX).ve [.v,.v] hr tk (va_cons (ve_name 0) (va_cons (ve_name 1) va_nil)))) (pg_name nd rfl (by first | exact Or.inl rfl | exact Or.inr rfl)) (tg_name 3) (vss_one (vs_mut 2 mt_append PySem.F.slot_list_append PySem.F.type_list_append imp_app_m rfl (by first | exact Or.inl rfl | exact Or.inr (Or.inl rfl) | exact Or.inr (Or.inr rfl)) (vv_cons ((ok_put FX).ve [.v,.v] hr tk (va_cons (ve_ix (ix_D hr) (ve_name 2) (ve_un un_negD ve_int)) (va_cons (ve_name 3) va_nil))) vv_nil))))
  (vss_one (vs_ret (ve_callTy cr_tuple FX.b_tuple (by with_unfolding_all rfl) (va_cons (ve_name 2) va_nil))))))))
def fs_is_row : Fs :=
  (sSeq (sIf (dOr (dNot (dTru (dUn (isiT .tuple) (dName 2)))) (dOr (dNot (dTru (dName 2))) (dNot (dTru (dApp (f1 allD) (dCons (dLc (itF (dName 2)) (asg1 5) dYes (dCall F_has_letters [.v,.v] (dCons (dName 5) (dCons (dBin ixD (dName 0) (dC (.int 0))) dNil))) [5]) dNil)))))) (sRet (dC (.bl false))) sNil)
  (sSeq (sIf (dOr (dTB (dBin neD (dBin ixD (dName 2) (dC (.int 0))) (dName 0))) (dTB (dBin neD (dBin ixD (dName 2) (dUn negD (dC (.int 1)))) (dName 1)))) (sRet (dC (.bl false))) sNil)
  (sRet (dApp (f1 allD) (dCons (dLc (ziF (dCons (dName 2) (dCons (dSl (dName 2) (oSome (dC (.int 1))) oNone) dNil))) (asgT [3, 4]) dYes (dCall F_is_step [.v,.v] (dCons (dName 3) (dCons (dName 4) dNil))) [3, 4]) dNil)))))
def F_is_row : Fe := fnD 6 fs_is_row
theorem ok_is_row : CE P w K mg base 5 "is_row" ["first", "second", "value"] F_is_row := by
  have nd : (["first", "second", "value", "one", "other", "order"] : List Str).Nodup := by decide +kernel
  refine CE.of (N := ["first", "second", "value", "one", "other", "order"]) FX.d_is_row ⟨rfl, rfl, rfl, by decide +kernel, rfl, by decide +kernel, by decide +kernel⟩ (fun _ _ _ _ _ _ us hl => match us, hl with | [_, _, _], _ => rfl) fun X W cdv A outer s H E f hX hr hW tk po => ?_
  subst hX
  delta fs_is_row
  exact (vss_cons (vs_if (vt_w (vw_or (vt_not (vt_tru (ve_isi .tuple FX.b_isinstance FX.b_tuple (ve_name 2)))) (vw_or (vt_not (vt_tru (ve_name 2))) (vw_one_or (vt_not (vt_tru (ve_callB (cr_allD rfl) FX.b_all (by with_unfolding_all rfl) (va_cons (ve_lc rfl nd (blkOk_by (own := [("order",5)]) (by kernel_rfl)) (vi_any (ve_name 2)) (tg_name 5) (fun _ _ _ _ _ => (pg_name nd rfl (by first | exact Or.inl rfl | exact Or.inr rfl))) (fun _ _ _ _ _ => vifs_nil) (fun _ _ _ _ _ => ((ok_has_letters FX).ve [.v,.v] hr takes0 (va_cons (ve_name 5) (va_cons (ve_ix (ix_D hr) (ve_name 0) ve_int) va_nil))))) va_nil)))))))) (vss_one (vs_ret ve_bl)) vss_nil)
  (vss_cons (vs_if (vt_w (vw_or (vt_cmp (op_neDD hr) (ve_ix (ix_D hr) (ve_name 2) ve_int) (ve_name 0) (by rfl)) (vw_one_or (vt_cmp (op_neDD hr) (ve_ix (ix_D hr) (ve_name 2) (ve_un un_negD ve_int)) (ve_name 1) (by rfl))))) (vss_one (vs_ret ve_bl)) vss_nil)
  (vss_one (vs_ret (ve_callB (cr_allD rfl) FX.b_all (by with_unfolding_all rfl) (va_cons (ve_lc rfl nd (blkOk_by (own := [("one",3),("other",4)]) (by kernel_rfl)) (vi_zip rfl FX.b_zip (va_cons (ve_name 2) (va_cons (ve_sl (ve_name 2) (vo_some ve_int) vo_none) va_nil))) (tg_tup _ [3, 4]) (fun _ _ _ _ _ => (pg_tup rfl (pgs_cons (pg_name nd rfl (by first | exact Or.inl rfl | exact Or.inr rfl)) (pgs_cons (pg_name nd rfl (by first | exact Or.inl rfl | exact Or.inr rfl)) pgs_nil)))) (fun _ _ _ _ _ => vifs_nil) (fun _ _ _ _ _ => ((ok_is_step FX).ve [.v,.v] hr takes0 (va_cons (ve_name 3) (va_cons (ve_name 4) va_nil))))) va_nil))))))
def fs_is_shortest_row : Fs :=
  (sSeq (sDrop (dCall F_check_begin [.v,.v] (dCons (dName 0) (dCons (dC (.str "first")) dNil))))
  (sSeq (sDrop (dCall F_check_alike [.v,.v,.v] (dCons (dName 1) (dCons (dName 0) (dCons (dC (.str "second")) dNil)))))
  (sSeq (sIf (dOr (dNot (dTru (dCall F_is_row [.v,.v,.v] (dCons (dName 0) (dCons (dName 1) (dCons (dName 2) dNil)))))) (dNot (dTru (dCall F_are_right [.v,.v,.v] (dCons (dName 0) (dCons (dName 1) (dCons (dName 3) dNil))))))) (sRet (dC (.bl false))) sNil)
  (sRet (dBin eqD (dBin addD (dBin subD (dApp (f1 lenD) (dCons (dName 2) dNil)) (dC (.int 1))) (dApp (f1 max1) (dCons (dName 3) dNil))) (dApp (f1 lenD) (dCons (dBin ixD (dName 0) (dC (.int 0))) dNil)))))))
def F_is_shortest_row : Fe := fnD 4 fs_is_shortest_row
theorem ok_is_shortest_row : CE P w K mg base 6 "is_shortest_row" ["first", "second", "row", "levels"] F_is_shortest_row := by
  have nd : (["first", "second", "row", "levels"] : List Str).Nodup := by decide +kernel
  refine CE.of (N := ["first", "second", "row", "levels"]) FX.d_is_shortest_row ⟨rfl, rfl, rfl, by decide +kernel, rfl, by decide +kernel, by decide +kernel⟩ (fun _ _ _ _ _ _ us hl => match us, hl with | [_, _, _, _], _ => rfl) fun X W cdv A outer s H E f hX hr hW tk po => ?_
  subst hX
  delta fs_is_shortest_row
  exact (vss_cons (vs_expr ((ok_check_begin FX).ve [.v,.v] hr tk (va_cons (ve_name 0) (va_cons ve_str va_nil))))
  (vss_cons (vs_expr ((ok_check_alike FX).ve [.v,.v,.v] hr tk (va_cons (ve_name 1) (va_cons (ve_name 0) (va_cons ve_str va_nil)))))
  (vss_cons (vs_if (vt_w (vw_or (vt_not (vt_tru ((ok_is_row FX).ve [.v,.v,.v] hr tk (va_cons (ve_name 0) (va_cons (ve_name 1) (va_cons (ve_name 2) va_nil)))))) (vw_one_or (vt_not (vt_tru ((ok_are_right FX).ve [.v,.v,.v] hr tk (va_cons (ve_name 0) (va_cons (ve_name 1) (va_cons (ve_name 3) va_nil))))))))) (vss_one (vs_ret ve_bl)) vss_nil)
  (vss_one (vs_ret (ve_cmp (op_eqDD hr) (ve_bin op_addD (ve_bin op_subD (ve_callB cr_len FX.b_len (by with_unfolding_all rfl) (va_cons (ve_name 2) va_nil)) ve_int) (ve_callB (cr_max1 rfl hr) FX.b_max (by with_unfolding_all rfl) (va_cons (ve_name 3) va_nil))) (ve_callB cr_len FX.b_len (by with_unfolding_all rfl) (va_cons (ve_ix (ix_D hr) (ve_name 0) ve_int) va_nil)) (by rfl)))))))
def fs__law_stream : Fs :=
  (sRet (dLst (vCons (dApp (f1 listD) (dCons (dName 0) dNil)) (vCons (dC (.int 0)) (vCons (dC (.int 0)) vNil)))))
def F__law_stream : Fe := fnD 1 fs__law_stream
theorem ok__law_stream : CE P w K mg base 1 "_law_stream" ["_law_script"] F__law_stream := by
  have nd : (["_law_script"] : List Str).Nodup := by decide +kernel
  refine CE.of (N := ["_law_script"]) FX.d__law_stream ⟨rfl, rfl, rfl, by decide +kernel, rfl, by decide +kernel, by decide +kernel⟩ (fun _ _ _ _ _ _ us hl => match us, hl with | [_], _ => rfl) fun X W cdv A outer s H E f hX hr hW tk po => ?_
  subst hX
  delta fs__law_stream
  exact (vss_one (vs_ret (ve_lst (vv_cons (ve_callTy cr_list FX.b_list (by with_unfolding_all rfl) (va_cons (ve_name 0) va_nil)) (vv_cons ve_int (vv_cons ve_int vv_nil))))))
def fs__law_next : Fs :=
  (sSeq (sIf (dTB (dBin eqD (dBin ixD (dName 0) (dC (.int 1))) (dC (.int 0)))) (sSeq (sSet 3 (dBin ixD (dName 0) (dC (.int 2))))
  (sSeq (sSet 4 (dBin addD (dC (.int 7)) (dName 3)))
  (sSeq (sIf (dTB (dBin oLt (dName 3) (dApp (f1 lenD) (dCons (dBin ixD (dName 0) (dC (.int 0))) dNil)))) (sSet 4 (dApp (f1 absD) (dCons (dBin ixD (dBin ixD (dName 0) (dC (.int 0))) (dName 3)) dNil))) sNil)
  (sSeq (sIf (dTB (dBin oLt (dName 4) (dBin powD (dC (.int 10)) (dC (.int 18))))) (sSeq (sSet 4 (dBin modD (dApp (f1 intD) (dCons (dBin addD (dBin addD (dBin mulD2 (dName 4) (dC (.int 48271))) (dBin mulD2 (dName 3) (dC (.int 69621)))) (dC (.int 11))) dNil)) (dC (.int 2147483647))))
  (sSet 4 (dBin addD (dBin mulD2 (dBin modD (dApp (f1 intD) (dCons (dBin addD (dBin mulD2 (dName 4) (dC (.int 16807))) (dC (.int 13))) dNil)) (dC (.int 2147483647))) (dC (.int 65537))) (dName 4)))) sNil)
  (sSeq (sSetIx 0 (dC (.int 1)) (dName 4))
  (sSetIx 0 (dC (.int 2)) (dBin addD (dName 3) (dC (.int 1))))))))) sNil)
  (sSeq (sSet 2 (dBin modD (dApp (f1 intD) (dCons (dBin ixD (dName 0) (dC (.int 1))) dNil)) (dName 1)))
  (sSeq (sSetIx 0 (dC (.int 1)) (dBin fdivD (dBin ixD (dName 0) (dC (.int 1))) (dName 1)))
  (sRet (dName 2)))))
def F__law_next : Fe := fnD 5 fs__law_next
theorem ok__law_next : CE P w K mg base 1 "_law_next" ["_law_stream_here", "_law_many"] F__law_next := by
  have nd : (["_law_stream_here", "_law_many", "_law_digit", "_law_k", "_law_cell"] : List Str).Nodup := by decide +kernel
  refine CE.of (N := ["_law_stream_here", "_law_many", "_law_digit", "_law_k", "_law_cell"]) FX.d__law_next ⟨rfl, rfl, rfl, by decide +kernel, rfl, by decide +kernel, by decide +kernel⟩ (fun _ _ _ _ _ _ us hl => match us, hl with | [_, _], _ => rfl) fun X W cdv A outer s H E f hX hr hW tk po => ?_
  subst hX
  delta fs__law_next
  exact (vss_cons (vs_if (vt_cmp (op_eqDD hr) (ve_ix (ix_D hr) (ve_name 0) ve_int) ve_int (by rfl)) (vss_cons (vs_set nd rfl (by first | exact Or.inl rfl | exact Or.inr rfl) (ve_ix (ix_D hr) (ve_name 0) ve_int))
  (vss_cons (vs_set nd rfl (by first | exact Or.inl rfl | exact Or.inr rfl) (ve_bin op_addD ve_int (ve_name 3)))
  (vss_cons (vs_if (vt_cmp (op_oLt hr) (ve_name 3) (ve_callB cr_len FX.b_len (by with_unfolding_all rfl) (va_cons (ve_ix (ix_D hr) (ve_name 0) ve_int) va_nil)) (by rfl)) (vss_one (vs_set nd rfl (by first | exact Or.inl rfl | exact Or.inr rfl) (ve_callB cr_abs FX.b_abs (by with_unfolding_all rfl) (va_cons (ve_ix (ix_D hr) (ve_ix (ix_D hr) (ve_name 0) ve_int) (ve_name 3)) va_nil)))) vss_nil)
  (vss_cons (vs_if (vt_cmp (op_oLt hr) (ve_name 4) (ve_bin op_powD ve_int ve_int) (by rfl)) (vss_cons (vs_set nd rfl (by first | exact Or.inl rfl | exact Or.inr rfl) (ve_bin op_modD (ve_callTy cr_int FX.b_int (by with_unfolding_all rfl) (va_cons (ve_bin op_addD (ve_bin op_addD (ve_bin op_mulD2 (ve_name 4) ve_int) (ve_bin op_mulD2 (ve_name 3) ve_int)) ve_int) va_nil)) ve_int))
  (vss_one (vs_set nd rfl (by first | exact Or.inl rfl | exact Or.inr rfl) (ve_bin op_addD (ve_bin op_mulD2 (ve_bin op_modD (ve_callTy cr_int FX.b_int (by with_unfolding_all rfl) (va_cons (ve_bin op_addD (ve_bin op_mulD2 (ve_name 4) ve_int) ve_int) va_nil)) ve_int) ve_int) (ve_name 4))))) vss_nil)
  (vss_cons (vs_setIx hr 0 rfl (by first | exact Or.inl rfl | exact Or.inr (Or.inl rfl) | exact Or.inr (Or.inr rfl)) ve_int (ve_name 4))
  (vss_one (vs_setIx hr 0 rfl (by first | exact Or.inl rfl | exact Or.inr (Or.inl rfl) | exact Or.inr (Or.inr rfl)) ve_int (ve_bin op_addD (ve_name 3) ve_int)))))))) vss_nil)
  (vss_cons (vs_set nd rfl (by first | exact Or.inl rfl | exact Or.inr rfl) (ve_bin op_modD (ve_callTy cr_int FX.b_int (by with_unfolding_all rfl) (va_cons (ve_ix (ix_D hr) (ve_name 0) ve_int) va_nil)) (ve_name 1)))
  (vss_cons (vs_setIx hr 0 rfl (by first | exact Or.inl rfl | exact Or.inr (Or.inl rfl) | exact Or.inr (Or.inr rfl)) ve_int (ve_bin op_fdivD (ve_ix (ix_D hr) (ve_name 0) ve_int) (ve_name 1)))
  (vss_one (vs_ret (ve_name 2))))))
def fs__law_path_told : Fs :=
  (sSeq (sTry 2 (fun s => List.lookup s [("BadValue", true)]) (sIf (dTB (dBin eqD (dName 0) (dC (.int 0)))) (sDrop (dCall F_length [.v] (dCons (dName 1) dNil))) (sIf (dTB (dBin eqD (dName 0) (dC (.int 1)))) (sDrop (dCall F_direct [.v] (dCons (dName 1) dNil))) (sIf (dTB (dBin eqD (dName 0) (dC (.int 2)))) (sDrop (dCall F_is_shortest [.v] (dCons (dName 1) dNil))) (sIf (dTB (dBin eqD (dName 0) (dC (.int 3)))) (sDrop (dCall F_farthest [.v] (dCons (dName 1) dNil))) (sIf (dTB (dBin eqD (dName 0) (dC (.int 4)))) (sDrop (dCall F_joined_rules [.v] (dCons (dName 1) dNil))) (sDrop (dCall F_kept_along [.v] (dCons (dName 1) dNil)))))))) (gOne "BadValue" "name"))
  (sRet (dC (.str ""))))
def F__law_path_told : Fe := fnD 3 fs__law_path_told
theorem ok__law_path_told : CE P w K mg base 9 "_law_path_told" ["_law_which", "_law_orders"] F__law_path_told := by
  have nd : (["_law_which", "_law_orders", "e"] : List Str).Nodup := by decide +kernel
  refine CE.of (N := ["_law_which", "_law_orders", "e"]) FX.d__law_path_told ⟨rfl, rfl, rfl, by decide +kernel, rfl, by decide +kernel, by decide +kernel⟩ (fun _ _ _ _ _ _ us hl => match us, hl with | [_, _], _ => rfl) fun X W cdv A outer s H E f hX hr hW tk po => ?_
  subst hX
  delta fs__law_path_told
  exact (vss_cons (vs_try (i := 2) rfl rfl nd rfl (by rfl) ⟨rfl, by decide, .inl FX.g_BadValue⟩ tk (exm_all FX.ex_BadValue) (fun W pn xe tk po => (vss_one (vs_if (vt_cmp (op_eqDD hr) (ve_name 0) ve_int (by rfl)) (vss_one (vs_expr ((ok_length FX).ve [.v] hr tk (va_cons (ve_name 1) va_nil)))) (vss_one (vs_if (vt_cmp (op_eqDD hr) (ve_name 0) ve_int (by rfl)) (vss_one (vs_expr ((ok_direct FX).ve [.v] hr tk (va_cons (ve_name 1) va_nil)))) (vss_one (vs_if (vt_cmp (op_eqDD hr) (ve_name 0) ve_int (by rfl)) (vss_one (vs_expr ((ok_is_shortest FX).ve [.v] hr tk (va_cons (ve_name 1) va_nil)))) (vss_one (vs_if (vt_cmp (op_eqDD hr) (ve_name 0) ve_int (by rfl)) (vss_one (vs_expr ((ok_farthest FX).ve [.v] hr tk (va_cons (ve_name 1) va_nil)))) (vss_one (vs_if (vt_cmp (op_eqDD hr) (ve_name 0) ve_int (by rfl)) (vss_one (vs_expr ((ok_joined_rules FX).ve [.v] hr tk (va_cons (ve_name 1) va_nil)))) (vss_one (vs_expr ((ok_kept_along FX).ve [.v] hr tk (va_cons (ve_name 1) va_nil))))))))))))))) (fun a oe cls d pn hz hf => su_one FX.xb_BadValue (by decide +kernel) hz hf rfl (by first | exact Or.inl rfl | exact Or.inr (Or.inl rfl) | exact Or.inr (Or.inr rfl))))
  (vss_one (vs_ret ve_str)))
def fs__law_told : Fs :=
  (sSeq (sTry 4 (fun s => List.lookup s [("BadValue", true)]) (sIf (dTB (dBin eqD (dName 0) (dC (.int 0)))) (sDrop (dCall F_lies_between [.v,.v,.v] (dCons (dName 1) (dCons (dName 2) (dCons (dName 3) dNil))))) (sIf (dTB (dBin eqD (dName 0) (dC (.int 1)))) (sDrop (dCall F_is_one_rule_away [.v,.v] (dCons (dName 1) (dCons (dName 2) dNil)))) (sIf (dTB (dBin eqD (dName 0) (dC (.int 2)))) (sDrop (dCall F_way [.v,.v] (dCons (dName 1) (dCons (dName 2) dNil)))) (sDrop (dCall F_is_shortest_row [.v,.v,.v,.v] (dCons (dName 1) (dCons (dName 2) (dCons (dC .non) (dCons (dC .non) dNil))))))))) (gOne "BadValue" "name"))
  (sRet (dC (.str ""))))
def F__law_told : Fe := fnD 5 fs__law_told
theorem ok__law_told : CE P w K mg base 8 "_law_told" ["_law_which", "_law_one", "_law_two", "_law_three"] F__law_told := by
  have nd : (["_law_which", "_law_one", "_law_two", "_law_three", "e"] : List Str).Nodup := by decide +kernel
  refine CE.of (N := ["_law_which", "_law_one", "_law_two", "_law_three", "e"]) FX.d__law_told ⟨rfl, rfl, rfl, by decide +kernel, rfl, by decide +kernel, by decide +kernel⟩ (fun _ _ _ _ _ _ us hl => match us, hl with | [_, _, _, _], _ => rfl) fun X W cdv A outer s H E f hX hr hW tk po => ?_
  subst hX
  delta fs__law_told
  exact (vss_cons (vs_try (i := 4) rfl rfl nd rfl (by rfl) ⟨rfl, by decide, .inl FX.g_BadValue⟩ tk (exm_all FX.ex_BadValue) (fun W pn xe tk po => (vss_one (vs_if (vt_cmp (op_eqDD hr) (ve_name 0) ve_int (by rfl)) (vss_one (vs_expr ((ok_lies_between FX).ve [.v,.v,.v] hr tk (va_cons (ve_name 1) (va_cons (ve_name 2) (va_cons (ve_name 3) va_nil)))))) (vss_one (vs_if (vt_cmp (op_eqDD hr) (ve_name 0) ve_int (by rfl)) (vss_one (vs_expr ((ok_is_one_rule_away FX).ve [.v,.v] hr tk (va_cons (ve_name 1) (va_cons (ve_name 2) va_nil))))) (vss_one (vs_if (vt_cmp (op_eqDD hr) (ve_name 0) ve_int (by rfl)) (vss_one (vs_expr ((ok_way FX).ve [.v,.v] hr tk (va_cons (ve_name 1) (va_cons (ve_name 2) va_nil))))) (vss_one (vs_expr ((ok_is_shortest_row FX).ve [.v,.v,.v,.v] hr tk (va_cons (ve_name 1) (va_cons (ve_name 2) (va_cons ve_non (va_cons ve_non va_nil)))))))))))))) (fun a oe cls d pn hz hf => su_one FX.xb_BadValue (by decide +kernel) hz hf rfl (by first | exact Or.inl rfl | exact Or.inr (Or.inl rfl) | exact Or.inr (Or.inr rfl))))
  (vss_one (vs_ret ve_str)))
end
def law_0 : Fs := (sSet 1 (dCall F__law_stream [.v] (dCons (dName 0) dNil)))
def law_1 : Fs := (sSet 2 (dTup (vCons (dC (.str "a")) (vCons (dC (.str "b")) (vCons (dC (.str "c")) (vCons (dC (.str "d")) (vCons (dC (.str "e")) (vCons (dC (.str "f")) (vCons (dC (.str "g")) (vCons (dC (.str "h")) (vCons (dC (.str "i")) (vCons (dC (.str "j")) (vCons (dC (.str "k")) (vCons (dC (.str "l")) vNil))))))))))))))
def law_2 : Fs := (sSet 3 (dTup (vCons (dC (.int 1)) (vCons (dC (.int 2)) (vCons (dC (.int 3)) (vCons (dC (.int 1)) (vCons (dC (.int 2)) (vCons (dC (.int 3)) (vCons (dC (.int 1)) (vCons (dC (.int 2)) (vCons (dC (.int 3)) (vCons (dC (.int 1)) (vCons (dC (.int 2)) vNil)))))))))))))
def law_3 : Fs := (sSet 4 (dTup (vCons (dName 2) (vCons (dName 3) vNil))))
def law_4 : Fs := (sSet 5 (dTup (vCons (dUn revD (dName 2)) (vCons (dUn revD (dName 3)) vNil))))
def law_5 : Fs := (sSet 6 (dTup (vCons (dSl (dName 2) oNone (oSome (dC (.int 11)))) (vCons (dSl (dName 3) oNone (oSome (dC (.int 10)))) vNil))))
def law_6 : Fs := (sSet 7 (dTup (vCons (dBin addD (dSl (dName 2) oNone (oSome (dC (.int 11)))) (dTup (vCons (dC (.str "z")) vNil))) (vCons (dName 3) vNil))))
def law_7 : Fs := (sSet 8 (dLst (vCons (dTup vNil) (vCons (dBin mulD2 (dTup (vCons (dName 4) vNil)) (dC (.int 7))) (vCons (dLst (vCons (dName 4) vNil)) (vCons (dTup (vCons (dName 4) (vCons (dName 6) vNil))) (vCons (dTup (vCons (dName 4) (vCons (dName 7) vNil))) (vCons (dTup (vCons (dName 4) (vCons (dC .non) vNil))) (vCons (dC .non) (vCons (dTup (vCons (dTup (vCons (dTup vNil) (vCons (dTup vNil) vNil))) vNil)) (vCons (dTup (vCons (dTup (vCons (dName 2) (vCons (dTup (vCons (dC (.int 1)) vNil)) vNil))) vNil)) (vCons (dName 4) vNil))))))))))))
def law_8 : Fs := (sSet 9 (dBin ixD (dName 8) (dCall F__law_next [.io,.v] (dCons (dName 1) (dCons (dC (.int 10)) dNil)))))
def law_9 : Fs := (sSet 10 (dCall F__law_next [.io,.v] (dCons (dName 1) (dCons (dC (.int 6)) dNil))))
def law_10 : Fs := (sSet 11 (dTup (vCons (dName 4) (vCons (dName 5) (vCons (dName 4) (vCons (dName 5) (vCons (dName 4) (vCons (dName 4) vNil))))))))
def law_11 : Fs := (sIf (dOr (dTB (dBin isNotO (dCall F_is_path [.v] (dCons (dName 11) dNil)) (dC (.bl true)))) (dTB (dBin isNotO (dCall F_is_path [.v] (dCons (dName 9) dNil)) (dC (.bl false))))) (sRet (dC (.bl false))) sNil)
def law_12 : Fs := (sIf (dOr (dTB (dBin neD (dCall F__law_path_told [.v,.v] (dCons (dName 10) (dCons (dName 9) dNil))) (dC (.str "orders")))) (dTB (dBin neD (dCall F__law_path_told [.v,.v] (dCons (dName 10) (dCons (dName 11) dNil))) (dC (.str ""))))) (sRet (dC (.bl false))) sNil)
def law_13 : Fs := (sSet 12 (dBin ixD (dLst (vCons (dTup (vCons (dTup vNil) (vCons (dTup vNil) vNil))) (vCons (dC .non) (vCons (dTup (vCons (dName 2) (vCons (dTup (vCons (dC (.int 1)) vNil)) vNil))) (vCons (dTup (vCons (dTup (vCons (dC (.str "a")) (vCons (dC (.str "b")) (vCons (dC (.str "b")) vNil)))) (vCons (dTup (vCons (dC (.int 1)) (vCons (dC (.int 1)) vNil))) vNil))) (vCons (dLst (vCons (dTup (vCons (dC (.str "a")) vNil)) (vCons (dTup vNil) vNil))) (vCons (dTup (vCons (dTup (vCons (dC (.str "a")) (vCons (dC (.str "b")) vNil))) (vCons (dTup (vCons (dC (.int 4)) vNil)) vNil))) vNil))))))) (dCall F__law_next [.io,.v] (dCons (dName 1) (dCons (dC (.int 6)) dNil)))))
def law_14 : Fs := (sSet 13 (dBin ixD (dLst (vCons (dName 6) (vCons (dName 7) (vCons (dName 12) vNil)))) (dCall F__law_next [.io,.v] (dCons (dName 1) (dCons (dC (.int 3)) dNil)))))
def law_15 : Fs := (sSet 10 (dCall F__law_next [.io,.v] (dCons (dName 1) (dCons (dC (.int 4)) dNil))))
def law_16 : Fs := (sSet 14 (dBin ixD (dLst (vCons (dLst (vCons (dC (.str "middle")) (vCons (dC (.str "first")) (vCons (dC (.str "second")) vNil)))) (vCons (dLst (vCons (dC (.str "first")) (vCons (dC (.str "second")) vNil))) (vCons (dLst (vCons (dC (.str "first")) (vCons (dC (.str "second")) vNil))) (vCons (dLst (vCons (dC (.str "first")) (vCons (dC (.str "second")) vNil))) vNil))))) (dName 10)))
def law_17 : Fs := (sIf (dAnd (dTB (dBin eqD (dName 10) (dC (.int 0)))) (dTB (dBin eqD (dName 12) (dTup (vCons (dTup vNil) (vCons (dTup vNil) vNil)))))) (sSeq (sSet 12 (dTup (vCons (dName 2) (vCons (dTup (vCons (dC (.int 1)) vNil)) vNil))))
  (sSet 13 (dBin ixD (dLst (vCons (dName 6) (vCons (dName 7) (vCons (dName 12) vNil)))) (dCall F__law_next [.io,.v] (dCons (dName 1) (dCons (dC (.int 3)) dNil)))))) sNil)
def law_18 : Fs := (sIf (dOr (dTB (dBin neD (dCall F__law_told [.v,.v,.v,.v] (dCons (dName 10) (dCons (dName 12) (dCons (dName 13) (dCons (dName 13) dNil))))) (dBin ixD (dName 14) (dC (.int 0))))) (dTB (dBin neD (dCall F__law_told [.v,.v,.v,.v] (dCons (dName 10) (dCons (dName 4) (dCons (dName 13) (dCons (dName 13) dNil))))) (dBin ixD (dName 14) (dC (.int 1)))))) (sRet (dC (.bl false))) sNil)
def law_19 : Fs := (sIf (dAnd (dTB (dBin eqD (dName 10) (dC (.int 0)))) (dTB (dBin neD (dCall F__law_told [.v,.v,.v,.v] (dCons (dC (.int 0)) (dCons (dName 4) (dCons (dName 5) (dCons (dName 13) dNil))))) (dC (.str "second"))))) (sRet (dC (.bl false))) sNil)
def law_20 : Fs := (sRet (dBin eqD (dCall F__law_told [.v,.v,.v,.v] (dCons (dName 10) (dCons (dName 4) (dCons (dName 5) (dCons (dName 4) dNil))))) (dC (.str ""))))
def fs_law : Fs := (sSeq law_0 (sSeq law_1 (sSeq law_2 (sSeq law_3 (sSeq law_4 (sSeq law_5 (sSeq law_6 (sSeq law_7 (sSeq law_8 (sSeq law_9 (sSeq law_10 (sSeq law_11 (sSeq law_12 (sSeq law_13 (sSeq law_14 (sSeq law_15 (sSeq law_16 (sSeq law_17 (sSeq law_18 (sSeq law_19 law_20))))))))))))))))))))
def F_law : Fe := fnD 15 fs_law
section
variable {P : Program} {w : World} {K : PySem.W.Frag} {mg : Str → Option Value}
theorem ok_law (b0 : Heap) (FX : ∀ base : Heap, Fx P w K mg base) : CA P w K mg 10 "law" ["_law_script"] F_law := by
  have nd : (["_law_script", "_law_stream_here", "_law_letters", "_law_strengths", "_law_order", "_law_back", "_law_shorter", "_law_other", "_law_wrong", "_law_bad", "_law_which", "_law_good", "_law_none", "_law_unlike", "_law_names"] : List Str).Nodup := by decide +kernel
  refine CA.of (N := ["_law_script", "_law_stream_here", "_law_letters", "_law_strengths", "_law_order", "_law_back", "_law_shorter", "_law_other", "_law_wrong", "_law_bad", "_law_which", "_law_good", "_law_none", "_law_unlike", "_law_names"]) (FX b0).d_law ⟨rfl, rfl, rfl, by decide +kernel, rfl, by decide +kernel, by decide +kernel⟩ (fun _ _ _ _ _ _ us hl => match us, hl with | [_], _ => rfl) fun base X W cdv A outer s H E f hX hr hW tk po => ?_
  subst hX
  replace FX := FX base
  delta fs_law law_0 law_1 law_2 law_3 law_4 law_5 law_6 law_7 law_8 law_9 law_10 law_11 law_12 law_13 law_14 law_15 law_16 law_17 law_18 law_19 law_20
  exact (vss_cons (vs_set nd rfl (by first | exact Or.inl rfl | exact Or.inr rfl) ((ok__law_stream FX).ve [.v] hr tk (va_cons (ve_name 0) va_nil)))
  (vss_cons (vs_set nd rfl (by first | exact Or.inl rfl | exact Or.inr rfl) (ve_tup (vv_cons ve_str (vv_cons ve_str (vv_cons ve_str (vv_cons ve_str (vv_cons ve_str (vv_cons ve_str (vv_cons ve_str (vv_cons ve_str (vv_cons ve_str (vv_cons ve_str (vv_cons ve_str (vv_cons ve_str vv_nil))))))))))))))
  (vss_cons (vs_set nd rfl (by first | exact Or.inl rfl | exact Or.inr rfl) (ve_tup (vv_cons ve_int (vv_cons ve_int (vv_cons ve_int (vv_cons ve_int (vv_cons ve_int (vv_cons ve_int (vv_cons ve_int (vv_cons ve_int (vv_cons ve_int (vv_cons ve_int (vv_cons ve_int vv_nil)))))))))))))
  (vss_cons (vs_set nd rfl (by first | exact Or.inl rfl | exact Or.inr rfl) (ve_tup (vv_cons (ve_name 2) (vv_cons (ve_name 3) vv_nil))))
  (vss_cons (vs_set nd rfl (by first | exact Or.inl rfl | exact Or.inr rfl) (ve_tup (vv_cons (ve_rev (ve_name 2)) (vv_cons (ve_rev (ve_name 3)) vv_nil))))
  (vss_cons (vs_set nd rfl (by first | exact Or.inl rfl | exact Or.inr rfl) (ve_tup (vv_cons (ve_sl (ve_name 2) vo_none (vo_some ve_int)) (vv_cons (ve_sl (ve_name 3) vo_none (vo_some ve_int)) vv_nil))))
  (vss_cons (vs_set nd rfl (by first | exact Or.inl rfl | exact Or.inr rfl) (ve_tup (vv_cons (ve_bin op_addD (ve_sl (ve_name 2) vo_none (vo_some ve_int)) (ve_tup (vv_cons ve_str vv_nil))) (vv_cons (ve_name 3) vv_nil))))
  (vss_cons (vs_set nd rfl (by first | exact Or.inl rfl | exact Or.inr rfl) (ve_lst (vv_cons (ve_tup vv_nil) (vv_cons (ve_bin op_mulD2 (ve_tup (vv_cons (ve_name 4) vv_nil)) ve_int) (vv_cons (ve_lst (vv_cons (ve_name 4) vv_nil)) (vv_cons (ve_tup (vv_cons (ve_name 4) (vv_cons (ve_name 6) vv_nil))) (vv_cons (ve_tup (vv_cons (ve_name 4) (vv_cons (ve_name 7) vv_nil))) (vv_cons (ve_tup (vv_cons (ve_name 4) (vv_cons ve_non vv_nil))) (vv_cons ve_non (vv_cons (ve_tup (vv_cons (ve_tup (vv_cons (ve_tup vv_nil) (vv_cons (ve_tup vv_nil) vv_nil))) vv_nil)) (vv_cons (ve_tup (vv_cons (ve_tup (vv_cons (ve_name 2) (vv_cons (ve_tup (vv_cons ve_int vv_nil)) vv_nil))) vv_nil)) (vv_cons (ve_name 4) vv_nil))))))))))))
  (vss_cons (vs_set nd rfl (by first | exact Or.inl rfl | exact Or.inr rfl) (ve_ix (ix_D hr) (ve_name 8) ((ok__law_next FX).ve [.io,.v] hr tk (va_cons (ve_name 1) (va_cons ve_int va_nil)))))
  (vss_cons (vs_set nd rfl (by first | exact Or.inl rfl | exact Or.inr rfl) ((ok__law_next FX).ve [.io,.v] hr tk (va_cons (ve_name 1) (va_cons ve_int va_nil))))
  (vss_cons (vs_set nd rfl (by first | exact Or.inl rfl | exact Or.inr rfl) (ve_tup (vv_cons (ve_name 4) (vv_cons (ve_name 5) (vv_cons (ve_name 4) (vv_cons (ve_name 5) (vv_cons (ve_name 4) (vv_cons (ve_name 4) vv_nil))))))))
  (vss_cons (vs_if (vt_w (vw_or (vt_cmp op_isNotDD ((ok_is_path FX).ve [.v] hr tk (va_cons (ve_name 11) va_nil)) ve_bl (by rfl)) (vw_one_or (vt_cmp op_isNotDD ((ok_is_path FX).ve [.v] hr tk (va_cons (ve_name 9) va_nil)) ve_bl (by rfl))))) (vss_one (vs_ret ve_bl)) vss_nil)
  (vss_cons (vs_if (vt_w (vw_or (vt_cmp (op_neDD hr) ((ok__law_path_told FX).ve [.v,.v] hr tk (va_cons (ve_name 10) (va_cons (ve_name 9) va_nil))) ve_str (by rfl)) (vw_one_or (vt_cmp (op_neDD hr) ((ok__law_path_told FX).ve [.v,.v] hr tk (va_cons (ve_name 10) (va_cons (ve_name 11) va_nil))) ve_str (by rfl))))) (vss_one (vs_ret ve_bl)) vss_nil)
  (vss_cons (vs_set nd rfl (by first | exact Or.inl rfl | exact Or.inr rfl) (ve_ix (ix_D hr) (ve_lst (vv_cons (ve_tup (vv_cons (ve_tup vv_nil) (vv_cons (ve_tup vv_nil) vv_nil))) (vv_cons ve_non (vv_cons (ve_tup (vv_cons (ve_name 2) (vv_cons (ve_tup (vv_cons ve_int vv_nil)) vv_nil))) (vv_cons (ve_tup (vv_cons (ve_tup (vv_cons ve_str (vv_cons ve_str (vv_cons ve_str vv_nil)))) (vv_cons (ve_tup (vv_cons ve_int (vv_cons ve_int vv_nil))) vv_nil))) (vv_cons (ve_lst (vv_cons (ve_tup (vv_cons ve_str vv_nil)) (vv_cons (ve_tup vv_nil) vv_nil))) (vv_cons (ve_tup (vv_cons (ve_tup (vv_cons ve_str (vv_cons ve_str vv_nil))) (vv_cons (ve_tup (vv_cons ve_int vv_nil)) vv_nil))) vv_nil))))))) ((ok__law_next FX).ve [.io,.v] hr tk (va_cons (ve_name 1) (va_cons ve_int va_nil)))))
  (vss_cons (vs_set nd rfl (by first | exact Or.inl rfl | exact Or.inr rfl) (ve_ix (ix_D hr) (ve_lst (vv_cons (ve_name 6) (vv_cons (ve_name 7) (vv_cons (ve_name 12) vv_nil)))) ((ok__law_next FX).ve [.io,.v] hr tk (va_cons (ve_name 1) (va_cons ve_int va_nil)))))
  (vss_cons (vs_set nd rfl (by first | exact Or.inl rfl | exact Or.inr rfl) ((ok__law_next FX).ve [.io,.v] hr tk (va_cons (ve_name 1) (va_cons ve_int va_nil))))
  (vss_cons (vs_set nd rfl (by first | exact Or.inl rfl | exact Or.inr rfl) (ve_ix (ix_D hr) (ve_lst (vv_cons (ve_lst (vv_cons ve_str (vv_cons ve_str (vv_cons ve_str vv_nil)))) (vv_cons (ve_lst (vv_cons ve_str (vv_cons ve_str vv_nil))) (vv_cons (ve_lst (vv_cons ve_str (vv_cons ve_str vv_nil))) (vv_cons (ve_lst (vv_cons ve_str (vv_cons ve_str vv_nil))) vv_nil))))) (ve_name 10)))
  (vss_cons (vs_if (vt_w (vw_and (vt_cmp (op_eqDD hr) (ve_name 10) ve_int (by rfl)) (vw_one_and (vt_cmp (op_eqDD hr) (ve_name 12) (ve_tup (vv_cons (ve_tup vv_nil) (vv_cons (ve_tup vv_nil) vv_nil))) (by rfl))))) (vss_cons (vs_set nd rfl (by first | exact Or.inl rfl | exact Or.inr rfl) (ve_tup (vv_cons (ve_name 2) (vv_cons (ve_tup (vv_cons ve_int vv_nil)) vv_nil))))
  (vss_one (vs_set nd rfl (by first | exact Or.inl rfl | exact Or.inr rfl) (ve_ix (ix_D hr) (ve_lst (vv_cons (ve_name 6) (vv_cons (ve_name 7) (vv_cons (ve_name 12) vv_nil)))) ((ok__law_next FX).ve [.io,.v] hr tk (va_cons (ve_name 1) (va_cons ve_int va_nil))))))) vss_nil)
  (vss_cons (vs_if (vt_w (vw_or (vt_cmp (op_neDD hr) ((ok__law_told FX).ve [.v,.v,.v,.v] hr tk (va_cons (ve_name 10) (va_cons (ve_name 12) (va_cons (ve_name 13) (va_cons (ve_name 13) va_nil))))) (ve_ix (ix_D hr) (ve_name 14) ve_int) (by rfl)) (vw_one_or (vt_cmp (op_neDD hr) ((ok__law_told FX).ve [.v,.v,.v,.v] hr tk (va_cons (ve_name 10) (va_cons (ve_name 4) (va_cons (ve_name 13) (va_cons (ve_name 13) va_nil))))) (ve_ix (ix_D hr) (ve_name 14) ve_int) (by rfl))))) (vss_one (vs_ret ve_bl)) vss_nil)
  (vss_cons (vs_if (vt_w (vw_and (vt_cmp (op_eqDD hr) (ve_name 10) ve_int (by rfl)) (vw_one_and (vt_cmp (op_neDD hr) ((ok__law_told FX).ve [.v,.v,.v,.v] hr tk (va_cons ve_int (va_cons (ve_name 4) (va_cons (ve_name 5) (va_cons (ve_name 13) va_nil))))) ve_str (by rfl))))) (vss_one (vs_ret ve_bl)) vss_nil)
  (vss_one (vs_ret (ve_cmp (op_eqDD hr) ((ok__law_told FX).ve [.v,.v,.v,.v] hr tk (va_cons (ve_name 10) (va_cons (ve_name 4) (va_cons (ve_name 5) (va_cons (ve_name 4) va_nil))))) ve_str (by rfl))))))))))))))))))))))))
end
end Lw

namespace Lw
open PySem PySem.Spec L2 VL
def d_BadValue__init__ : He.DefD := ⟨("BadValue", some "__init__"), "__init__", "BadValue.__init__", defArgs (inClass (top 2) 0), defBody (inClass (top 2) 0), defScope (inClass (top 2) 0), [], []⟩
def d_is_whole : He.DefD := ⟨("is_whole", none), "is_whole", "is_whole", defArgs (top 8), defBody (top 8), defScope (top 8), [], []⟩
def d_is_level : He.DefD := ⟨("is_level", none), "is_level", "is_level", defArgs (top 9), defBody (top 9), defScope (top 9), [], []⟩
def d_is_letter : He.DefD := ⟨("is_letter", none), "is_letter", "is_letter", defArgs (top 10), defBody (top 10), defScope (top 10), [], []⟩
def d_are_letters : He.DefD := ⟨("are_letters", none), "are_letters", "are_letters", defArgs (top 11), defBody (top 11), defScope (top 11), [], []⟩
def d_is_order : He.DefD := ⟨("is_order", none), "is_order", "is_order", defArgs (top 12), defBody (top 12), defScope (top 12), [], []⟩
def d_removed : He.DefD := ⟨("removed", none), "removed", "removed", defArgs (top 13), defBody (top 13), defScope (top 13), [], []⟩
def d_places_of : He.DefD := ⟨("places_of", none), "places_of", "places_of", defArgs (top 15), defBody (top 15), defScope (top 15), [], []⟩
def d_least_between : He.DefD := ⟨("least_between", none), "least_between", "least_between", defArgs (top 16), defBody (top 16), defScope (top 16), [], []⟩
def d_Pairs_lengths : He.DefD := ⟨("Pairs", some "lengths"), "lengths", "Pairs.lengths", defArgs (inClass (top 17) 2), defBody (inClass (top 17) 2), defScope (inClass (top 17) 2), [], []⟩
def d_longest_in : He.DefD := ⟨("longest_in", none), "longest_in", "longest_in", defArgs (top 18), defBody (top 18), defScope (top 18), [], []⟩
def d_Pairs_can_follow : He.DefD := ⟨("Pairs", some "can_follow"), "can_follow", "Pairs.can_follow", defArgs (inClass (top 17) 1), defBody (inClass (top 17) 1), defScope (inClass (top 17) 1), [], []⟩
def d_Pairs___init__ : He.DefD := ⟨("Pairs", some "__init__"), "__init__", "Pairs.__init__", defArgs (inClass (top 17) 0), defBody (inClass (top 17) 0), defScope (inClass (top 17) 0), [], []⟩
def d_longest_of : He.DefD := ⟨("longest_of", none), "longest_of", "longest_of", defArgs (top 19), defBody (top 19), defScope (top 19), [], []⟩
def d_is_integer : He.DefD := ⟨("is_integer", none), "is_integer", "is_integer", defArgs (top 20), defBody (top 20), defScope (top 20), [], []⟩
def d_are_right : He.DefD := ⟨("are_right", none), "are_right", "are_right", defArgs (top 21), defBody (top 21), defScope (top 21), [], []⟩
def d_turned_around : He.DefD := ⟨("turned_around", none), "turned_around", "turned_around", defArgs (top 23), defBody (top 23), defScope (top 23), [], []⟩
def d_put_after : He.DefD := ⟨("put_after", none), "put_after", "put_after", defArgs (top 24), defBody (top 24), defScope (top 24), [], []⟩
def d_put : He.DefD := ⟨("put", none), "put", "put", defArgs (top 25), defBody (top 25), defScope (top 25), [], []⟩
def d_from_left : He.DefD := ⟨("from_left", none), "from_left", "from_left", defArgs (top 27), defBody (top 27), defScope (top 27), [], []⟩
def d_from_right : He.DefD := ⟨("from_right", none), "from_right", "from_right", defArgs (top 28), defBody (top 28), defScope (top 28), [], []⟩
def d_gap_rules : He.DefD := ⟨("gap_rules", none), "gap_rules", "gap_rules", defArgs (top 29), defBody (top 29), defScope (top 29), [], []⟩
def d_keep : He.DefD := ⟨("keep", none), "keep", "keep", defArgs (top 30), defBody (top 30), defScope (top 30), [], []⟩
def d_distance_of : He.DefD := ⟨("distance_of", none), "distance_of", "distance_of", defArgs (top 32), defBody (top 32), defScope (top 32), [], []⟩
def d_rules_of : He.DefD := ⟨("rules_of", none), "rules_of", "rules_of", defArgs (top 33), defBody (top 33), defScope (top 33), [], []⟩
def d_has_letters : He.DefD := ⟨("has_letters", none), "has_letters", "has_letters", defArgs (top 36), defBody (top 36), defScope (top 36), [], []⟩
def d_is_path : He.DefD := ⟨("is_path", none), "is_path", "is_path", defArgs (top 37), defBody (top 37), defScope (top 37), [], []⟩
def d_check_path : He.DefD := ⟨("check_path", none), "check_path", "check_path", defArgs (top 38), defBody (top 38), defScope (top 38), [], []⟩
def d_check_alike : He.DefD := ⟨("check_alike", none), "check_alike", "check_alike", defArgs (top 39), defBody (top 39), defScope (top 39), [], []⟩
def d_check_begin : He.DefD := ⟨("check_begin", none), "check_begin", "check_begin", defArgs (top 40), defBody (top 40), defScope (top 40), [], []⟩
def d_length_of : He.DefD := ⟨("length_of", none), "length_of", "length_of", defArgs (top 41), defBody (top 41), defScope (top 41), [], []⟩
def d_length : He.DefD := ⟨("length", none), "length", "length", defArgs (top 42), defBody (top 42), defScope (top 42), [], []⟩
def d_direct : He.DefD := ⟨("direct", none), "direct", "direct", defArgs (top 43), defBody (top 43), defScope (top 43), [], []⟩
def d_is_shortest : He.DefD := ⟨("is_shortest", none), "is_shortest", "is_shortest", defArgs (top 44), defBody (top 44), defScope (top 44), [], []⟩
def d_farthest : He.DefD := ⟨("farthest", none), "farthest", "farthest", defArgs (top 45), defBody (top 45), defScope (top 45), [], []⟩
def d_joined_rules : He.DefD := ⟨("joined_rules", none), "joined_rules", "joined_rules", defArgs (top 46), defBody (top 46), defScope (top 46), [], []⟩
def d_kept_along : He.DefD := ⟨("kept_along", none), "kept_along", "kept_along", defArgs (top 47), defBody (top 47), defScope (top 47), [], []⟩
def d_lies_between : He.DefD := ⟨("lies_between", none), "lies_between", "lies_between", defArgs (top 48), defBody (top 48), defScope (top 48), [], []⟩
def d_is_step : He.DefD := ⟨("is_step", none), "is_step", "is_step", defArgs (top 50), defBody (top 50), defScope (top 50), [], []⟩
def d_is_one_rule_away : He.DefD := ⟨("is_one_rule_away", none), "is_one_rule_away", "is_one_rule_away", defArgs (top 51), defBody (top 51), defScope (top 51), [], []⟩
def d_way : He.DefD := ⟨("way", none), "way", "way", defArgs (top 52), defBody (top 52), defScope (top 52), [], []⟩
def d_is_row : He.DefD := ⟨("is_row", none), "is_row", "is_row", defArgs (top 53), defBody (top 53), defScope (top 53), [], []⟩
def d_is_shortest_row : He.DefD := ⟨("is_shortest_row", none), "is_shortest_row", "is_shortest_row", defArgs (top 54), defBody (top 54), defScope (top 54), [], []⟩
def d__law_stream : He.DefD := ⟨("_law_stream", none), "_law_stream", "_law_stream", defArgs (top 56), defBody (top 56), defScope (top 56), [], []⟩
def d__law_next : He.DefD := ⟨("_law_next", none), "_law_next", "_law_next", defArgs (top 57), defBody (top 57), defScope (top 57), [], []⟩
def d__law_path_told : He.DefD := ⟨("_law_path_told", none), "_law_path_told", "_law_path_told", defArgs (top 58), defBody (top 58), defScope (top 58), [], []⟩
def d__law_told : He.DefD := ⟨("_law_told", none), "_law_told", "_law_told", defArgs (top 59), defBody (top 59), defScope (top 59), [], []⟩
def d_law : He.DefD := ⟨("law", none), "law", "law", defArgs (top 60), defBody (top 60), defScope (top 60), [], []⟩
def hfn : List He.DefD := [d_BadValue__init__, d_is_whole, d_is_level, d_is_letter, d_are_letters, d_is_order, d_removed, d_places_of, d_least_between, d_Pairs_lengths, d_longest_in, d_Pairs_can_follow, d_Pairs___init__, d_longest_of, d_is_integer, d_are_right, d_turned_around, d_put_after, d_put, d_from_left, d_from_right, d_gap_rules, d_keep, d_distance_of, d_rules_of, d_has_letters, d_is_path, d_check_path, d_check_alike, d_check_begin, d_length_of, d_length, d_direct, d_is_shortest, d_farthest, d_joined_rules, d_kept_along, d_lies_between, d_is_step, d_is_one_rule_away, d_way, d_is_row, d_is_shortest_row, d__law_stream, d__law_next, d__law_path_told, d__law_told, d_law]
def hfa : List He.Fa := [.free "abs", .free "all", .free "any", .free "bool", .free "enumerate", .free "int", .free "isinstance", .free "len", .free "list", .free "max", .free "min", .free "range", .free "sorted", .free "str", .free "sum", .free "tuple", .free "zip", .str "CHARACTERS" "abcdefghijklmnopqrstuvwxyz", .str "DIGITS" "0123456789", .int "LONGEST" 12, .int "MOST" 12, .int "MOST_ORDERS" 6, .glo "RulesError", .glo "BadValue", .exm "BadValue" "BadValue" true, .glo "Pairs", .cls "Pairs", .noat "Pairs" "places", .noat "Pairs" "first", .noat "Pairs" "second", .noat "Pairs" "own", .noat "Pairs" "letters", .noat "Pairs" "many", .noat "Pairs" "links", .mkr "Pairs", .meth "Pairs" "__init__", .meth "Pairs" "can_follow", .meth "Pairs" "lengths", .meth "Pairs" "levels", .glo "is_whole", .glo "is_level", .glo "is_letter", .glo "are_letters", .glo "is_order", .glo "removed", .glo "places_of", .glo "least_between", .glo "longest_in", .glo "longest_of", .glo "is_integer", .glo "are_right", .glo "turned_around", .glo "put_after", .glo "put", .glo "from_left", .glo "from_right", .glo "gap_rules", .glo "keep", .glo "distance_of", .glo "rules_of", .glo "has_letters", .glo "is_path", .glo "check_path", .glo "check_alike", .glo "check_begin", .glo "length_of", .glo "length", .glo "direct", .glo "is_shortest", .glo "farthest", .glo "joined_rules", .glo "kept_along", .glo "lies_between", .glo "is_step", .glo "is_one_rule_away", .glo "way", .glo "is_row", .glo "is_shortest_row", .glo "_law_stream", .glo "_law_next", .glo "_law_path_told", .glo "_law_told", .glo "law"]
def hex (K : PySem.W.Frag) : Bool := (xbB K "BadValue" ["name"] && true)
def lo0 : List Str := ["RulesError", "BadValue", "CHARACTERS", "DIGITS", "LONGEST", "MOST", "is_whole", "is_level", "is_letter", "are_letters", "is_order", "removed", "places_of", "least_between", "Pairs", "longest_in", "longest_of", "is_integer", "are_right", "turned_around", "put_after", "put", "from_left", "from_right", "gap_rules", "keep", "distance_of", "rules_of", "MOST_ORDERS", "has_letters"]
def lo1 : List Str := ["is_path", "check_path", "check_alike", "check_begin", "length_of", "length", "direct", "is_shortest", "farthest", "joined_rules", "kept_along", "lies_between", "is_step", "is_one_rule_away", "way", "is_row", "is_shortest_row", "_law_stream", "_law_next", "_law_path_told", "_law_told"]
def loose : List Str := lo0 ++ lo1
abbrev hR : PySem.W.OpenRow := PySem.W.OpenLaw.row PySem.Challenge.rw_fewestrules_k84_refusals_of_paths
abbrev hk : PySem.W.Hook := He.hookX 4 hfa hfn [] [] hex
def hob (s : PySem.W.SharedT) : He.AlX := He.obsX 4 hfa hfn [] [] hex (HandSHeadRun.getT s)
theorem hob_eq (s : PySem.W.SharedT) : hob s = hk.obs s.abs := He.obsX_eq (HandSHeadRun.getT_eq s)
theorem hrun (w : World) : HandSHeadRun.RunEq hR (PySem.W.view hR.prog [60]) hk hob 6000 loose w := by
  intro os
  kernel_rfl
theorem hfx {P : Program} {w : World} {K : PySem.W.Frag} {h : Heap} {mg : Str → Option Value} {base : Heap} (X : K.In h) (G : h.Ns mainGlobals mg) (c : He.SaysX hfa hfn [] [] hex w h K) : Fx P w K mg base := by
  have hx := c.more
  obtain ⟨x0, hx⟩ := He.ba hx
  exact {
    b_abs := He.free_ok X G (c.t.d.fact 0 (f := .free "abs") rfl)
    b_all := He.free_ok X G (c.t.d.fact 1 (f := .free "all") rfl)
    b_any := He.free_ok X G (c.t.d.fact 2 (f := .free "any") rfl)
    b_bool := He.free_ok X G (c.t.d.fact 3 (f := .free "bool") rfl)
    b_enumerate := He.free_ok X G (c.t.d.fact 4 (f := .free "enumerate") rfl)
    b_int := He.free_ok X G (c.t.d.fact 5 (f := .free "int") rfl)
    b_isinstance := He.free_ok X G (c.t.d.fact 6 (f := .free "isinstance") rfl)
    b_len := He.free_ok X G (c.t.d.fact 7 (f := .free "len") rfl)
    b_list := He.free_ok X G (c.t.d.fact 8 (f := .free "list") rfl)
    b_max := He.free_ok X G (c.t.d.fact 9 (f := .free "max") rfl)
    b_min := He.free_ok X G (c.t.d.fact 10 (f := .free "min") rfl)
    b_range := He.free_ok X G (c.t.d.fact 11 (f := .free "range") rfl)
    b_sorted := He.free_ok X G (c.t.d.fact 12 (f := .free "sorted") rfl)
    b_str := He.free_ok X G (c.t.d.fact 13 (f := .free "str") rfl)
    b_sum := He.free_ok X G (c.t.d.fact 14 (f := .free "sum") rfl)
    b_tuple := He.free_ok X G (c.t.d.fact 15 (f := .free "tuple") rfl)
    b_zip := He.free_ok X G (c.t.d.fact 16 (f := .free "zip") rfl)
    c_CHARACTERS := .str (He.str_ok X G (c.t.d.fact 17 (f := .str "CHARACTERS" "abcdefghijklmnopqrstuvwxyz") rfl))
    c_DIGITS := .str (He.str_ok X G (c.t.d.fact 18 (f := .str "DIGITS" "0123456789") rfl))
    c_LONGEST := .int (He.int_ok X G (c.t.d.fact 19 (f := .int "LONGEST" 12) rfl))
    c_MOST := .int (He.int_ok X G (c.t.d.fact 20 (f := .int "MOST" 12) rfl))
    c_MOST_ORDERS := .int (He.int_ok X G (c.t.d.fact 21 (f := .int "MOST_ORDERS" 6) rfl))
    g_RulesError := He.glo_ok X G (c.t.d.fact 22 (f := .glo "RulesError") rfl)
    g_BadValue := He.glo_ok X G (c.t.d.fact 23 (f := .glo "BadValue") rfl)
    xb_BadValue := xb_of x0
    dm_BadValue := ⟨c.t.d.def_ 0 (d := d_BadValue__init__) rfl⟩
    ex_BadValue := (List.forall_mem_cons.mpr ⟨He.exm_ok (c.t.d.fact 24 (f := .exm "BadValue" "BadValue" true) rfl), (fun _ h => nomatch h)⟩)
    g_Pairs := He.glo_ok X G (c.t.d.fact 25 (f := .glo "Pairs") rfl)
    cf_Pairs := ⟨He.cls_ok (c.t.d.fact 26 (f := .cls "Pairs") rfl), (List.forall_mem_cons.mpr ⟨He.noat_ok (c.t.d.fact 27 (f := .noat "Pairs" "places") rfl), (List.forall_mem_cons.mpr ⟨He.noat_ok (c.t.d.fact 28 (f := .noat "Pairs" "first") rfl), (List.forall_mem_cons.mpr ⟨He.noat_ok (c.t.d.fact 29 (f := .noat "Pairs" "second") rfl), (List.forall_mem_cons.mpr ⟨He.noat_ok (c.t.d.fact 30 (f := .noat "Pairs" "own") rfl), (List.forall_mem_cons.mpr ⟨He.noat_ok (c.t.d.fact 31 (f := .noat "Pairs" "letters") rfl), (List.forall_mem_cons.mpr ⟨He.noat_ok (c.t.d.fact 32 (f := .noat "Pairs" "many") rfl), (List.forall_mem_cons.mpr ⟨He.noat_ok (c.t.d.fact 33 (f := .noat "Pairs" "links") rfl), (fun _ h => nomatch h)⟩)⟩)⟩)⟩)⟩)⟩)⟩)⟩
    mk_Pairs := He.mkr_ok (c.t.d.fact 34 (f := .mkr "Pairs") rfl)
    me_Pairs___init__ := He.meth_ok (c.t.d.fact 35 (f := .meth "Pairs" "__init__") rfl)
    me_Pairs_can_follow := He.meth_ok (c.t.d.fact 36 (f := .meth "Pairs" "can_follow") rfl)
    me_Pairs_lengths := He.meth_ok (c.t.d.fact 37 (f := .meth "Pairs" "lengths") rfl)
    me_Pairs_levels := He.meth_ok (c.t.d.fact 38 (f := .meth "Pairs" "levels") rfl)
    d_is_whole := let ⟨fd, h⟩ := c.t.d.def_ 1 (d := d_is_whole) rfl; ⟨_, fd, h, He.glo_ok X G (c.t.d.fact 39 (f := .glo "is_whole") rfl)⟩
    d_is_level := let ⟨fd, h⟩ := c.t.d.def_ 2 (d := d_is_level) rfl; ⟨_, fd, h, He.glo_ok X G (c.t.d.fact 40 (f := .glo "is_level") rfl)⟩
    d_is_letter := let ⟨fd, h⟩ := c.t.d.def_ 3 (d := d_is_letter) rfl; ⟨_, fd, h, He.glo_ok X G (c.t.d.fact 41 (f := .glo "is_letter") rfl)⟩
    d_are_letters := let ⟨fd, h⟩ := c.t.d.def_ 4 (d := d_are_letters) rfl; ⟨_, fd, h, He.glo_ok X G (c.t.d.fact 42 (f := .glo "are_letters") rfl)⟩
    d_is_order := let ⟨fd, h⟩ := c.t.d.def_ 5 (d := d_is_order) rfl; ⟨_, fd, h, He.glo_ok X G (c.t.d.fact 43 (f := .glo "is_order") rfl)⟩
    d_removed := let ⟨fd, h⟩ := c.t.d.def_ 6 (d := d_removed) rfl; ⟨_, fd, h, He.glo_ok X G (c.t.d.fact 44 (f := .glo "removed") rfl)⟩
    d_places_of := let ⟨fd, h⟩ := c.t.d.def_ 7 (d := d_places_of) rfl; ⟨_, fd, h, He.glo_ok X G (c.t.d.fact 45 (f := .glo "places_of") rfl)⟩
    d_least_between := let ⟨fd, h⟩ := c.t.d.def_ 8 (d := d_least_between) rfl; ⟨_, fd, h, He.glo_ok X G (c.t.d.fact 46 (f := .glo "least_between") rfl)⟩
    d_Pairs_lengths := ⟨c.t.d.def_ 9 (d := d_Pairs_lengths) rfl⟩
    d_longest_in := let ⟨fd, h⟩ := c.t.d.def_ 10 (d := d_longest_in) rfl; ⟨_, fd, h, He.glo_ok X G (c.t.d.fact 47 (f := .glo "longest_in") rfl)⟩
    d_Pairs_can_follow := ⟨c.t.d.def_ 11 (d := d_Pairs_can_follow) rfl⟩
    d_Pairs___init__ := ⟨c.t.d.def_ 12 (d := d_Pairs___init__) rfl⟩
    d_longest_of := let ⟨fd, h⟩ := c.t.d.def_ 13 (d := d_longest_of) rfl; ⟨_, fd, h, He.glo_ok X G (c.t.d.fact 48 (f := .glo "longest_of") rfl)⟩
    d_is_integer := let ⟨fd, h⟩ := c.t.d.def_ 14 (d := d_is_integer) rfl; ⟨_, fd, h, He.glo_ok X G (c.t.d.fact 49 (f := .glo "is_integer") rfl)⟩
    d_are_right := let ⟨fd, h⟩ := c.t.d.def_ 15 (d := d_are_right) rfl; ⟨_, fd, h, He.glo_ok X G (c.t.d.fact 50 (f := .glo "are_right") rfl)⟩
    d_turned_around := let ⟨fd, h⟩ := c.t.d.def_ 16 (d := d_turned_around) rfl; ⟨_, fd, h, He.glo_ok X G (c.t.d.fact 51 (f := .glo "turned_around") rfl)⟩
    d_put_after := let ⟨fd, h⟩ := c.t.d.def_ 17 (d := d_put_after) rfl; ⟨_, fd, h, He.glo_ok X G (c.t.d.fact 52 (f := .glo "put_after") rfl)⟩
    d_put := let ⟨fd, h⟩ := c.t.d.def_ 18 (d := d_put) rfl; ⟨_, fd, h, He.glo_ok X G (c.t.d.fact 53 (f := .glo "put") rfl)⟩
    d_from_left := let ⟨fd, h⟩ := c.t.d.def_ 19 (d := d_from_left) rfl; ⟨_, fd, h, He.glo_ok X G (c.t.d.fact 54 (f := .glo "from_left") rfl)⟩
    d_from_right := let ⟨fd, h⟩ := c.t.d.def_ 20 (d := d_from_right) rfl; ⟨_, fd, h, He.glo_ok X G (c.t.d.fact 55 (f := .glo "from_right") rfl)⟩
    d_gap_rules := let ⟨fd, h⟩ := c.t.d.def_ 21 (d := d_gap_rules) rfl; ⟨_, fd, h, He.glo_ok X G (c.t.d.fact 56 (f := .glo "gap_rules") rfl)⟩
    d_keep := let ⟨fd, h⟩ := c.t.d.def_ 22 (d := d_keep) rfl; ⟨_, fd, h, He.glo_ok X G (c.t.d.fact 57 (f := .glo "keep") rfl)⟩
    d_distance_of := let ⟨fd, h⟩ := c.t.d.def_ 23 (d := d_distance_of) rfl; ⟨_, fd, h, He.glo_ok X G (c.t.d.fact 58 (f := .glo "distance_of") rfl)⟩
    d_rules_of := let ⟨fd, h⟩ := c.t.d.def_ 24 (d := d_rules_of) rfl; ⟨_, fd, h, He.glo_ok X G (c.t.d.fact 59 (f := .glo "rules_of") rfl)⟩
    d_has_letters := let ⟨fd, h⟩ := c.t.d.def_ 25 (d := d_has_letters) rfl; ⟨_, fd, h, He.glo_ok X G (c.t.d.fact 60 (f := .glo "has_letters") rfl)⟩
    d_is_path := let ⟨fd, h⟩ := c.t.d.def_ 26 (d := d_is_path) rfl; ⟨_, fd, h, He.glo_ok X G (c.t.d.fact 61 (f := .glo "is_path") rfl)⟩
    d_check_path := let ⟨fd, h⟩ := c.t.d.def_ 27 (d := d_check_path) rfl; ⟨_, fd, h, He.glo_ok X G (c.t.d.fact 62 (f := .glo "check_path") rfl)⟩
    d_check_alike := let ⟨fd, h⟩ := c.t.d.def_ 28 (d := d_check_alike) rfl; ⟨_, fd, h, He.glo_ok X G (c.t.d.fact 63 (f := .glo "check_alike") rfl)⟩
    d_check_begin := let ⟨fd, h⟩ := c.t.d.def_ 29 (d := d_check_begin) rfl; ⟨_, fd, h, He.glo_ok X G (c.t.d.fact 64 (f := .glo "check_begin") rfl)⟩
    d_length_of := let ⟨fd, h⟩ := c.t.d.def_ 30 (d := d_length_of) rfl; ⟨_, fd, h, He.glo_ok X G (c.t.d.fact 65 (f := .glo "length_of") rfl)⟩
    d_length := let ⟨fd, h⟩ := c.t.d.def_ 31 (d := d_length) rfl; ⟨_, fd, h, He.glo_ok X G (c.t.d.fact 66 (f := .glo "length") rfl)⟩
    d_direct := let ⟨fd, h⟩ := c.t.d.def_ 32 (d := d_direct) rfl; ⟨_, fd, h, He.glo_ok X G (c.t.d.fact 67 (f := .glo "direct") rfl)⟩
    d_is_shortest := let ⟨fd, h⟩ := c.t.d.def_ 33 (d := d_is_shortest) rfl; ⟨_, fd, h, He.glo_ok X G (c.t.d.fact 68 (f := .glo "is_shortest") rfl)⟩
    d_farthest := let ⟨fd, h⟩ := c.t.d.def_ 34 (d := d_farthest) rfl; ⟨_, fd, h, He.glo_ok X G (c.t.d.fact 69 (f := .glo "farthest") rfl)⟩
    d_joined_rules := let ⟨fd, h⟩ := c.t.d.def_ 35 (d := d_joined_rules) rfl; ⟨_, fd, h, He.glo_ok X G (c.t.d.fact 70 (f := .glo "joined_rules") rfl)⟩
    d_kept_along := let ⟨fd, h⟩ := c.t.d.def_ 36 (d := d_kept_along) rfl; ⟨_, fd, h, He.glo_ok X G (c.t.d.fact 71 (f := .glo "kept_along") rfl)⟩
    d_lies_between := let ⟨fd, h⟩ := c.t.d.def_ 37 (d := d_lies_between) rfl; ⟨_, fd, h, He.glo_ok X G (c.t.d.fact 72 (f := .glo "lies_between") rfl)⟩
    d_is_step := let ⟨fd, h⟩ := c.t.d.def_ 38 (d := d_is_step) rfl; ⟨_, fd, h, He.glo_ok X G (c.t.d.fact 73 (f := .glo "is_step") rfl)⟩
    d_is_one_rule_away := let ⟨fd, h⟩ := c.t.d.def_ 39 (d := d_is_one_rule_away) rfl; ⟨_, fd, h, He.glo_ok X G (c.t.d.fact 74 (f := .glo "is_one_rule_away") rfl)⟩
    d_way := let ⟨fd, h⟩ := c.t.d.def_ 40 (d := d_way) rfl; ⟨_, fd, h, He.glo_ok X G (c.t.d.fact 75 (f := .glo "way") rfl)⟩
    d_is_row := let ⟨fd, h⟩ := c.t.d.def_ 41 (d := d_is_row) rfl; ⟨_, fd, h, He.glo_ok X G (c.t.d.fact 76 (f := .glo "is_row") rfl)⟩
    d_is_shortest_row := let ⟨fd, h⟩ := c.t.d.def_ 42 (d := d_is_shortest_row) rfl; ⟨_, fd, h, He.glo_ok X G (c.t.d.fact 77 (f := .glo "is_shortest_row") rfl)⟩
    d__law_stream := let ⟨fd, h⟩ := c.t.d.def_ 43 (d := d__law_stream) rfl; ⟨_, fd, h, He.glo_ok X G (c.t.d.fact 78 (f := .glo "_law_stream") rfl)⟩
    d__law_next := let ⟨fd, h⟩ := c.t.d.def_ 44 (d := d__law_next) rfl; ⟨_, fd, h, He.glo_ok X G (c.t.d.fact 79 (f := .glo "_law_next") rfl)⟩
    d__law_path_told := let ⟨fd, h⟩ := c.t.d.def_ 45 (d := d__law_path_told) rfl; ⟨_, fd, h, He.glo_ok X G (c.t.d.fact 80 (f := .glo "_law_path_told") rfl)⟩
    d__law_told := let ⟨fd, h⟩ := c.t.d.def_ 46 (d := d__law_told) rfl; ⟨_, fd, h, He.glo_ok X G (c.t.d.fact 81 (f := .glo "_law_told") rfl)⟩
    d_law := let ⟨fd, h⟩ := c.t.d.def_ 47 (d := d_law) rfl; ⟨_, fd, h, He.glo_ok X G (c.t.d.fact 82 (f := .glo "law") rfl)⟩
  }
end Lw

namespace Lw
open PySem PySem.Spec L2 VL
theorem nx_eq : F__law_next = nxF := rfl
def pre : Fs := sSeq law_1 (sSeq law_2 (sSeq law_3 (sSeq law_4 (sSeq law_5 (sSeq law_6 law_7)))))
def tl : En := match pre (List.replicate 15 .un) with
  | .nx e => e.drop 2
  | _ => []
def at_ (i : Nat) : D := match tl[i]? with
  | some (.fz d) => d
  | some (.ow _ d) => d
  | _ => .non
def e9 (a : D) (s : D) (b w : D) (g : Sl) : En := [.fz a, .ow false s, .fz (at_ 0), .fz (at_ 1), .fz (at_ 2), .fz (at_ 3), .fz (at_ 4), .fz (at_ 5), .ow false (at_ 6), .fz b, .fz w, g, .un, .un, .un]
def bads : List D := match at_ 6 with
  | .lst l => l
  | _ => []
def badA (i : Nat) : D := bads.getD i .non
def good : D := .tup [at_ 2, at_ 3, at_ 2, at_ 3, at_ 2, at_ 2]

theorem path_bad (a s w : D) (i : Nat) (hi : i < 10) : dTB (dBin isNotO (dCall F_is_path [.v] (dCons (dName 9) dNil)) (dC (.bl false))) (e9 a s (badA i) w (.fz good)) = .ok false (e9 a s (badA i) w (.fz good)) := by
  match i, hi with
  | 0, _ => kernel_rfl
  | 1, _ => kernel_rfl
  | 2, _ => kernel_rfl
  | 3, _ => kernel_rfl
  | 4, _ => kernel_rfl
  | 5, _ => kernel_rfl
  | 6, _ => kernel_rfl
  | 7, _ => kernel_rfl
  | 8, _ => kernel_rfl
  | 9, _ => kernel_rfl
theorem path_good (a s b w : D) : dTB (dBin isNotO (dCall F_is_path [.v] (dCons (dName 11) dNil)) (dC (.bl true))) (e9 a s b w (.fz good)) = .ok false (e9 a s b w (.fz good)) := by
  kernel_rfl
theorem told_good (a s b : D) (i : Nat) (hi : i < 6) : dTB (dBin neD (dCall F__law_path_told [.v,.v] (dCons (dName 10) (dCons (dName 11) dNil))) (dC (.str ""))) (e9 a s b (.int (i : Nat)) (.fz good)) = .ok false (e9 a s b (.int (i : Nat)) (.fz good)) := by
  match i, hi with
  | 0, _ => kernel_rfl
  | 1, _ => kernel_rfl
  | 2, _ => kernel_rfl
  | 3, _ => kernel_rfl
  | 4, _ => kernel_rfl
  | 5, _ => kernel_rfl
theorem told_bad0 (a s : D) (j : Nat) (hj : j < 10) : dTB (dBin neD (dCall F__law_path_told [.v,.v] (dCons (dName 10) (dCons (dName 9) dNil))) (dC (.str "orders"))) (e9 a s (badA j) (.int 0) (.fz good)) = .ok false (e9 a s (badA j) (.int 0) (.fz good)) := by
  match j, hj with
  | 0, _ => kernel_rfl
  | 1, _ => kernel_rfl
  | 2, _ => kernel_rfl
  | 3, _ => kernel_rfl
  | 4, _ => kernel_rfl
  | 5, _ => kernel_rfl
  | 6, _ => kernel_rfl
  | 7, _ => kernel_rfl
  | 8, _ => kernel_rfl
  | 9, _ => kernel_rfl
theorem told_bad1 (a s : D) (j : Nat) (hj : j < 10) : dTB (dBin neD (dCall F__law_path_told [.v,.v] (dCons (dName 10) (dCons (dName 9) dNil))) (dC (.str "orders"))) (e9 a s (badA j) (.int 1) (.fz good)) = .ok false (e9 a s (badA j) (.int 1) (.fz good)) := by
  match j, hj with
  | 0, _ => kernel_rfl
  | 1, _ => kernel_rfl
  | 2, _ => kernel_rfl
  | 3, _ => kernel_rfl
  | 4, _ => kernel_rfl
  | 5, _ => kernel_rfl
  | 6, _ => kernel_rfl
  | 7, _ => kernel_rfl
  | 8, _ => kernel_rfl
  | 9, _ => kernel_rfl
theorem told_bad2 (a s : D) (j : Nat) (hj : j < 10) : dTB (dBin neD (dCall F__law_path_told [.v,.v] (dCons (dName 10) (dCons (dName 9) dNil))) (dC (.str "orders"))) (e9 a s (badA j) (.int 2) (.fz good)) = .ok false (e9 a s (badA j) (.int 2) (.fz good)) := by
  match j, hj with
  | 0, _ => kernel_rfl
  | 1, _ => kernel_rfl
  | 2, _ => kernel_rfl
  | 3, _ => kernel_rfl
  | 4, _ => kernel_rfl
  | 5, _ => kernel_rfl
  | 6, _ => kernel_rfl
  | 7, _ => kernel_rfl
  | 8, _ => kernel_rfl
  | 9, _ => kernel_rfl
theorem told_bad3 (a s : D) (j : Nat) (hj : j < 10) : dTB (dBin neD (dCall F__law_path_told [.v,.v] (dCons (dName 10) (dCons (dName 9) dNil))) (dC (.str "orders"))) (e9 a s (badA j) (.int 3) (.fz good)) = .ok false (e9 a s (badA j) (.int 3) (.fz good)) := by
  match j, hj with
  | 0, _ => kernel_rfl
  | 1, _ => kernel_rfl
  | 2, _ => kernel_rfl
  | 3, _ => kernel_rfl
  | 4, _ => kernel_rfl
  | 5, _ => kernel_rfl
  | 6, _ => kernel_rfl
  | 7, _ => kernel_rfl
  | 8, _ => kernel_rfl
  | 9, _ => kernel_rfl
theorem told_bad4 (a s : D) (j : Nat) (hj : j < 10) : dTB (dBin neD (dCall F__law_path_told [.v,.v] (dCons (dName 10) (dCons (dName 9) dNil))) (dC (.str "orders"))) (e9 a s (badA j) (.int 4) (.fz good)) = .ok false (e9 a s (badA j) (.int 4) (.fz good)) := by
  match j, hj with
  | 0, _ => kernel_rfl
  | 1, _ => kernel_rfl
  | 2, _ => kernel_rfl
  | 3, _ => kernel_rfl
  | 4, _ => kernel_rfl
  | 5, _ => kernel_rfl
  | 6, _ => kernel_rfl
  | 7, _ => kernel_rfl
  | 8, _ => kernel_rfl
  | 9, _ => kernel_rfl
theorem told_bad5 (a s : D) (j : Nat) (hj : j < 10) : dTB (dBin neD (dCall F__law_path_told [.v,.v] (dCons (dName 10) (dCons (dName 9) dNil))) (dC (.str "orders"))) (e9 a s (badA j) (.int 5) (.fz good)) = .ok false (e9 a s (badA j) (.int 5) (.fz good)) := by
  match j, hj with
  | 0, _ => kernel_rfl
  | 1, _ => kernel_rfl
  | 2, _ => kernel_rfl
  | 3, _ => kernel_rfl
  | 4, _ => kernel_rfl
  | 5, _ => kernel_rfl
  | 6, _ => kernel_rfl
  | 7, _ => kernel_rfl
  | 8, _ => kernel_rfl
  | 9, _ => kernel_rfl
theorem told_bad (a s : D) (i j : Nat) (hi : i < 6) (hj : j < 10) : dTB (dBin neD (dCall F__law_path_told [.v,.v] (dCons (dName 10) (dCons (dName 9) dNil))) (dC (.str "orders"))) (e9 a s (badA j) (.int (i : Nat)) (.fz good)) = .ok false (e9 a s (badA j) (.int (i : Nat)) (.fz good)) := by
  match i, hi with
  | 0, _ => exact told_bad0 a s j hj
  | 1, _ => exact told_bad1 a s j hj
  | 2, _ => exact told_bad2 a s j hj
  | 3, _ => exact told_bad3 a s j hj
  | 4, _ => exact told_bad4 a s j hj
  | 5, _ => exact told_bad5 a s j hj
end Lw

namespace Lw
open PySem PySem.Spec L2 VL
def r20 : Fs := law_20
def r19 : Fs := sSeq law_19 r20
def r18 : Fs := sSeq law_18 r19
def r17 : Fs := sSeq law_17 r18
def r16 : Fs := sSeq law_16 r17
def r15 : Fs := sSeq law_15 r16
def r14 : Fs := sSeq law_14 r15
def r13 : Fs := sSeq law_13 r14
def r12 : Fs := sSeq law_12 r13
def r11 : Fs := sSeq law_11 r12
def r10 : Fs := sSeq law_10 r11
def r9 : Fs := sSeq law_9 r10
def r8 : Fs := sSeq law_8 r9
def r7 : Fs := sSeq law_7 r8
def r6 : Fs := sSeq law_6 r7
def r5 : Fs := sSeq law_5 r6
def r4 : Fs := sSeq law_4 r5
def r3 : Fs := sSeq law_3 r4
def r2 : Fs := sSeq law_2 r3
def r1 : Fs := sSeq law_1 r2
def noneL : List D := match (dLst (vCons (dTup (vCons (dTup vNil) (vCons (dTup vNil) vNil))) (vCons (dC .non) (vCons (dTup (vCons (dName 2) (vCons (dTup (vCons (dC (.int 1)) vNil)) vNil))) (vCons (dTup (vCons (dTup (vCons (dC (.str "a")) (vCons (dC (.str "b")) (vCons (dC (.str "b")) vNil)))) (vCons (dTup (vCons (dC (.int 1)) (vCons (dC (.int 1)) vNil))) vNil))) (vCons (dLst (vCons (dTup (vCons (dC (.str "a")) vNil)) (vCons (dTup vNil) vNil))) (vCons (dTup (vCons (dTup (vCons (dC (.str "a")) (vCons (dC (.str "b")) vNil))) (vCons (dTup (vCons (dC (.int 4)) vNil)) vNil))) vNil))))))) [.un, .un, .fz (at_ 0), .fz (at_ 1), .fz (at_ 2), .fz (at_ 3), .fz (at_ 4), .fz (at_ 5)] with
  | .ok (.nw (.lst l)) _ => l
  | _ => []
def noneA (i : Nat) : D := noneL.getD i .non
def unA (n : D) (j : Nat) : D := [at_ 4, at_ 5, n].getD j .non
def namesA (k : Nat) : D := .lst (if k = 0 then [.str "middle", .str "first", .str "second"] else [.str "first", .str "second"])
def e14 (a s b n u : D) (w : D) (m : D) : En := [.fz a, .ow false s, .fz (at_ 0), .fz (at_ 1), .fz (at_ 2), .fz (at_ 3), .fz (at_ 4), .fz (at_ 5), .ow false (at_ 6), .fz b, .fz w, .fz good, .fz n, .fz u, .fz m]
def e12 (a s b w : D) (x y : Sl) : En := [.fz a, .ow false s, .fz (at_ 0), .fz (at_ 1), .fz (at_ 2), .fz (at_ 3), .fz (at_ 4), .fz (at_ 5), .ow false (at_ 6), .fz b, .fz w, .fz good, x, y, .un]
theorem t18A0 (a s b : D) (i j : Nat) (hi : i < 6) (hj : j < 3) (h : i ≠ 0) : (dTB (dBin neD (dCall F__law_told [.v,.v,.v,.v] (dCons (dName 10) (dCons (dName 12) (dCons (dName 13) (dCons (dName 13) dNil))))) (dBin ixD (dName 14) (dC (.int 0))))) (e14 a s b (noneA i) (unA (noneA i) j) (.int 0) (namesA 0)) = .ok false (e14 a s b (noneA i) (unA (noneA i) j) (.int 0) (namesA 0)) := by
  match i, j, hi, hj, h with
  | 1, 0, _, _, _ => kernel_rfl
  | 1, 1, _, _, _ => kernel_rfl
  | 1, 2, _, _, _ => kernel_rfl
  | 2, 0, _, _, _ => kernel_rfl
  | 2, 1, _, _, _ => kernel_rfl
  | 2, 2, _, _, _ => kernel_rfl
  | 3, 0, _, _, _ => kernel_rfl
  | 3, 1, _, _, _ => kernel_rfl
  | 3, 2, _, _, _ => kernel_rfl
  | 4, 0, _, _, _ => kernel_rfl
  | 4, 1, _, _, _ => kernel_rfl
  | 4, 2, _, _, _ => kernel_rfl
  | 5, 0, _, _, _ => kernel_rfl
  | 5, 1, _, _, _ => kernel_rfl
  | 5, 2, _, _, _ => kernel_rfl
  | 0, _, _, _, h => exact absurd rfl h
theorem t18A1 (a s b : D) (i j : Nat) (hi : i < 6) (hj : j < 3) : (dTB (dBin neD (dCall F__law_told [.v,.v,.v,.v] (dCons (dName 10) (dCons (dName 12) (dCons (dName 13) (dCons (dName 13) dNil))))) (dBin ixD (dName 14) (dC (.int 0))))) (e14 a s b (noneA i) (unA (noneA i) j) (.int 1) (namesA 1)) = .ok false (e14 a s b (noneA i) (unA (noneA i) j) (.int 1) (namesA 1)) := by
  match i, j, hi, hj with
  | 0, 0, _, _ => kernel_rfl
  | 0, 1, _, _ => kernel_rfl
  | 0, 2, _, _ => kernel_rfl
  | 1, 0, _, _ => kernel_rfl
  | 1, 1, _, _ => kernel_rfl
  | 1, 2, _, _ => kernel_rfl
  | 2, 0, _, _ => kernel_rfl
  | 2, 1, _, _ => kernel_rfl
  | 2, 2, _, _ => kernel_rfl
  | 3, 0, _, _ => kernel_rfl
  | 3, 1, _, _ => kernel_rfl
  | 3, 2, _, _ => kernel_rfl
  | 4, 0, _, _ => kernel_rfl
  | 4, 1, _, _ => kernel_rfl
  | 4, 2, _, _ => kernel_rfl
  | 5, 0, _, _ => kernel_rfl
  | 5, 1, _, _ => kernel_rfl
  | 5, 2, _, _ => kernel_rfl
theorem t18A2 (a s b : D) (i j : Nat) (hi : i < 6) (hj : j < 3) : (dTB (dBin neD (dCall F__law_told [.v,.v,.v,.v] (dCons (dName 10) (dCons (dName 12) (dCons (dName 13) (dCons (dName 13) dNil))))) (dBin ixD (dName 14) (dC (.int 0))))) (e14 a s b (noneA i) (unA (noneA i) j) (.int 2) (namesA 2)) = .ok false (e14 a s b (noneA i) (unA (noneA i) j) (.int 2) (namesA 2)) := by
  match i, j, hi, hj with
  | 0, 0, _, _ => kernel_rfl
  | 0, 1, _, _ => kernel_rfl
  | 0, 2, _, _ => kernel_rfl
  | 1, 0, _, _ => kernel_rfl
  | 1, 1, _, _ => kernel_rfl
  | 1, 2, _, _ => kernel_rfl
  | 2, 0, _, _ => kernel_rfl
  | 2, 1, _, _ => kernel_rfl
  | 2, 2, _, _ => kernel_rfl
  | 3, 0, _, _ => kernel_rfl
  | 3, 1, _, _ => kernel_rfl
  | 3, 2, _, _ => kernel_rfl
  | 4, 0, _, _ => kernel_rfl
  | 4, 1, _, _ => kernel_rfl
  | 4, 2, _, _ => kernel_rfl
  | 5, 0, _, _ => kernel_rfl
  | 5, 1, _, _ => kernel_rfl
  | 5, 2, _, _ => kernel_rfl
theorem t18A3 (a s b : D) (i j : Nat) (hi : i < 6) (hj : j < 3) : (dTB (dBin neD (dCall F__law_told [.v,.v,.v,.v] (dCons (dName 10) (dCons (dName 12) (dCons (dName 13) (dCons (dName 13) dNil))))) (dBin ixD (dName 14) (dC (.int 0))))) (e14 a s b (noneA i) (unA (noneA i) j) (.int 3) (namesA 3)) = .ok false (e14 a s b (noneA i) (unA (noneA i) j) (.int 3) (namesA 3)) := by
  match i, j, hi, hj with
  | 0, 0, _, _ => kernel_rfl
  | 0, 1, _, _ => kernel_rfl
  | 0, 2, _, _ => kernel_rfl
  | 1, 0, _, _ => kernel_rfl
  | 1, 1, _, _ => kernel_rfl
  | 1, 2, _, _ => kernel_rfl
  | 2, 0, _, _ => kernel_rfl
  | 2, 1, _, _ => kernel_rfl
  | 2, 2, _, _ => kernel_rfl
  | 3, 0, _, _ => kernel_rfl
  | 3, 1, _, _ => kernel_rfl
  | 3, 2, _, _ => kernel_rfl
  | 4, 0, _, _ => kernel_rfl
  | 4, 1, _, _ => kernel_rfl
  | 4, 2, _, _ => kernel_rfl
  | 5, 0, _, _ => kernel_rfl
  | 5, 1, _, _ => kernel_rfl
  | 5, 2, _, _ => kernel_rfl
theorem t18B0 (a s b : D) (i j : Nat) (hi : i < 6) (hj : j < 3) (h : i ≠ 0) : (dTB (dBin neD (dCall F__law_told [.v,.v,.v,.v] (dCons (dName 10) (dCons (dName 4) (dCons (dName 13) (dCons (dName 13) dNil))))) (dBin ixD (dName 14) (dC (.int 1))))) (e14 a s b (noneA i) (unA (noneA i) j) (.int 0) (namesA 0)) = .ok false (e14 a s b (noneA i) (unA (noneA i) j) (.int 0) (namesA 0)) := by
  match i, j, hi, hj, h with
  | 1, 0, _, _, _ => kernel_rfl
  | 1, 1, _, _, _ => kernel_rfl
  | 1, 2, _, _, _ => kernel_rfl
  | 2, 0, _, _, _ => kernel_rfl
  | 2, 1, _, _, _ => kernel_rfl
  | 2, 2, _, _, _ => kernel_rfl
  | 3, 0, _, _, _ => kernel_rfl
  | 3, 1, _, _, _ => kernel_rfl
  | 3, 2, _, _, _ => kernel_rfl
  | 4, 0, _, _, _ => kernel_rfl
  | 4, 1, _, _, _ => kernel_rfl
  | 4, 2, _, _, _ => kernel_rfl
  | 5, 0, _, _, _ => kernel_rfl
  | 5, 1, _, _, _ => kernel_rfl
  | 5, 2, _, _, _ => kernel_rfl
  | 0, _, _, _, h => exact absurd rfl h
theorem t18B1 (a s b : D) (i j : Nat) (hi : i < 6) (hj : j < 3) : (dTB (dBin neD (dCall F__law_told [.v,.v,.v,.v] (dCons (dName 10) (dCons (dName 4) (dCons (dName 13) (dCons (dName 13) dNil))))) (dBin ixD (dName 14) (dC (.int 1))))) (e14 a s b (noneA i) (unA (noneA i) j) (.int 1) (namesA 1)) = .ok false (e14 a s b (noneA i) (unA (noneA i) j) (.int 1) (namesA 1)) := by
  match i, j, hi, hj with
  | 0, 0, _, _ => kernel_rfl
  | 0, 1, _, _ => kernel_rfl
  | 0, 2, _, _ => kernel_rfl
  | 1, 0, _, _ => kernel_rfl
  | 1, 1, _, _ => kernel_rfl
  | 1, 2, _, _ => kernel_rfl
  | 2, 0, _, _ => kernel_rfl
  | 2, 1, _, _ => kernel_rfl
  | 2, 2, _, _ => kernel_rfl
  | 3, 0, _, _ => kernel_rfl
  | 3, 1, _, _ => kernel_rfl
  | 3, 2, _, _ => kernel_rfl
  | 4, 0, _, _ => kernel_rfl
  | 4, 1, _, _ => kernel_rfl
  | 4, 2, _, _ => kernel_rfl
  | 5, 0, _, _ => kernel_rfl
  | 5, 1, _, _ => kernel_rfl
  | 5, 2, _, _ => kernel_rfl
theorem t18B2 (a s b : D) (i j : Nat) (hi : i < 6) (hj : j < 3) : (dTB (dBin neD (dCall F__law_told [.v,.v,.v,.v] (dCons (dName 10) (dCons (dName 4) (dCons (dName 13) (dCons (dName 13) dNil))))) (dBin ixD (dName 14) (dC (.int 1))))) (e14 a s b (noneA i) (unA (noneA i) j) (.int 2) (namesA 2)) = .ok false (e14 a s b (noneA i) (unA (noneA i) j) (.int 2) (namesA 2)) := by
  match i, j, hi, hj with
  | 0, 0, _, _ => kernel_rfl
  | 0, 1, _, _ => kernel_rfl
  | 0, 2, _, _ => kernel_rfl
  | 1, 0, _, _ => kernel_rfl
  | 1, 1, _, _ => kernel_rfl
  | 1, 2, _, _ => kernel_rfl
  | 2, 0, _, _ => kernel_rfl
  | 2, 1, _, _ => kernel_rfl
  | 2, 2, _, _ => kernel_rfl
  | 3, 0, _, _ => kernel_rfl
  | 3, 1, _, _ => kernel_rfl
  | 3, 2, _, _ => kernel_rfl
  | 4, 0, _, _ => kernel_rfl
  | 4, 1, _, _ => kernel_rfl
  | 4, 2, _, _ => kernel_rfl
  | 5, 0, _, _ => kernel_rfl
  | 5, 1, _, _ => kernel_rfl
  | 5, 2, _, _ => kernel_rfl
theorem t18B3 (a s b : D) (i j : Nat) (hi : i < 6) (hj : j < 3) : (dTB (dBin neD (dCall F__law_told [.v,.v,.v,.v] (dCons (dName 10) (dCons (dName 4) (dCons (dName 13) (dCons (dName 13) dNil))))) (dBin ixD (dName 14) (dC (.int 1))))) (e14 a s b (noneA i) (unA (noneA i) j) (.int 3) (namesA 3)) = .ok false (e14 a s b (noneA i) (unA (noneA i) j) (.int 3) (namesA 3)) := by
  match i, j, hi, hj with
  | 0, 0, _, _ => kernel_rfl
  | 0, 1, _, _ => kernel_rfl
  | 0, 2, _, _ => kernel_rfl
  | 1, 0, _, _ => kernel_rfl
  | 1, 1, _, _ => kernel_rfl
  | 1, 2, _, _ => kernel_rfl
  | 2, 0, _, _ => kernel_rfl
  | 2, 1, _, _ => kernel_rfl
  | 2, 2, _, _ => kernel_rfl
  | 3, 0, _, _ => kernel_rfl
  | 3, 1, _, _ => kernel_rfl
  | 3, 2, _, _ => kernel_rfl
  | 4, 0, _, _ => kernel_rfl
  | 4, 1, _, _ => kernel_rfl
  | 4, 2, _, _ => kernel_rfl
  | 5, 0, _, _ => kernel_rfl
  | 5, 1, _, _ => kernel_rfl
  | 5, 2, _, _ => kernel_rfl
theorem t19 (a s b : D) (i j : Nat) (hi : i < 6) (hj : j < 3) (h : i ≠ 0) : (dTB (dBin neD (dCall F__law_told [.v,.v,.v,.v] (dCons (dC (.int 0)) (dCons (dName 4) (dCons (dName 5) (dCons (dName 13) dNil))))) (dC (.str "second")))) (e14 a s b (noneA i) (unA (noneA i) j) (.int 0) (namesA 0)) = .ok false (e14 a s b (noneA i) (unA (noneA i) j) (.int 0) (namesA 0)) := by
  match i, j, hi, hj, h with
  | 1, 0, _, _, _ => kernel_rfl
  | 1, 1, _, _, _ => kernel_rfl
  | 1, 2, _, _, _ => kernel_rfl
  | 2, 0, _, _, _ => kernel_rfl
  | 2, 1, _, _, _ => kernel_rfl
  | 2, 2, _, _, _ => kernel_rfl
  | 3, 0, _, _, _ => kernel_rfl
  | 3, 1, _, _, _ => kernel_rfl
  | 3, 2, _, _, _ => kernel_rfl
  | 4, 0, _, _, _ => kernel_rfl
  | 4, 1, _, _, _ => kernel_rfl
  | 4, 2, _, _, _ => kernel_rfl
  | 5, 0, _, _, _ => kernel_rfl
  | 5, 1, _, _, _ => kernel_rfl
  | 5, 2, _, _, _ => kernel_rfl
  | 0, _, _, _, h => exact absurd rfl h
theorem t20 (a s b n u m : D) (k : Nat) (hk : k < 4) : (dBin eqD (dCall F__law_told [.v,.v,.v,.v] (dCons (dName 10) (dCons (dName 4) (dCons (dName 5) (dCons (dName 4) dNil))))) (dC (.str ""))) (e14 a s b n u (.int (k : Nat)) m) = .ok (.fz (.bl true)) (e14 a s b n u (.int (k : Nat)) m) := by
  match k, hk with
  | 0, _ => kernel_rfl
  | 1, _ => kernel_rfl
  | 2, _ => kernel_rfl
  | 3, _ => kernel_rfl
theorem y18 (a s b : D) (i j k : Nat) (hi : i < 6) (hj : j < 3) (hk : k < 4) (h : k = 0 → i ≠ 0) : Y (r18 (e14 a s b (noneA i) (unA (noneA i) j) (.int (k : Nat)) (namesA k))) := by
  refine y_seq (e1 := e14 a s b (noneA i) (unA (noneA i) j) (.int (k : Nat)) (namesA k)) (ifn_of (or_of ?_ ?_)) (y_seq (e1 := e14 a s b (noneA i) (unA (noneA i) j) (.int (k : Nat)) (namesA k)) (ifn_of ?_) (y_ret (t20 a s b _ _ _ k hk)))
  · match k, hk, h with
    | 0, _, h => exact t18A0 a s b i j hi hj (h rfl)
    | 1, _, _ => exact t18A1 a s b i j hi hj
    | 2, _, _ => exact t18A2 a s b i j hi hj
    | 3, _, _ => exact t18A3 a s b i j hi hj
  · match k, hk, h with
    | 0, _, h => exact t18B0 a s b i j hi hj (h rfl)
    | 1, _, _ => exact t18B1 a s b i j hi hj
    | 2, _, _ => exact t18B2 a s b i j hi hj
    | 3, _, _ => exact t18B3 a s b i j hi hj
  · match k, hk, h with
    | 0, _, h => exact and2_of (by kernel_rfl) (t19 a s b i j hi hj (h rfl))
    | 1, _, _ => exact and1_of (by kernel_rfl)
    | 2, _, _ => exact and1_of (by kernel_rfl)
    | 3, _, _ => exact and1_of (by kernel_rfl)
theorem y17 (a s b : D) (i j k : Nat) (hs : Str0 s) (hi : i < 6) (hj : j < 3) (hk : k < 4) : Y (r17 (e14 a s b (noneA i) (unA (noneA i) j) (.int (k : Nat)) (namesA k))) := by
  by_cases h : k = 0 ∧ i = 0
  · obtain ⟨rfl, rfl⟩ := h
    have q : (dAnd (dTB (dBin eqD (dName 10) (dC (.int 0)))) (dTB (dBin eqD (dName 12) (dTup (vCons (dTup vNil) (vCons (dTup vNil) vNil)))))) (e14 a s b (noneA 0) (unA (noneA 0) j) (.int (0 : Nat)) (namesA 0)) = .ok true (e14 a s b (noneA 0) (unA (noneA 0) j) (.int (0 : Nat)) (namesA 0)) := by
      kernel_rfl
    obtain ⟨r, s', a1, a2, a3, q2⟩ := draw_of nx_eq (i := 1) (m := 3) (s := s) (e := e14 a s b (noneA 2) (unA (noneA 0) j) (.int (0 : Nat)) (namesA 0)) rfl hs (by decide) (by decide)
    obtain ⟨n, rfl⟩ := Int.eq_ofNat_of_zero_le a1
    have hn : n < 3 := by omega
    refine y_seq (e1 := e14 a s' b (noneA 2) (unA (noneA 2) n) (.int (0 : Nat)) (namesA 0)) ?_ (y18 a s' b 2 n 0 (by decide) hn (by decide) (by decide))
    unfold law_17
    refine Eq.trans (if_of q) ?_
    rw [if_pos rfl]
    refine Eq.trans (seq_of (e1 := e14 a s b (noneA 2) (unA (noneA 0) j) (.int (0 : Nat)) (namesA 0)) (by kernel_rfl)) ?_
    unfold sSet dBin
    have q3 : (dLst (vCons (dName 6) (vCons (dName 7) (vCons (dName 12) vNil)))) (e14 a s b (noneA 2) (unA (noneA 0) j) (.int (0 : Nat)) (namesA 0)) = .ok (.nw (.lst [at_ 4, at_ 5, noneA 2])) (e14 a s b (noneA 2) (unA (noneA 0) j) (.int (0 : Nat)) (namesA 0)) := by
      kernel_rfl
    rw [q3, Rz.bind_ok, q2, Rz.bind_ok]
    match n, hn with
    | 0, _ => kernel_rfl
    | 1, _ => kernel_rfl
    | 2, _ => kernel_rfl
  · refine y_seq (e1 := e14 a s b (noneA i) (unA (noneA i) j) (.int (k : Nat)) (namesA k)) (ifn_of ?_) (y18 a s b i j k hi hj hk fun z y => h ⟨z, y⟩)
    match k, hk, h with
    | 0, _, h =>
      refine and2_of (by kernel_rfl) ?_
      match i, hi, h with
      | 0, _, h => exact absurd ⟨rfl, rfl⟩ h
      | 1, _, _ => kernel_rfl
      | 2, _, _ => kernel_rfl
      | 3, _, _ => kernel_rfl
      | 4, _, _ => kernel_rfl
      | 5, _, _ => kernel_rfl
    | 1, _, _ => exact and1_of (by kernel_rfl)
    | 2, _, _ => exact and1_of (by kernel_rfl)
    | 3, _, _ => exact and1_of (by kernel_rfl)
theorem y13 (a s b w : D) (hs : Str0 s) : Y (r13 (e12 a s b w .un .un)) := by
  refine y_drawIx nx_eq (t := .nw (.lst noneL)) (s := s) (m := 6) (by kernel_rfl) rfl hs (by decide) (by decide) fun r s1 h0 h1 hs => ?_
  obtain ⟨i, rfl⟩ := Int.eq_ofNat_of_zero_le h0
  have hi : i < 6 := by omega
  refine ⟨noneA i, by match i, hi with
    | 0, _ => kernel_rfl
    | 1, _ => kernel_rfl
    | 2, _ => kernel_rfl
    | 3, _ => kernel_rfl
    | 4, _ => kernel_rfl
    | 5, _ => kernel_rfl, by kernel_rfl, ?_⟩
  show Y (r14 (e12 a s1 b w (.fz (noneA i)) .un))
  clear h1
  refine y_drawIx nx_eq (t := .nw (.lst [at_ 4, at_ 5, noneA i])) (s := s1) (m := 3) (by kernel_rfl) rfl hs (by decide) (by decide) fun r s2 h0 h1 hs => ?_
  obtain ⟨j, rfl⟩ := Int.eq_ofNat_of_zero_le h0
  have hj : j < 3 := by omega
  refine ⟨unA (noneA i) j, by
    match i, hi, j, hj with
    | 0, _, 0, _ => kernel_rfl
    | 0, _, 1, _ => kernel_rfl
    | 0, _, 2, _ => kernel_rfl
    | 1, _, 0, _ => kernel_rfl
    | 1, _, 1, _ => kernel_rfl
    | 1, _, 2, _ => kernel_rfl
    | 2, _, 0, _ => kernel_rfl
    | 2, _, 1, _ => kernel_rfl
    | 2, _, 2, _ => kernel_rfl
    | 3, _, 0, _ => kernel_rfl
    | 3, _, 1, _ => kernel_rfl
    | 3, _, 2, _ => kernel_rfl
    | 4, _, 0, _ => kernel_rfl
    | 4, _, 1, _ => kernel_rfl
    | 4, _, 2, _ => kernel_rfl
    | 5, _, 0, _ => kernel_rfl
    | 5, _, 1, _ => kernel_rfl
    | 5, _, 2, _ => kernel_rfl, by kernel_rfl, ?_⟩
  show Y (r15 (e12 a s2 b w (.fz (noneA i)) (.fz (unA (noneA i) j))))
  refine y_draw nx_eq (i := 10) (j := 1) (s := s2) (m := 4) rfl hs (by decide) (by decide) (fun _ => by kernel_rfl) fun r s3 h0 h1 hs => ?_
  obtain ⟨k, rfl⟩ := Int.eq_ofNat_of_zero_le h0
  have hk : k < 4 := by omega
  refine y_seq (e1 := e14 a s3 b (noneA i) (unA (noneA i) j) (.int (k : Nat)) (namesA k)) ?_ (y17 a s3 b i j k hs hi hj hk)
  match k, hk with
  | 0, _ => kernel_rfl
  | 1, _ => kernel_rfl
  | 2, _ => kernel_rfl
  | 3, _ => kernel_rfl
def e8 (a s : D) (x y : Sl) : En := [.fz a, .ow false s, .fz (at_ 0), .fz (at_ 1), .fz (at_ 2), .fz (at_ 3), .fz (at_ 4), .fz (at_ 5), .ow false (at_ 6), x, y, .un, .un, .un, .un]
theorem y_pre (a s : D) (f : Fs) : sSeq law_1 (sSeq law_2 (sSeq law_3 (sSeq law_4 (sSeq law_5 (sSeq law_6 (sSeq law_7 f)))))) (.fz a :: .ow false s :: List.replicate 13 .un) = f (e8 a s .un .un) := by
  kernel_rfl
theorem law_yes (ns : List Int) : yes1 (F_law [.fz (.scr ns)]) := by
  refine yes_of (n := 14) ?_
  show Y (sSeq law_0 r1 _)
  refine y_seq (e1 := .fz (.scr ns) :: .ow false (St ns 0 0) :: List.replicate 13 .un) (by kernel_rfl) ?_
  show Y (sSeq law_1 (sSeq law_2 (sSeq law_3 (sSeq law_4 (sSeq law_5 (sSeq law_6 (sSeq law_7 r8)))))) _)
  rw [y_pre]
  have hs : Str0 (St ns 0 0) := ⟨ns, 0, 0, rfl, by decide, by decide⟩
  generalize D.scr ns = a at *
  generalize St ns 0 0 = s at *
  refine y_drawIx nx_eq (t := .sl 8) (s := s) (m := 10) (by kernel_rfl) rfl hs (by decide) (by decide) fun r s1 h0 h1 hs => ?_
  obtain ⟨i, rfl⟩ := Int.eq_ofNat_of_zero_le h0
  have hi : i < 10 := by omega
  refine ⟨badA i, by
    match i, hi with
    | 0, _ => kernel_rfl
    | 1, _ => kernel_rfl
    | 2, _ => kernel_rfl
    | 3, _ => kernel_rfl
    | 4, _ => kernel_rfl
    | 5, _ => kernel_rfl
    | 6, _ => kernel_rfl
    | 7, _ => kernel_rfl
    | 8, _ => kernel_rfl
    | 9, _ => kernel_rfl, by kernel_rfl, ?_⟩
  show Y (r9 (e8 a s1 (.fz (badA i)) .un))
  refine y_draw nx_eq (i := 10) (j := 1) (s := s1) (m := 6) rfl hs (by decide) (by decide) (fun _ => by kernel_rfl) fun r s2 h0 h1 hs => ?_
  obtain ⟨k, rfl⟩ := Int.eq_ofNat_of_zero_le h0
  have hk : k < 6 := by omega
  refine y_seq (e1 := e9 a s2 (badA i) (.int (k : Nat)) (.fz good)) (by kernel_rfl) ?_
  refine y_seq (e1 := e9 a s2 (badA i) (.int (k : Nat)) (.fz good)) (ifn_of (or_of (path_good _ _ _ _) (path_bad _ _ _ i hi))) ?_
  refine y_seq (e1 := e9 a s2 (badA i) (.int (k : Nat)) (.fz good)) (ifn_of (or_of (told_bad _ _ k i hk hi) (told_good _ _ _ k hk))) ?_
  exact y13 a s2 (badA i) (.int (k : Nat)) hs
end Lw

namespace Lw
open PySem PySem.Spec L2 VL
theorem hlaw {w : World} {K : PySem.W.Frag} {h : Heap} {mg : Str → Option Value} (X : K.In h) (G : h.Ns mainGlobals mg) (c : He.SaysX hfa hfn [] [] hex w h K) : CA (PySem.Challenge.rw_fewestrules_k84_refusals_of_paths).prog w K mg 10 "law" ["_law_script"] F_law := ok_law h fun _ => hfx X G c
end Lw
open PySem PySem.W PySem.Calls PyProof.Rows
theorem PySem.Challenge.cw_fewestrules_k84_refusals_of_paths_holds : PySem.Challenge.rw_fewestrules_k84_refusals_of_paths.Holds := by
  w_on; o_law
  refine HandSHeadRun.head_any (r := OpenLaw.row PySem.Challenge.rw_fewestrules_k84_refusals_of_paths) (q := view (OpenLaw.row PySem.Challenge.rw_fewestrules_k84_refusals_of_paths).prog [60]) (H := Lw.hk) (ob := Lw.hob) (M := 6000) (loose := Lw.loose) (d := HandSHeadRun.topDef (OpenLaw.row PySem.Challenge.rw_fewestrules_k84_refusals_of_paths).prog 60) (kwd := []) Lw.hob_eq
    (by kernel_rfl) (fun s => by kernel_rfl) Lw.hrun (by kernel_rfl) (by kernel_rfl) (by kernel_rfl) (by rfl) (by first | assumption | decide +kernel) (by decide +kernel) ⟨rfl, rfl, rfl, rfl, rfl, by decide +kernel⟩ ?hw ?hc
  case hw => w_witness2
  case hc =>
    exact VL.walk_ofV (l := PySem.Challenge.rw_fewestrules_k84_refusals_of_paths) (n := 63) (k := 10) (x := "_law_script") (y := "law") (F := Lw.F_law) rfl (by decide) (by kernel_rfl) ⟨rfl, by decide, by decide⟩ (by kernel_rfl) (fun w mg h ⟨K, KX, c⟩ G => ⟨K, KX, Lw.hlaw KX G c⟩) (fun ns hl => Lw.law_yes ns)

