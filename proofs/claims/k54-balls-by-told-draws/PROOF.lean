import PyProof.Rows.All
import Wide.All
import OpenK.AllK
import Wide.FinOn
import HandS.ForMost
import HandS.ForExc
import HandS.TupAny
import HandS.TupMul
import HandS.Zip
import HandS.Wide
import HandS.IsInst
import HandS.Deep
import HandS.Conv
import KE.KIndexOf
import PyProof.StrHeap
import PyProof.ReprReads
import PyProof.P3Eq
import PySem.Challenge.RW_emptierbox_k54_balls_by_told_draws
set_option Elab.async false
set_option linter.all false
set_option maxRecDepth 100000
section
/-! PCore: the pure layer over the hand layer: values PV without a heap, a store G of owned objects, readings over both. -/
namespace PL
open PySem PySem.Spec PyProof.Rows L2

/-- a value as pure data; ref: an owned object, a def, a class -/
inductive PV where
  | non | bl (b : Bool) | int (i : Int) | str (x : Str) | ref (a : Addr) | ty (n : String) | tup (xs : List PV) | lst (xs : List PV) | scr (ns : List Int)
/-- an owned object -/
inductive GO where
  | lst (xs : List PV)
  | dk (kvs : List (Key × PV))
  | ins (C : Addr) (fs : List (Str × PV))
abbrev GH := Addr → Option GO
def gset (G : GH) (a : Addr) (o : GO) : GH := fun b => if b = a then some o else G b
def gdel (G : GH) (a : Addr) : GH := fun b => if b = a then none else G b
theorem gset_same {G : GH} {a : Addr} {o : GO} : gset G a o a = some o := by unfold gset; rw [if_pos rfl]
theorem gset_ne {G : GH} {a b : Addr} {o : GO} (h : b ≠ a) : gset G a o b = G b := by unfold gset; rw [if_neg h]
theorem gset_gset {G : GH} {a : Addr} {o u : GO} : gset (gset G a o) a u = gset G a u := by
  funext b; unfold gset; split <;> rfl
theorem gset_comm {G : GH} {a b : Addr} {o u : GO} (h : a ≠ b) : gset (gset G a o) b u = gset (gset G b u) a o := by
  funext c; unfold gset
  by_cases h1 : c = b
  · by_cases h2 : c = a
    · exact absurd (h2.symm.trans h1) h
    · rw [if_pos h1, if_neg h2, if_pos h1]
  · by_cases h2 : c = a
    · rw [if_neg h1, if_pos h2, if_pos h2]
    · rw [if_neg h1, if_neg h2, if_neg h2, if_neg h1]
theorem gdel_gset {G : GH} {a : Addr} {o : GO} (h : G a = none) : gdel (gset G a o) a = G := by
  funext b; unfold gdel gset; by_cases e : b = a
  · rw [if_pos e, e, h]
  · rw [if_neg e, if_neg e]
theorem gset_id {G : GH} {a : Addr} {o : GO} (h : G a = some o) : gset G a o = G := by
  funext b; unfold gset; by_cases e : b = a
  · rw [if_pos e, e, h]
  · rw [if_neg e]
/-- a part of a store -/
def Sub (G G' : GH) : Prop := ∀ a o, G a = some o → G' a = some o
theorem Sub.refl (G : GH) : Sub G G := fun _ _ h => h
theorem Sub.trans {G G1 G2 : GH} (a : Sub G G1) (b : Sub G1 G2) : Sub G G2 := fun c o h => b c o (a c o h)
theorem Sub.new {G : GH} {a : Addr} {o : GO} (h : G a = none) : Sub G (gset G a o) := fun b u e => by
  unfold gset; by_cases z : b = a
  · rw [z, h] at e; cases e
  · rw [if_neg z]; exact e
theorem gne {G : GH} {a b : Addr} {o : GO} (h : G a = some o) (h' : G b = none) : a ≠ b := by
  intro e; rw [e, h'] at h; cases h

/-! ### what stands for what -/
/-- a tuple without attributes of its own -/
def TupOk (K : PySem.W.Frag) (F : Hp) (a : Addr) (vs : List V) : Prop :=
  (∃ o : Obj, F a = some (.frz o (.tup vs)) ∧ o.dict = none) ∨
    ∃ (o : Obj) (its : Array Value) (n : Nat), K.lookup a = some o ∧ o.cls = .type "tuple" ∧ o.dict = none ∧ o.data = .seq its n ∧ its.size ≤ sizeLine ∧ Vals vs its.toList
theorem TupOk.sq {K : PySem.W.Frag} {F : Hp} {a : Addr} {vs : List V} (h : TupOk K F a vs) : SqT K F a vs := by
  rcases h with ⟨o, h, _⟩ | ⟨o, its, n, h1, h2, _, h3, h4, h5⟩
  · exact .inl (.inr ⟨o, h⟩)
  · exact .inr ⟨o, its, n, h1, h2, h3, h4, h5⟩
theorem TupOk.mono {K : PySem.W.Frag} {F F' : Hp} {a : Addr} {vs : List V} (s : Same F F') (h : TupOk K F a vs) : TupOk K F' a vs := by
  rcases h with ⟨o, h, z⟩ | h
  · exact .inl ⟨o, s _ _ h, z⟩
  · exact .inr h
theorem TupOk.new {K : PySem.W.Frag} {F : Hp} {a : Addr} {vs : List V} {o : Obj} (h : o.dict = none) : TupOk K (upd F a (.frz o (.tup vs))) a vs := .inl ⟨o, upd_same, h⟩
mutual
inductive Rep (K : PySem.W.Frag) (F : Hp) : V → PV → Prop
  | non : Rep K F .non .non
  | bl (b : Bool) : Rep K F (.bl b) (.bl b)
  | int (i : Int) : Rep K F (.int i) (.int i)
  | str (x : Str) : Rep K F (.str x) (.str x)
  | ref (a : Addr) : Rep K F (.ref a) (.ref a)
  | ty (n : String) : Rep K F (.ty n) (.ty n)
  | tup {a : Addr} {vs : List V} {xs : List PV} : TupOk K F a vs → RepA K F vs xs → Rep K F (.ref a) (.tup xs)
  | lst {a : Addr} {vs : List V} {xs : List PV} : F a = some (.lst vs) → RepA K F vs xs → Rep K F (.ref a) (.lst xs)
  | scr {a : Addr} {ns : List Int} : SqL K F a (ns.map V.int) → Rep K F (.ref a) (.scr ns)
inductive RepA (K : PySem.W.Frag) (F : Hp) : List V → List PV → Prop
  | nil : RepA K F [] []
  | cons {v : V} {vs : List V} {x : PV} {xs : List PV} : Rep K F v x → RepA K F vs xs → RepA K F (v :: vs) (x :: xs)
end
section
variable {K : PySem.W.Frag} {F F' H H' : Hp} {G G' : GH}
theorem Same.tupT {a : Addr} {xs : List V} (e : Same F F') (h : SqT K F a xs) : SqT K F' a xs := by
  rcases h with (h | ⟨o, h⟩) | h
  · exact .inl (.inl (e _ _ h))
  · exact .inl (.inr ⟨o, e _ _ h⟩)
  · exact .inr h
mutual
theorem Rep.mono (s : Same F F') : ∀ (x : PV) (v : V), Rep K F v x → Rep K F' v x
  | .non, _, h => by cases h; exact .non
  | .bl b, _, h => by cases h; exact .bl b
  | .int b, _, h => by cases h; exact .int b
  | .str b, _, h => by cases h; exact .str b
  | .ref b, _, h => by cases h; exact .ref b
  | .ty b, _, h => by cases h; exact .ty b
  | .tup xs, _, h => by
    cases h with
    | tup h1 h2 => exact .tup (h1.mono s) (RepA.mono s xs _ h2)
  | .lst xs, _, h => by
    cases h with
    | lst h1 h2 => exact .lst (s _ _ h1) (RepA.mono s xs _ h2)
  | .scr ns, _, h => by
    cases h with
    | scr h1 => exact .scr (s.seq h1)
theorem RepA.mono (s : Same F F') : ∀ (xs : List PV) (vs : List V), RepA K F vs xs → RepA K F' vs xs
  | [], _, h => by cases h; exact .nil
  | x :: xs, _, h => by
    cases h with
    | cons h1 h2 => exact .cons (Rep.mono s x _ h1) (RepA.mono s xs _ h2)
end
theorem RepA.length : ∀ {vs : List V} {xs : List PV}, RepA K F vs xs → vs.length = xs.length
  | _, _, .nil => rfl
  | _, _, .cons _ t => by rw [List.length_cons, List.length_cons, RepA.length t]
theorem RepA.get : ∀ {vs : List V} {xs : List PV} {i : Nat} {x : PV}, RepA K F vs xs → xs[i]? = some x → ∃ v, vs[i]? = some v ∧ Rep K F v x
  | _, _, _, _, .nil, e => by simp at e
  | _, _, 0, _, .cons h _, e => by simp at e; subst e; exact ⟨_, rfl, h⟩
  | _, _, i + 1, x, .cons _ t, e => by
    obtain ⟨v, h1, h2⟩ := RepA.get (i := i) (x := x) t (by simpa using e)
    exact ⟨v, by simpa using h1, h2⟩
theorem RepA.getV : ∀ {vs : List V} {xs : List PV} {i : Nat} {v : V}, RepA K F vs xs → vs[i]? = some v → ∃ x, xs[i]? = some x ∧ Rep K F v x
  | _, _, _, _, .nil, e => by simp at e
  | _, _, 0, _, .cons h _, e => by simp at e; subst e; exact ⟨_, rfl, h⟩
  | _, _, i + 1, v, .cons _ t, e => by
    obtain ⟨x, h1, h2⟩ := RepA.getV (i := i) (v := v) t (by simpa using e)
    exact ⟨x, by simpa using h1, h2⟩
theorem RepA.append : ∀ {vs ws : List V} {xs ys : List PV}, RepA K F vs xs → RepA K F ws ys → RepA K F (vs ++ ws) (xs ++ ys)
  | _, _, _, _, .nil, h => h
  | _, _, _, _, .cons a t, h => .cons a (RepA.append t h)
theorem RepA.take : ∀ {vs : List V} {xs : List PV} (n : Nat), RepA K F vs xs → RepA K F (vs.take n) (xs.take n)
  | _, _, 0, _ => .nil
  | _, _, _ + 1, .nil => .nil
  | _, _, n + 1, .cons a t => .cons a (RepA.take n t)
theorem RepA.drop : ∀ {vs : List V} {xs : List PV} (n : Nat), RepA K F vs xs → RepA K F (vs.drop n) (xs.drop n)
  | _, _, 0, h => h
  | _, _, _ + 1, .nil => .nil
  | _, _, n + 1, .cons _ t => RepA.drop n t
theorem RepA.set {v : V} {x : PV} (h : Rep K F v x) : ∀ {vs : List V} {xs : List PV} (i : Nat), RepA K F vs xs → RepA K F (vs.set i v) (xs.set i x)
  | _, _, _, .nil => .nil
  | _, _, 0, .cons _ t => .cons h t
  | _, _, i + 1, .cons a t => .cons a (RepA.set h i t)
theorem RepA.reverse : ∀ {vs : List V} {xs : List PV}, RepA K F vs xs → RepA K F vs.reverse xs.reverse
  | _, _, .nil => .nil
  | _, _, .cons a t => by rw [List.reverse_cons, List.reverse_cons]; exact RepA.append (RepA.reverse t) (.cons a .nil)
theorem RepA.ints : ∀ {vs : List V} {ns : List Int}, RepA K F vs (ns.map PV.int) → vs = ns.map V.int
  | _, [], h => by cases h; rfl
  | _, n :: ns, h => by
    cases h with
    | cons h1 h2 => cases h1; rw [RepA.ints h2]; rfl
theorem RepA.of_ints : ∀ (ns : List Int), RepA K F (ns.map V.int) (ns.map PV.int)
  | [] => .nil
  | n :: ns => .cons (.int n) (RepA.of_ints ns)
theorem RepA.bls : ∀ {vs : List V} {ns : List Bool}, RepA K F vs (ns.map PV.bl) → vs = ns.map V.bl
  | _, [], h => by cases h; rfl
  | _, n :: ns, h => by
    cases h with
    | cons h1 h2 => cases h1; rw [RepA.bls h2]; rfl

def RepD {κ : Type} (K : PySem.W.Frag) (F : Hp) (vs : List (κ × V)) (xs : List (κ × PV)) : Prop := vs.map (·.1) = xs.map (·.1) ∧ RepA K F (vs.map (·.2)) (xs.map (·.2))
theorem RepD.mono {κ : Type} {vs : List (κ × V)} {xs : List (κ × PV)} (s : Same F F') (h : RepD K F vs xs) : RepD K F' vs xs := ⟨h.1, RepA.mono s _ _ h.2⟩

/-- an owned object as the heap holds it -/
def GoOk (K : PySem.W.Frag) (F H : Hp) (a : Addr) : GO → Prop
  | .lst xs => ∃ vs, H a = some (.lst vs) ∧ RepA K F vs xs
  | .dk kvs => ∃ vs, H a = some (.dK vs) ∧ RepD K F vs kvs
  | .ins C fs => ∃ dx vs, H a = some (.ins C dx vs) ∧ RepD K F vs fs
theorem GoOk.mono {a : Addr} {o : GO} (s : Same F F') (e : ∀ u, H a = some u → H' a = some u) (h : GoOk K F H a o) : GoOk K F' H' a o := by
  cases o with
  | lst xs => obtain ⟨vs, h1, h2⟩ := h; exact ⟨vs, e _ h1, RepA.mono s _ _ h2⟩
  | dk kvs => obtain ⟨vs, h1, h2⟩ := h; exact ⟨vs, e _ h1, h2.mono s⟩
  | ins C fs => obtain ⟨dx, vs, h1, h2⟩ := h; exact ⟨dx, vs, e _ h1, h2.mono s⟩

/-- F: what never changes; G: what is owned; both within H -/
structure Rl (K : PySem.W.Frag) (F H : Hp) (G : GH) : Prop where
  sub : Same F H
  own : ∀ a o, G a = some o → F a = none ∧ GoOk K F H a o
theorem GoOk.there {a : Addr} {o : GO} (h : GoOk K F H a o) (n : H a = none) : False := by
  cases o with
  | lst xs => obtain ⟨vs, h1, h2⟩ := h; rw [n] at h1; cases h1
  | dk kvs => obtain ⟨vs, h1, h2⟩ := h; rw [n] at h1; cases h1
  | ins C fs => obtain ⟨dx, vs, h1, h2⟩ := h; rw [n] at h1; cases h1
theorem Rl.free {p : Addr} (r : Rl K F H G) (n : H p = none) : G p = none := by
  cases e : G p with
  | none => rfl
  | some o => exact ((r.own p o e).2.there n).elim
/-- a smaller store -/
theorem Rl.drop (r : Rl K F H G) (s : Sub G' G) : Rl K F H G' := ⟨r.sub, fun a o e => r.own a o (s a o e)⟩
theorem Same.new {p : Addr} {o : HO} (n : F p = none) : Same F (upd F p o) := fun b u e => by
  by_cases z : b = p
  · rw [z, n] at e; cases e
  · rw [upd_ne z]; exact e
/-- a new object, frozen -/
theorem Rl.froze {p : Addr} {o : HO} (r : Rl K F H G) (n : H p = none) : Rl K (upd F p o) (upd H p o) G := by
  refine ⟨fun b u e => ?_, fun b u e => ?_⟩
  · by_cases z : b = p
    · subst z; rw [upd_same] at e ⊢; exact e
    · rw [upd_ne z] at e ⊢; exact r.sub b u e
  · have z : b ≠ p := gne e (r.free n)
    obtain ⟨h1, h2⟩ := r.own b u e
    exact ⟨by rw [upd_ne z]; exact h1, h2.mono (Same.new (r.sub.free n)) fun u q => by rw [upd_ne z]; exact q⟩
/-- a new object, owned; or an owned one changed -/
theorem Rl.owned {p : Addr} {o : HO} {g : GO} (r : Rl K F H G) (n : F p = none) (h : GoOk K F (upd H p o) p g) : Rl K F (upd H p o) (gset G p g) := by
  refine ⟨fun b u e => ?_, fun b u e => ?_⟩
  · have z : b ≠ p := ne_of_none e n
    rw [upd_ne z]; exact r.sub b u e
  · by_cases z : b = p
    · subst z; rw [gset_same] at e; cases e; exact ⟨n, h⟩
    · rw [gset_ne z] at e
      obtain ⟨h1, h2⟩ := r.own b u e
      exact ⟨h1, h2.mono (Same.refl F) fun u q => by rw [upd_ne z]; exact q⟩
/-- an owned list becomes frozen -/
theorem Rl.freeze {p : Addr} {xs : List PV} (r : Rl K F H G) (e : G p = some (.lst xs)) : ∃ F', Same F F' ∧ Rl K F' H (gdel G p) ∧ Rep K F' (.ref p) (.lst xs) := by
  obtain ⟨n, vs, h1, h2⟩ := r.own p _ e
  refine ⟨upd F p (.lst vs), Same.new n, ⟨fun b u q => ?_, fun b u q => ?_⟩, .lst upd_same (RepA.mono (Same.new n) _ _ h2)⟩
  · by_cases z : b = p
    · subst z; rw [upd_same] at q; cases q; exact h1
    · rw [upd_ne z] at q; exact r.sub b u q
  · unfold gdel at q
    by_cases z : b = p
    · rw [if_pos z] at q; cases q
    · rw [if_neg z] at q
      obtain ⟨h3, h4⟩ := r.own b u q
      exact ⟨by rw [upd_ne z]; exact h3, h4.mono (Same.new n) fun u q => q⟩
end

/-! ### slots -/
abbrev PEn := List (Option PV)
structure Vs (K : PySem.W.Frag) (F : Hp) (σ : List (Option V)) (env : PEn) : Prop where
  len : σ.length = env.length
  get : ∀ (i : Nat) (x : PV), env[i]? = some (some x) → ∃ v, σ[i]? = some (some v) ∧ Rep K F v x
section
variable {K : PySem.W.Frag} {F F' H H' : Hp} {σ : List (Option V)} {env : PEn}
theorem Vs.mono (s : Same F F') (h : Vs K F σ env) : Vs K F' σ env := ⟨h.len, fun i x e => by
  obtain ⟨v, h1, h2⟩ := h.get i x e
  exact ⟨v, h1, Rep.mono s _ _ h2⟩⟩
theorem Vs.set {i : Nat} {v : V} {x : PV} (h : Vs K F σ env) (r : Rep K F v x) : Vs K F (σ.set i (some v)) (env.set i (some x)) := by
  refine ⟨by rw [List.length_set, List.length_set, h.len], fun j y e => ?_⟩
  by_cases z : i = j
  · subst z
    by_cases l : i < env.length
    · rw [List.getElem?_set_self l] at e
      cases e
      exact ⟨v, by rw [List.getElem?_set_self (by rw [h.len]; exact l)], r⟩
    · rw [List.getElem?_eq_none (by rw [List.length_set]; omega)] at e
      cases e
  · rw [List.getElem?_set_ne z] at e ⊢
    exact h.get j y e
theorem Vs.setN {i : Nat} (h : Vs K F σ env) : Vs K F (σ.set i none) (env.set i none) := by
  refine ⟨by rw [List.length_set, List.length_set, h.len], fun j y e => ?_⟩
  by_cases z : i = j
  · subst z
    by_cases l : i < env.length
    · rw [List.getElem?_set_self l] at e
      cases e
    · rw [List.getElem?_eq_none (by rw [List.length_set]; omega)] at e
      cases e
  · rw [List.getElem?_set_ne z] at e ⊢
    exact h.get j y e
def wipeE (env : PEn) : List Nat → PEn
  | [] => env
  | v :: vs => (wipeE env vs).set v none
theorem Vs.wipe (h : Vs K F σ env) : ∀ vs : List Nat, Vs K F (L2.wipe σ vs) (wipeE env vs)
  | [] => h
  | v :: vs => (Vs.wipe h vs).setN
def startE (n : Nat) (xs : List PV) : PEn := xs.map some ++ List.replicate (n - xs.length) none
theorem RepA.somes : ∀ {vs : List V} {xs : List PV}, RepA K F vs xs → Vs K F (vs.map some) (xs.map some)
  | _, _, .nil => ⟨rfl, fun i x e => by simp at e⟩
  | _, _, .cons (v := v) (vs := vs) (x := x) (xs := xs) r t => by
    have ih := RepA.somes t
    refine ⟨by simp [t.length], fun i y e => ?_⟩
    cases i with
    | zero =>
      simp at e
      subst e
      exact ⟨v, by simp, r⟩
    | succ i =>
      obtain ⟨u, h1, h2⟩ := ih.get i y (by simpa using e)
      exact ⟨u, by simpa using h1, h2⟩
theorem Vs.start {N : List Str} {vs : List V} {xs : List PV} (r : RepA K F vs xs) : Vs K F (L2.start N vs) (startE N.length xs) := by
  have h := RepA.somes r
  have hl := r.length
  unfold L2.start startE
  refine ⟨by simp [hl], fun i x e => ?_⟩
  by_cases l : i < xs.length
  · rw [List.getElem?_append_left (by simpa using l)] at e
    rw [List.getElem?_append_left (by simpa [hl] using l)]
    exact h.get i x e
  · rw [List.getElem?_append_right (by simpa using l), List.getElem?_replicate] at e
    split at e <;> cases e
end

/-- a value, or (weak) any tuple of values -/
def RepB (st : Bool) (K : PySem.W.Frag) (F : Hp) (v : V) (x : PV) : Prop := Rep K F v x ∨ (st = false ∧ ∃ a vs xs, v = .ref a ∧ x = .tup xs ∧ SqT K F a vs ∧ RepA K F vs xs)
theorem RepB.mono {st : Bool} {K : PySem.W.Frag} {F F' : Hp} {v : V} {x : PV} (s : Same F F') (h : RepB st K F v x) : RepB st K F' v x := by
  rcases h with h | ⟨e, a, vs, xs, h1, h2, h3, h4⟩
  · exact .inl (Rep.mono s _ _ h)
  · exact .inr ⟨e, a, vs, xs, h1, h2, Same.tupT s h3, RepA.mono s _ _ h4⟩
theorem RepB.strong {K : PySem.W.Frag} {F : Hp} {v : V} {x : PV} (h : RepB true K F v x) : Rep K F v x := by
  rcases h with h | ⟨e, _⟩
  · exact h
  · cases e
theorem RepB.tup {st : Bool} {K : PySem.W.Frag} {F : Hp} {v : V} {xs : List PV} (h : RepB st K F v (.tup xs)) : ∃ a vs, v = .ref a ∧ SqT K F a vs ∧ RepA K F vs xs := by
  rcases h with h | ⟨_, a, vs, ys, h1, h2, h3, h4⟩
  · cases h with
    | tup h1 h2 => exact ⟨_, _, rfl, h1.sq, h2⟩
  · cases h2
    exact ⟨a, vs, h1, h3, h4⟩

/-! ### new tuples, told by their object -/
section
variable {X : Cx} {pins : List (Addr × Obj)} {σ : List (Option V)} {H : Hp} {s : Shared}
theorem laidT {vs : List V} {us : List Value} {t' : Nat} (I : Inv X pins σ H s) (hz : vs.length ≤ sizeLine) (r : Vals vs us) :
    Inv X pins σ (upd H s.heap.objs.size (.frz { cls := .type "tuple", data := .seq us.toArray } (.tup vs))) { s with heap := s.heap.push { cls := .type "tuple", data := .seq us.toArray }, toks := t' } := by
  have e := Heap.get?_push_size s.heap (o := { cls := .type "tuple", data := .seq us.toArray }) rfl
  exact I.laid (fun b o q => Heap.get?_push_of_some _ q) (Nat.le_refl _) ⟨e, hz, us, r, _, e, rfl, _, rfl⟩
def tTupN (t : TA) : TE := fun σ H Q => t σ H fun xs H1 => xs.length ≤ sizeLine ∧ ∀ p o, H1 p = none → o.dict = none → Q (.ref p) (upd H1 p (.frz o (.tup xs)))
theorem pe_tupN {es : List Expr} {t : TA} {x1} {pos : Pos} (h : PA X es t) : PE X (.Tuple es x1 pos) (tTupN t) :=
  ⟨fun pins s σ H Q I hq => wpAny_Tuple_spliced (thn (h.run pos pins s σ H _ I hq) fun us s1 ⟨xs, H1, I1, r, z, q⟩ =>
    ⟨by rw [← r.length]; exact z, .ref s1.heap.objs.size, _, laidT (t' := s1.toks) I1 z r, rfl, q _ _ (I1.hok.fresh (Nat.le_refl _)) rfl⟩)⟩
theorem call_tupleN : CallR X (.type "tuple") (fun xs H Q => ∃ p ys, xs = [.ref p] ∧ ((SqL X.K H p ys ∧ ∀ l o, H l = none → o.dict = none → Q (.ref l) (upd H l (.frz o (.tup ys)))) ∨ (SqT X.K H p ys ∧ Q (.ref p) H))) := by
  intro pins s σ H xs us Q I r h
  obtain ⟨p, ys, rfl, h⟩ := h
  obtain ⟨u, rfl, rx⟩ := vals1 r
  cases rx
  rcases h with ⟨hq, q⟩ | ⟨hq, q⟩
  · obtain ⟨its, r', pl, hz⟩ := I.list hq
    have hl := r'.length
    refine call_tuple_list pl.isList (fun h' kp => ?_) (by simp only [List.size_toArray] <;> omega)
    have I1 : Inv X pins σ H { s with heap := h' } := I.kept (t' := s.toks) kp
    exact ⟨.ref _, _, laidT (t' := s.toks) I1 hz r', rfl, q _ _ (I1.hok.fresh (Nat.le_refl _)) rfl⟩
  · obtain ⟨its, r', pl, hz⟩ := I.tuple hq
    exact call_tuple_same pl ⟨.ref _, H, I, rfl, q⟩
def rCatN (K : PySem.W.Frag) : R2 := fun x y H Q => ∃ a b xs ys, x = .ref a ∧ y = .ref b ∧ SqT K H a xs ∧ SqT K H b ys ∧ xs.length + ys.length ≤ sizeLine ∧
  (xs = [] → Q (.ref b) H) ∧ (xs ≠ [] → ys = [] → Q (.ref a) H) ∧ (xs ≠ [] → ys ≠ [] → ∀ p o, H p = none → o.dict = none → Q (.ref p) (upd H p (.frz o (.tup (xs ++ ys)))))
theorem op_catN : OpR X (binaryOp .Add) (rCatN X.K) := by
  intro pins s σ H x y v u Q I rx ry h
  obtain ⟨a, b, xs, ys, rfl, rfl, ha, hb, hz, q0, q1, q2⟩ := h
  cases rx
  cases ry
  obtain ⟨its, r1, p1, _⟩ := I.tuple ha
  obtain ⟨its2, r2, p2, _⟩ := I.tuple hb
  by_cases hx : xs = []
  · subst hx
    cases r1
    exact cat_tup0 p1 p2 ⟨.ref _, H, I, rfl, q0 rfl⟩
  · refine HT.cat_tup p1 p2 (fun z => hx (r1.nil_iff.mp z)) (fun z => ⟨.ref _, H, I, rfl, q1 hx (r2.nil_iff.mp z)⟩) (fun z => ?_) (by rw [← r1.length, ← r2.length]; exact hz)
    exact ⟨.ref _, _, laidT (t' := s.toks) I (by rw [List.length_append]; exact hz) (r1.append r2), rfl, q2 hx (fun w => z (r2.nil_iff.mpr w)) _ _ (I.hok.fresh (Nat.le_refl _)) rfl⟩
def rSlN (K : PySem.W.Frag) : V → Option Int → Option Int → Hp → VK → Prop := fun x lo hi H Q => ∃ a xs, x = .ref a ∧ SqT K H a xs ∧
  (HT.sIx xs.length 0 lo = 0 ∧ HT.sIx xs.length xs.length hi = xs.length → Q (.ref a) H) ∧ (¬ (HT.sIx xs.length 0 lo = 0 ∧ HT.sIx xs.length xs.length hi = xs.length) → ∀ p o, H p = none → o.dict = none → Q (.ref p) (upd H p (.frz o (.tup (cutV xs lo hi)))))
theorem sl_tupN : SlR X (rSlN X.K) := by
  intro pins s σ H x v vl vu lo hi sl Q I rx hs pl pu h
  obtain ⟨a, xs, rfl, hx, q1, q2⟩ := h
  cases rx
  obtain ⟨its, r, ht, hz⟩ := I.tuple hx
  have hlen : its.toArray.size = xs.length := by rw [List.size_toArray]; exact r.length.symm
  refine ⟨"tuple", _, PyProof.Rows.slot_tuple_getitem.lookup, ht.typeIs, ?_⟩
  by_cases hw : HT.sIx xs.length 0 lo = 0 ∧ HT.sIx xs.length xs.length hi = xs.length
  · exact getItem_tuple_whole ht hs pl pu (by rw [hlen]; exact hw) ⟨.ref _, H, I, rfl, q1 hw⟩
  · refine HT.getItem_tuple_cut ht hs pl pu (by rw [hlen]; exact hw) ?_ (by rw [hlen]; exact hz)
    rw [hlen]
    exact ⟨.ref _, _, laidT (t' := s.toks) I (Nat.le_trans (cutV_length xs lo hi) hz) ((r.drop (HT.sIx xs.length 0 lo)).take (HT.sIx xs.length xs.length hi - HT.sIx xs.length 0 lo)), rfl, q2 hw _ _ (I.hok.fresh (Nat.le_refl _)) rfl⟩
end
end PL
end

section
/-! PJudge: judgements of the pure layer, and their rules. -/
namespace PL
open PySem PySem.Spec PyProof.Rows L2

/-! ### what the machine wants, as a reading -/
def WE (X : Cx) (e : Expr) : TE := fun σ H Q => ∀ (pins : List (Addr × Obj)) (s : Shared), Inv X pins σ H s → wpAny (model X.prog X.w) X.A (eval e X.env) (EP X pins σ Q) X.xe s
def WT (X : Cx) (e : Expr) : TT := fun σ H Q => ∀ (pins : List (Addr × Obj)) (s : Shared), Inv X pins σ H s → wpAny (model X.prog X.w) X.A (isTrue e X.env (eval e X.env)) (TP X pins σ Q) X.xe s
def WW (X : Cx) (e : Expr) : TT := fun σ H Q => ∀ (whole : Sem Value) (pins : List (Addr × Obj)) (s : Shared), Inv X pins σ H s → wpAny (model X.prog X.w) X.A (isTrue e X.env whole) (TP X pins σ Q) X.xe s
def WA (X : Cx) (es : List Expr) : TA := fun σ H Q => ∀ (pos : Pos) (pins : List (Addr × Obj)) (s : Shared), Inv X pins σ H s → wpAny (model X.prog X.w) X.A (spliced (backTo pos (starEach es X.env))) (AP X pins σ Q) X.xe s
def WS (X : Cx) (st : Stmt) : TS := fun D σ H => ∀ (pins : List (Addr × Obj)) (s : Shared), Inv X pins σ H s → wpAny (model X.prog X.w) X.A (exec st X.env) (SP X pins D) X.xe s
def WB (X : Cx) (st : List Stmt) : TS := fun D σ H => ∀ (pins : List (Addr × Obj)) (s : Shared), Inv X pins σ H s → wpAny (model X.prog X.w) X.A (execs st X.env) (SP X pins D) X.xe s
def WG (X : Cx) (target : Expr) : TG := fun v σ H Q => ∀ (pins : List (Addr × Obj)) (s : Shared) (u : Value), Inv X pins σ H s → RelV v u → wpAny (model X.prog X.w) X.A (assign target X.env u) (fun _ s' => ∃ σ' H', Inv X pins σ' H' s' ∧ Q σ' H') X.xe s
def WGs (X : Cx) (ts : List Expr) : TGs := fun vs σ H Q => ∀ (pins : List (Addr × Obj)) (s : Shared) (us : List Value), Inv X pins σ H s → Vals vs us → wpAny (model X.prog X.w) X.A (assignInOrder ((assignEach ts X.env).map (·.2)) us) (fun _ s' => ∃ σ' H', Inv X pins σ' H' s' ∧ Q σ' H') X.xe s
def WI (X : Cx) (tg iter : Expr) : TI := fun σ H R => ∀ (pins : List (Addr × Obj)) (s : Shared), Inv X pins σ H s → wpAny (model X.prog X.w) X.A (eval iter X.env) (fun v s1 => wpAny (model X.prog X.w) X.A (pyIter v) (PIE X pins σ tg R) X.xe s1) X.xe s
def WO (X : Cx) (f : Value → Value → Sem Value) : R2 := fun x y H Q => ∀ (pins : List (Addr × Obj)) (s : Shared) (σ : List (Option V)) (v u : Value), Inv X pins σ H s → RelV x v → RelV y u → wpAny (model X.prog X.w) X.A (f v u) (EP X pins σ Q) X.xe s
def WU (X : Cx) (f : Value → Sem Value) : V → Hp → VK → Prop := fun x H Q => ∀ (pins : List (Addr × Obj)) (s : Shared) (σ : List (Option V)) (v : Value), Inv X pins σ H s → RelV x v → wpAny (model X.prog X.w) X.A (f v) (EP X pins σ Q) X.xe s
def WC (X : Cx) (f : Value) : List V → Hp → VK → Prop := fun xs H Q => ∀ (pins : List (Addr × Obj)) (s : Shared) (σ : List (Option V)) (us : List Value), Inv X pins σ H s → Vals xs us → wpAny (model X.prog X.w) X.A (call f us) (EP X pins σ Q) X.xe s
def WIx (X : Cx) : R2 := fun x y H Q => ∀ (value slice : Expr) (pins : List (Addr × Obj)) (s : Shared) (σ : List (Option V)) (v u : Value), Inv X pins σ H s → RelV x v → RelV y u → subscripted slice false v u = operate [v, u] (getItem v u) →
  wpAny (model X.prog X.w) X.A (subscriptTail value slice v u) (EP X pins σ Q) X.xe s
def WSet (X : Cx) : TSet := fun o i v H Q => ∀ (pins : List (Addr × Obj)) (s : Shared) (σ : List (Option V)) (ov iv u : Value), Inv X pins σ H s → RelV o ov → RelV i iv → RelV v u →
  wpAny (model X.prog X.w) X.A (setItem ov iv u) (fun _ s' => ∃ H', Inv X pins σ H' s' ∧ Q H') X.xe s
section
variable {X : Cx} {e : Expr} {es : List Expr} {st : Stmt} {sts : List Stmt} {σ : List (Option V)} {H : Hp}
theorem pe_we : PE X e (WE X e) := ⟨fun pins s _ _ _ I h => h pins s I⟩
theorem pt_wt : PT X e (WT X e) := ⟨fun pins s _ _ _ I h => h pins s I⟩
theorem pw_ww : PW X e (WW X e) := ⟨fun wh pins s _ _ _ I h => h wh pins s I⟩
theorem pa_wa : PA X es (WA X es) := ⟨fun pos pins s _ _ _ I h => h pos pins s I⟩
theorem ps_ws : PS X st (WS X st) := ⟨fun pins s _ _ _ I h => h pins s I⟩
theorem ps_wb : PSs X sts (WB X sts) := ⟨fun pins s _ _ _ I h => h pins s I⟩
theorem pg_wg : PG X e (WG X e) := ⟨fun pins s _ _ _ u _ I r h => h pins s u I r⟩
theorem pg_wgs : PGs X es (WGs X es) := ⟨fun pins s _ _ _ us _ I r h => h pins s us I r⟩
theorem pi_wi {tg : Expr} : PI X tg e (WI X tg e) := ⟨fun pins s _ _ _ I h => h pins s I⟩
theorem op_wo {f : Value → Value → Sem Value} : OpR X f (WO X f) := fun pins s σ _ _ _ v u _ I r1 r2 h => h pins s σ v u I r1 r2
theorem un_wu {f : Value → Sem Value} : UnR X f (WU X f) := fun pins s σ _ _ v _ I r1 h => h pins s σ v I r1
theorem cr_wc {f : Value} : CallR X f (WC X f) := fun pins s σ _ _ us _ I r1 h => h pins s σ us I r1
theorem ix_wix : IxR X (WIx X) := fun value slice pins s σ _ _ _ v u _ I r1 r2 h hs => h value slice pins s σ v u I r1 r2 hs
theorem set_wset : PSet X (WSet X) := fun pins s σ _ _ _ _ ov iv u _ I r1 r2 r3 h => h pins s σ ov iv u I r1 r2 r3
theorem we_of {t : TE} {Q : VK} (h : PE X e t) (q : t σ H Q) : WE X e σ H Q := fun pins s I => h.run pins s σ H Q I q
theorem wt_of {t : TT} {Q : Bool → Hp → Prop} (h : PT X e t) (q : t σ H Q) : WT X e σ H Q := fun pins s I => h.run pins s σ H Q I q
theorem ww_of {t : TT} {Q : Bool → Hp → Prop} (h : PW X e t) (q : t σ H Q) : WW X e σ H Q := fun wh pins s I => h.run wh pins s σ H Q I q
theorem wa_of {t : TA} {Q : List V → Hp → Prop} (h : PA X es t) (q : t σ H Q) : WA X es σ H Q := fun pos pins s I => h.run pos pins s σ H Q I q
theorem ws_of {t : TS} {D : Ends} (h : PS X st t) (q : t D σ H) : WS X st D σ H := fun pins s I => h.run pins s σ H D I q
theorem wb_of {t : TS} {D : Ends} (h : PSs X sts t) (q : t D σ H) : WB X sts D σ H := fun pins s I => h.run pins s σ H D I q
theorem wg_of {t : TG} {v : V} {Q : List (Option V) → Hp → Prop} (h : PG X e t) (q : t v σ H Q) : WG X e v σ H Q := fun pins s u I r => h.run pins s σ H v u Q I r q
theorem wgs_of {t : TGs} {v : List V} {Q : List (Option V) → Hp → Prop} (h : PGs X es t) (q : t v σ H Q) : WGs X es v σ H Q := fun pins s u I r => h.run pins s σ H v u Q I r q
theorem wi_of {tg : Expr} {t : TI} {R : It → Hp → Prop} (h : PI X tg e t) (q : t σ H R) : WI X tg e σ H R := fun pins s I => h.run pins s σ H R I q
theorem wo_of {f : Value → Value → Sem Value} {r : R2} {x y : V} {Q : VK} (h : OpR X f r) (q : r x y H Q) : WO X f x y H Q := fun pins s σ v u I r1 r2 => h pins s σ H x y v u Q I r1 r2 q
theorem wu_of {f : Value → Sem Value} {r : V → Hp → VK → Prop} {x : V} {Q : VK} (h : UnR X f r) (q : r x H Q) : WU X f x H Q := fun pins s σ v I r1 => h pins s σ H x v Q I r1 q
theorem wc_of {f : Value} {r : List V → Hp → VK → Prop} {xs : List V} {Q : VK} (h : CallR X f r) (q : r xs H Q) : WC X f xs H Q := fun pins s σ us I r1 => h pins s σ H xs us Q I r1 q
theorem wix_of {r : R2} {x y : V} {Q : VK} (h : IxR X r) (q : r x y H Q) : WIx X x y H Q := fun value slice pins s σ v u I r1 r2 hs => h value slice pins s σ H x y v u Q I r1 r2 q hs
theorem wset_of {t : TSet} {o i v : V} {Q : Hp → Prop} (h : PSet X t) (q : t o i v H Q) : WSet X o i v H Q := fun pins s σ ov iv u I r1 r2 r3 => h pins s σ H o i v ov iv u Q I r1 r2 r3 q
end

/-! ### readings of the pure layer -/
abbrev PK1 := PV → GH → Prop
abbrev PXK := Value → PEn → GH → Prop
abbrev PTE := PEn → GH → PK1 → PXK → Prop
abbrev PTT := PEn → GH → (Bool → GH → Prop) → PXK → Prop
abbrev PTA := PEn → GH → (List PV → GH → Prop) → PXK → Prop
abbrev PO1 := PV → GH → PK1 → Prop
abbrev PO2 := PV → PV → GH → PK1 → Prop
abbrev POn := List PV → GH → PK1 → Prop
structure PEnds where
  nx : PEn → GH → Prop
  rt : PK1
  bk : PEn → GH → Prop := fun _ _ => False
  ct : PEn → GH → Prop := fun _ _ => False
  xs : PXK := fun _ _ _ => False
abbrev PTS := PEnds → PEn → GH → Prop
abbrev PTG := PV → PEn → GH → (PEn → GH → Prop) → PXK → Prop
abbrev PTGs := List PV → PEn → GH → (PEn → GH → Prop) → PXK → Prop

/-- what is reached on the pure side is reached below -/
def LkQ (K : PySem.W.Frag) (F : Hp) (P : PK1) (Q : VK) : Prop := ∀ (F' H' : Hp) (G' : GH) (v : V) (x : PV), Same F F' → Rl K F' H' G' → Rep K F' v x → P x G' → Q v H'
def LkB (K : PySem.W.Frag) (F : Hp) (P : Bool → GH → Prop) (Q : Bool → Hp → Prop) : Prop := ∀ (F' H' : Hp) (G' : GH) (b : Bool), Same F F' → Rl K F' H' G' → P b G' → Q b H'
def LkA (K : PySem.W.Frag) (F : Hp) (P : List PV → GH → Prop) (Q : List V → Hp → Prop) : Prop := ∀ (F' H' : Hp) (G' : GH) (vs : List V) (xs : List PV), Same F F' → Rl K F' H' G' → RepA K F' vs xs → P xs G' → Q vs H'
def LkN (K : PySem.W.Frag) (F : Hp) (P : PEn → GH → Prop) (Q : List (Option V) → Hp → Prop) : Prop := ∀ (F' H' : Hp) (G' : GH) (σ : List (Option V)) (env : PEn), Same F F' → Rl K F' H' G' → Vs K F' σ env → P env G' → Q σ H'
def LkX (K : PySem.W.Frag) (F : Hp) (P : PXK) (W : WX) : Prop := ∀ (F' H' : Hp) (G' : GH) (σ : List (Option V)) (env : PEn) (c : Value), Same F F' → Rl K F' H' G' → Vs K F' σ env → P c env G' → W c none σ H'
structure LkD (K : PySem.W.Frag) (F : Hp) (P : PEnds) (D : Ends) : Prop where
  nx : LkN K F P.nx D.nx
  rt : LkQ K F P.rt D.rt
  bk : LkN K F P.bk D.bk
  ct : LkN K F P.ct D.ct
section
variable {K : PySem.W.Frag} {F F1 : Hp}
theorem LkQ.mono {P : PK1} {Q : VK} (h : LkQ K F P Q) (s : Same F F1) : LkQ K F1 P Q := fun F' H' G' v x s' => h F' H' G' v x (s.trans s')
theorem LkB.mono {P : Bool → GH → Prop} {Q : Bool → Hp → Prop} (h : LkB K F P Q) (s : Same F F1) : LkB K F1 P Q := fun F' H' G' b s' => h F' H' G' b (s.trans s')
theorem LkA.mono {P : List PV → GH → Prop} {Q : List V → Hp → Prop} (h : LkA K F P Q) (s : Same F F1) : LkA K F1 P Q := fun F' H' G' v x s' => h F' H' G' v x (s.trans s')
theorem LkN.mono {P : PEn → GH → Prop} {Q : List (Option V) → Hp → Prop} (h : LkN K F P Q) (s : Same F F1) : LkN K F1 P Q := fun F' H' G' v x s' => h F' H' G' v x (s.trans s')
theorem LkX.mono {P : PXK} {W : WX} (h : LkX K F P W) (s : Same F F1) : LkX K F1 P W := fun F' H' G' v x c s' => h F' H' G' v x c (s.trans s')
theorem LkD.mono {P : PEnds} {D : Ends} (h : LkD K F P D) (s : Same F F1) : LkD K F1 P D := ⟨h.nx.mono s, h.rt.mono s, h.bk.mono s, h.ct.mono s⟩
end

/-! ### judgements -/
structure QE (X : Cx) (e : Expr) (t : PTE) : Prop where
  run : ∀ (W : WX), Takes X W → ∀ (F H : Hp) (G : GH) (σ : List (Option V)) (env : PEn) (P : PK1) (Ex : PXK) (Q : VK), Rl X.K F H G → Vs X.K F σ env → t env G P Ex → LkQ X.K F P Q → LkX X.K F Ex W → WE X e σ H Q
structure QT (X : Cx) (e : Expr) (t : PTT) : Prop where
  run : ∀ (W : WX), Takes X W → ∀ (F H : Hp) (G : GH) (σ : List (Option V)) (env : PEn) (P : Bool → GH → Prop) (Ex : PXK) (Q : Bool → Hp → Prop), Rl X.K F H G → Vs X.K F σ env → t env G P Ex → LkB X.K F P Q → LkX X.K F Ex W → WT X e σ H Q
structure QW (X : Cx) (e : Expr) (t : PTT) : Prop where
  run : ∀ (W : WX), Takes X W → ∀ (F H : Hp) (G : GH) (σ : List (Option V)) (env : PEn) (P : Bool → GH → Prop) (Ex : PXK) (Q : Bool → Hp → Prop), Rl X.K F H G → Vs X.K F σ env → t env G P Ex → LkB X.K F P Q → LkX X.K F Ex W → WW X e σ H Q
structure QA (X : Cx) (es : List Expr) (t : PTA) : Prop where
  run : ∀ (W : WX), Takes X W → ∀ (F H : Hp) (G : GH) (σ : List (Option V)) (env : PEn) (P : List PV → GH → Prop) (Ex : PXK) (Q : List V → Hp → Prop), Rl X.K F H G → Vs X.K F σ env → t env G P Ex → LkA X.K F P Q → LkX X.K F Ex W → WA X es σ H Q
structure QS (X : Cx) (st : Stmt) (t : PTS) : Prop where
  run : ∀ (W : WX), Takes X W → ∀ (F H : Hp) (G : GH) (σ : List (Option V)) (env : PEn) (P : PEnds) (D : Ends), Rl X.K F H G → Vs X.K F σ env → t P env G → LkD X.K F P D → LkX X.K F P.xs W → WS X st D σ H
structure QB (X : Cx) (st : List Stmt) (t : PTS) : Prop where
  run : ∀ (W : WX), Takes X W → ∀ (F H : Hp) (G : GH) (σ : List (Option V)) (env : PEn) (P : PEnds) (D : Ends), Rl X.K F H G → Vs X.K F σ env → t P env G → LkD X.K F P D → LkX X.K F P.xs W → WB X st D σ H
/-- a target that stores in the slots ws alone -/
def LkW (K : PySem.W.Frag) (F : Hp) (ws : List Nat) (σ : List (Option V)) (P : PEn → GH → Prop) (Q : List (Option V) → Hp → Prop) : Prop := ∀ (F' H' : Hp) (G' : GH) (σ' : List (Option V)) (env : PEn), Same F F' → Rl K F' H' G' → Vs K F' σ' env → L2.wipe σ' ws = L2.wipe σ ws → P env G' → Q σ' H'
structure QG (st : Bool) (X : Cx) (ws : List Nat) (target : Expr) (t : PTG) : Prop where
  run : ∀ (W : WX), Takes X W → ∀ (F H : Hp) (G : GH) (σ : List (Option V)) (env : PEn) (v : V) (x : PV) (P : PEn → GH → Prop) (Ex : PXK) (Q : List (Option V) → Hp → Prop), Rl X.K F H G → Vs X.K F σ env → RepB st X.K F v x → t x env G P Ex → LkW X.K F ws σ P Q → LkX X.K F Ex W → WG X target v σ H Q
structure QGs (X : Cx) (ws : List Nat) (ts : List Expr) (t : PTGs) : Prop where
  run : ∀ (W : WX), Takes X W → ∀ (F H : Hp) (G : GH) (σ : List (Option V)) (env : PEn) (vs : List V) (xs : List PV) (P : PEn → GH → Prop) (Ex : PXK) (Q : List (Option V) → Hp → Prop), Rl X.K F H G → Vs X.K F σ env → RepA X.K F vs xs → t xs env G P Ex → LkW X.K F ws σ P Q → LkX X.K F Ex W → WGs X ts vs σ H Q
/-- operations by values -/
def Q1 (X : Cx) (f : V → Hp → VK → Prop) (r : PO1) : Prop := ∀ (F H : Hp) (G : GH) (v : V) (x : PV) (P : PK1) (Q : VK), Rl X.K F H G → Rep X.K F v x → r x G P → LkQ X.K F P Q → f v H Q
def Q2 (X : Cx) (f : R2) (r : PO2) : Prop := ∀ (F H : Hp) (G : GH) (v u : V) (x y : PV) (P : PK1) (Q : VK), Rl X.K F H G → Rep X.K F v x → Rep X.K F u y → r x y G P → LkQ X.K F P Q → f v u H Q
def Qn (X : Cx) (f : List V → Hp → VK → Prop) (r : POn) : Prop := ∀ (F H : Hp) (G : GH) (vs : List V) (xs : List PV) (P : PK1) (Q : VK), Rl X.K F H G → RepA X.K F vs xs → r xs G P → LkQ X.K F P Q → f vs H Q

/-! ### rules: names, constants, operations -/
def pVar (i : Nat) (env : PEn) (G : GH) (P : PK1) (_z3 : PXK) : Prop := match env[i]? with
  | some (some x) => P x G
  | _ => False
def pC (x : PV) (_z0 : PEn) (G : GH) (P : PK1) (_z3 : PXK) : Prop := P x G
def pUn (r : PO1) (ta : PTE) (env : PEn) (G : GH) (P : PK1) (Ex : PXK) : Prop := ta env G (fun x G1 => r x G1 P) Ex
def pOp (r : PO2) (ta tb : PTE) (env : PEn) (G : GH) (P : PK1) (Ex : PXK) : Prop := ta env G (fun x G1 => tb env G1 (fun y G2 => r x y G2 P) Ex) Ex
def pNil (_z0 : PEn) (G : GH) (P : (List PV → GH → Prop)) (_z3 : PXK) : Prop := P [] G
def pCons (ta : PTE) (tr : PTA) (env : PEn) (G : GH) (P : (List PV → GH → Prop)) (Ex : PXK) : Prop := ta env G (fun x G1 => tr env G1 (fun xs G2 => P (x :: xs) G2) Ex) Ex
def pCB (r : POn) (t : PTA) (env : PEn) (G : GH) (P : PK1) (Ex : PXK) : Prop := t env G (fun xs G1 => r xs G1 P) Ex
section
variable {X : Cx} {e a b c : Expr} {es : List Expr} {ta tb tc : PTE} {t : PTA} {pos : Pos}
theorem qe_var (i : Nat) {x : Str} {pos : Pos} (hN : X.N[i]? = some x := by rfl) (hv : Vis X.env.scope x := by first | exact Or.inl rfl | exact Or.inr (Or.inl rfl) | exact Or.inr (Or.inr rfl)) (hd : (x == ("__debug__" : Str)) = false := by decide)
    (hcd : (x == ("__classdict__" : Str)) = false := by decide) : QE X (.Name x pos) (pVar i) := by
  refine ⟨fun W tk F H G σ env P Ex Q hr hv' h lq lx => ?_⟩
  unfold pVar at h
  split at h
  · rename_i x e
    obtain ⟨v, h1, h2⟩ := hv'.get i _ e
    exact we_of (pe_var hN hv hd hcd) ⟨v, h1, lq F H G v x (Same.refl F) hr h2 h⟩
  · exact h.elim
theorem qe_c {v : V} {x : PV} (h : PE X e (tC v)) (r : ∀ F, Rep X.K F v x) : QE X e (pC x) :=
  ⟨fun W tk F H G σ env P Ex Q hr hv h' lq lx => we_of h (lq F H G v x (Same.refl F) hr (r F) h')⟩
theorem qe_int {i : Int} {j pos} : QE X (.Constant (.int i) j pos) (pC (.int i)) := qe_c pe_int fun _ => .int i
theorem qe_bl {i j pos} : QE X (.Constant (.bool i) j pos) (pC (.bl i)) := qe_c pe_bl fun _ => .bl i
theorem qe_non {j pos} : QE X (.Constant .none j pos) (pC .non) := qe_c pe_non fun _ => .non
theorem qe_str {i j pos} : QE X (.Constant (.str i) j pos) (pC (.str i)) := qe_c pe_str fun _ => .str i
theorem qe_un {op : UnaryOp} {r : PO1} (ho : Q1 X (WU X (unaryOp op)) r) (ha : QE X a ta) : QE X (.UnaryOp op a pos) (pUn r ta) := by
  refine ⟨fun W tk F H G σ env P Ex Q hr hv h lq lx => we_of (pe_un un_wu pe_we) ?_⟩
  exact ha.run W tk F H G σ env _ Ex _ hr hv h (fun F1 H1 G1 v x s1 r1 rv h1 => ho F1 H1 G1 v x P Q r1 rv h1 (lq.mono s1)) lx
theorem op2 {f : R2} {r : PO2} {te : TE → TE → TE} (hte : ∀ ta tb, te ta tb = tOp f ta tb) {W : WX} {F H : Hp} {G : GH} {σ : List (Option V)} {env : PEn} {P : PK1} {Ex : PXK} {Q : VK} (ho : Q2 X f r) (ha : QE X a ta) (hb : QE X b tb) (tk : Takes X W)
    (hr : Rl X.K F H G) (hv : Vs X.K F σ env) (h : pOp r ta tb env G P Ex) (lq : LkQ X.K F P Q) (lx : LkX X.K F Ex W) : te (WE X a) (WE X b) σ H Q := by
  rw [hte]
  refine ha.run W tk F H G σ env _ Ex _ hr hv h (fun F1 H1 G1 v x s1 r1 rv h1 => ?_) lx
  refine hb.run W tk F1 H1 G1 σ env _ Ex _ r1 (hv.mono s1) h1 (fun F2 H2 G2 u y s2 r2 ru h2 => ?_) (lx.mono s1)
  exact ho F2 H2 G2 v u x y P Q r2 (Rep.mono s2 _ _ rv) ru h2 ((lq.mono s1).mono s2)
theorem qe_op {op : Operator} {r : PO2} (ho : Q2 X (WO X (binaryOp op)) r) (ha : QE X a ta) (hb : QE X b tb) : QE X (.BinOp a op b pos) (pOp r ta tb) :=
  ⟨fun W tk F H G σ env P Ex Q hr hv h lq lx => we_of (pe_op op_wo pe_we pe_we) (op2 (te := tOp _) (fun _ _ => rfl) ho ha hb tk hr hv h lq lx)⟩
theorem qe_cmp {op : CmpOp} {r : PO2} (ho : Q2 X (WO X (compareOp op)) r) (ha : QE X a ta) (hb : QE X b tb) (hm : behindInMarks op b = false := by first | exact nomark _ | rfl) : QE X (.Compare a [op] [b] pos) (pOp r ta tb) :=
  ⟨fun W tk F H G σ env P Ex Q hr hv h lq lx => we_of (pe_cmpR op_wo pe_we pe_we hm) (op2 (te := tOp _) (fun _ _ => rfl) ho ha hb tk hr hv h lq lx)⟩
theorem qe_ix {r : PO2} (ho : Q2 X (WIx X) r) (ha : QE X a ta) (hb : QE X b tb) (hs : PlainIx b := by exact fun _ _ => rfl) : QE X (.Subscript a b pos) (pOp r ta tb) :=
  ⟨fun W tk F H G σ env P Ex Q hr hv h lq lx => we_of (pe_ix ix_wix pe_we pe_we hs) (op2 (te := tOp _) (fun _ _ => rfl) ho ha hb tk hr hv h lq lx)⟩
theorem qa_nil : QA X [] pNil := ⟨fun W tk F H G σ env P Ex Q hr hv h lq lx => wa_of pa_nil (lq F H G [] [] (Same.refl F) hr .nil h)⟩
theorem qa_cons (ha : QE X e ta) (hs' : QA X es t) (hs : starEach (e :: es) X.env = (false, eval e X.env) :: starEach es X.env := by rfl) : QA X (e :: es) (pCons ta t) := by
  refine ⟨fun W tk F H G σ env P Ex Q hr hv h lq lx => wa_of (pa_cons pe_we pa_wa hs) ?_⟩
  refine ha.run W tk F H G σ env _ Ex _ hr hv h (fun F1 H1 G1 v x s1 r1 rv h1 => ?_) lx
  refine hs'.run W tk F1 H1 G1 σ env _ Ex _ r1 (hv.mono s1) h1 (fun F2 H2 G2 vs xs s2 r2 rvs h2 => ?_) (lx.mono s1)
  exact lq F2 H2 G2 _ _ (s1.trans s2) r2 (.cons (Rep.mono s2 _ _ rv) rvs) h2
/-- a tuple; a list, frozen or owned -/
def pTup (t : PTA) (env : PEn) (G : GH) (P : PK1) (Ex : PXK) : Prop := t env G (fun xs G1 => xs.length ≤ sizeLine ∧ P (.tup xs) G1) Ex
def pLst (t : PTA) (env : PEn) (G : GH) (P : PK1) (Ex : PXK) : Prop := t env G (fun xs G1 => xs.length ≤ sizeLine ∧ P (.lst xs) G1) Ex
def pOwn (t : PTA) (env : PEn) (G : GH) (P : PK1) (Ex : PXK) : Prop := t env G (fun xs G1 => xs.length ≤ sizeLine ∧ ∀ p, G1 p = none → P (.ref p) (gset G1 p (.lst xs))) Ex
theorem qe_tup {x1} (h : QA X es t) : QE X (.Tuple es x1 pos) (pTup t) := by
  refine ⟨fun W tk F H G σ env P Ex Q hr hv h' lq lx => we_of (pe_tupN pa_wa) ?_⟩
  refine h.run W tk F H G σ env _ Ex _ hr hv h' (fun F1 H1 G1 vs xs s1 r1 rvs h1 => ?_) lx
  refine ⟨by rw [rvs.length]; exact h1.1, fun p o hp hd => ?_⟩
  have n := r1.sub.free hp
  exact lq _ _ _ _ _ (s1.trans (Same.new n)) (r1.froze hp) (.tup (TupOk.new hd) (RepA.mono (Same.new n) _ _ rvs)) h1.2
theorem qe_lst (h : QA X es t) : QE X (.List es pos) (pLst t) := by
  refine ⟨fun W tk F H G σ env P Ex Q hr hv h' lq lx => we_of (pe_lst pa_wa) ?_⟩
  refine h.run W tk F H G σ env _ Ex _ hr hv h' (fun F1 H1 G1 vs xs s1 r1 rvs h1 => ?_) lx
  refine ⟨by rw [rvs.length]; exact h1.1, fun p hp => ?_⟩
  have n := r1.sub.free hp
  exact lq _ _ _ _ _ (s1.trans (Same.new n)) (r1.froze hp) (.lst upd_same (RepA.mono (Same.new n) _ _ rvs)) h1.2
theorem qe_own (h : QA X es t) : QE X (.List es pos) (pOwn t) := by
  refine ⟨fun W tk F H G σ env P Ex Q hr hv h' lq lx => we_of (pe_lst pa_wa) ?_⟩
  refine h.run W tk F H G σ env _ Ex _ hr hv h' (fun F1 H1 G1 vs xs s1 r1 rvs h1 => ?_) lx
  refine ⟨by rw [rvs.length]; exact h1.1, fun p hp => ?_⟩
  have n := r1.sub.free hp
  exact lq _ _ _ _ _ s1 (r1.owned (g := .lst xs) n ⟨vs, upd_same, rvs⟩) (.ref p) (h1.2 p (r1.free hp))
/-- an owned list becomes a value -/
def pFrz (t : PTE) (env : PEn) (G : GH) (P : PK1) (Ex : PXK) : Prop := t env G (fun x G1 => match x with
  | .ref a => match G1 a with
    | some (.lst xs) => P (.lst xs) (gdel G1 a)
    | _ => False
  | _ => False) Ex
theorem qe_frz (h : QE X e ta) : QE X e (pFrz ta) := by
  refine ⟨fun W tk F H G σ env P Ex Q hr hv h' lq lx => ?_⟩
  refine h.run W tk F H G σ env _ Ex _ hr hv h' (fun F1 H1 G1 v x s1 r1 rv h1 => ?_) lx
  cases x with
  | ref a =>
    dsimp only at h1
    split at h1
    · rename_i xs e
      cases rv
      obtain ⟨F2, s2, r2, rep⟩ := r1.freeze e
      exact lq F2 H1 _ _ _ (s1.trans s2) r2 rep h1
    · exact h1.elim
  | _ => exact h1.elim
/-- f(e, ..), f a built-in function; a built-in class -/
theorem qe_callB {id : String} {r : POn} {x : Str} {p : Pos} (ho : Qn X (WC X (.builtin id)) r) (hg : Gl X x) (hm : X.mg x = none) (hv : bootBuiltins x = some (.builtin id)) (ha : QA X (e :: es) t) (hn : x ≠ "__name__" := by decide) (hdb : (x == ("__debug__" : Str)) = false := by decide)
    (he : starEach (e :: es) X.env = (false, eval e X.env) :: starEach es X.env := by rfl) (hpl : (backTo pos (starEach es X.env)).any (·.1) = false := by rfl) : QE X (.Call (.Name x p) (e :: es) [] pos) (pCB r t) := by
  refine ⟨fun W tk F H G σ env P Ex Q hr hv' h lq lx => we_of (pe_callB cr_wc hg hm hv pa_wa hn hdb he hpl) ?_⟩
  exact ha.run W tk F H G σ env _ Ex _ hr hv' h (fun F1 H1 G1 vs xs s1 r1 rvs h1 => ho F1 H1 G1 vs xs P Q r1 rvs h1 (lq.mono s1)) lx
theorem qe_callT {T : String} {r : POn} {x : Str} {p : Pos} (ho : Qn X (WC X (.type T)) r) (hg : Gl X x) (hm : X.mg x = none) (hv : bootBuiltins x = some (.type T)) (ha : QA X (e :: es) t) (hn : x ≠ "__name__" := by decide) (hdb : (x == ("__debug__" : Str)) = false := by decide)
    (he : starEach (e :: es) X.env = (false, eval e X.env) :: starEach es X.env := by rfl) (hpl : (backTo pos (starEach es X.env)).any (·.1) = false := by rfl) : QE X (.Call (.Name x p) (e :: es) [] pos) (pCB r t) := by
  refine ⟨fun W tk F H G σ env P Ex Q hr hv' h lq lx => we_of (pe_callTy cr_wc hg hm hv pa_wa hn hdb he hpl) ?_⟩
  exact ha.run W tk F H G σ env _ Ex _ hr hv' h (fun F1 H1 G1 vs xs s1 r1 rvs h1 => ho F1 H1 G1 vs xs P Q r1 rvs h1 (lq.mono s1)) lx
end

/-! ### tests -/
def pTb (t : PTE) (env : PEn) (G : GH) (P : (Bool → GH → Prop)) (Ex : PXK) : Prop := t env G (fun x G1 => match x with
  | .bl b => P b G1
  | _ => False) Ex
def pAnd (t u : PTT) (env : PEn) (G : GH) (P : (Bool → GH → Prop)) (Ex : PXK) : Prop := t env G (fun c G1 => if c = true then u env G1 P Ex else P false G1) Ex
def pOr (t u : PTT) (env : PEn) (G : GH) (P : (Bool → GH → Prop)) (Ex : PXK) : Prop := t env G (fun c G1 => if c = true then P true G1 else u env G1 P Ex) Ex
def pNot (t : PTT) (env : PEn) (G : GH) (P : (Bool → GH → Prop)) (Ex : PXK) : Prop := t env G (fun c G1 => P (!c) G1) Ex
def pAndV (ta tb : PTE) (env : PEn) (G : GH) (P : PK1) (Ex : PXK) : Prop := ta env G (fun x G1 => match x with
  | .bl c => if c = true then tb env G1 P Ex else P (.bl false) G1
  | _ => False) Ex
def pOrV (ta tb : PTE) (env : PEn) (G : GH) (P : PK1) (Ex : PXK) : Prop := ta env G (fun x G1 => match x with
  | .bl c => if c = true then P (.bl true) G1 else tb env G1 P Ex
  | _ => False) Ex
def pNotV (ta : PTE) (env : PEn) (G : GH) (P : PK1) (Ex : PXK) : Prop := ta env G (fun x G1 => match x with
  | .bl c => P (.bl (!c)) G1
  | _ => False) Ex
def pIfE (t : PTT) (ta tb : PTE) (env : PEn) (G : GH) (P : PK1) (Ex : PXK) : Prop := t env G (fun c G1 => if c = true then ta env G1 P Ex else tb env G1 P Ex) Ex
def pChain (r r' : PO2) (ta tb tc : PTE) (env : PEn) (G : GH) (P : PK1) (Ex : PXK) : Prop := ta env G (fun x G1 => tb env G1 (fun y G2 => r x y G2 (fun z G3 => match z with
  | .bl k => if k = true then tc env G3 (fun u G4 => r' y u G4 P) Ex else P (.bl false) G3
  | _ => False)) Ex) Ex
section
variable {X : Cx} {e a b c : Expr} {rest : List Expr} {ta tb tc : PTE} {t u : PTT} {pos : Pos}
/-- a bool's value, by its link -/
theorem lk_b {K : PySem.W.Frag} {F : Hp} {P : Bool → GH → Prop} {Q : Bool → Hp → Prop} (lq : LkB K F P Q) : LkQ K F (fun x G1 => match x with | .bl b => P b G1 | _ => False) (fun v H1 => ∃ k, v = .bl k ∧ Q k H1) := fun F' H' G' v x s r rv h => by
  cases x with
  | bl b => cases rv; exact ⟨b, rfl, lq F' H' G' b s r h⟩
  | _ => exact h.elim
theorem qt_val (h : QE X e ta) (he : ∀ whole, isTrue e X.env whole = (do let v ← whole; standAt e.pos; holding [v] (truthy v)) := by intro _; rfl) : QT X e (pTb ta) :=
  ⟨fun W tk F H G σ env P Ex Q hr hv h' lq lx => wt_of (pt_val pe_we he) (h.run W tk F H G σ env _ Ex _ hr hv h' (lk_b lq) lx)⟩
theorem qt_cmp {op : CmpOp} {r : PO2} (ho : Q2 X (WO X (compareOp op)) r) (ha : QE X a ta) (hb : QE X b tb) (hm : behindInMarks op b = false := by first | exact nomark _ | rfl) : QT X (.Compare a [op] [b] pos) (pTb (pOp r ta tb)) :=
  ⟨fun W tk F H G σ env P Ex Q hr hv h lq lx => wt_of (pt_cmpR op_wo pe_we pe_we hm) (op2 (te := tOp _) (fun _ _ => rfl) ho ha hb tk hr hv h (lk_b lq) lx)⟩
theorem qw_and1 (ha : QT X a t) : QW X (.BoolOp .And [a] pos) t :=
  ⟨fun W tk F H G σ env P Ex Q hr hv h lq lx => ww_of (pw_and1 pt_wt) (ha.run W tk F H G σ env P Ex Q hr hv h lq lx)⟩
theorem qw_or1 (ha : QT X a t) : QW X (.BoolOp .Or [a] pos) t :=
  ⟨fun W tk F H G σ env P Ex Q hr hv h lq lx => ww_of (pw_or1 pt_wt) (ha.run W tk F H G σ env P Ex Q hr hv h lq lx)⟩
theorem qw_and (ha : QT X a t) (hb : QW X (.BoolOp .And (b :: rest) pos) u) : QW X (.BoolOp .And (a :: b :: rest) pos) (pAnd t u) := by
  refine ⟨fun W tk F H G σ env P Ex Q hr hv h lq lx => ww_of (pw_and pt_wt pw_ww) ?_⟩
  refine ha.run W tk F H G σ env _ Ex _ hr hv h (fun F1 H1 G1 c s1 r1 h1 => ?_) lx
  cases c with
  | true => exact hb.run W tk F1 H1 G1 σ env P Ex Q r1 (hv.mono s1) h1 (lq.mono s1) (lx.mono s1)
  | false => exact lq F1 H1 G1 false s1 r1 h1
theorem qw_or (ha : QT X a t) (hb : QW X (.BoolOp .Or (b :: rest) pos) u) : QW X (.BoolOp .Or (a :: b :: rest) pos) (pOr t u) := by
  refine ⟨fun W tk F H G σ env P Ex Q hr hv h lq lx => ww_of (pw_or pt_wt pw_ww) ?_⟩
  refine ha.run W tk F H G σ env _ Ex _ hr hv h (fun F1 H1 G1 c s1 r1 h1 => ?_) lx
  cases c with
  | false => exact hb.run W tk F1 H1 G1 σ env P Ex Q r1 (hv.mono s1) h1 (lq.mono s1) (lx.mono s1)
  | true => exact lq F1 H1 G1 true s1 r1 h1
theorem qt_w (h : QW X e t) : QT X e t :=
  ⟨fun W tk F H G σ env P Ex Q hr hv h' lq lx => wt_of (PW.pt pw_ww) (h.run W tk F H G σ env P Ex Q hr hv h' lq lx)⟩
theorem qt_not (ha : QT X a t) : QT X (.UnaryOp .Not a pos) (pNot t) :=
  ⟨fun W tk F H G σ env P Ex Q hr hv h lq lx => wt_of (pt_not pt_wt) (ha.run W tk F H G σ env _ Ex _ hr hv h (fun F1 H1 G1 c s1 r1 h1 => lq F1 H1 G1 (!c) s1 r1 h1) lx)⟩
theorem qe_one {op : BoolOp} (h : QE X a ta) : QE X (.BoolOp op [a] pos) ta :=
  ⟨fun W tk F H G σ env P Ex Q hr hv h' lq lx => we_of (pe_one pe_we) (h.run W tk F H G σ env P Ex Q hr hv h' lq lx)⟩
theorem qe_and (ha : QE X a ta) (hb : QE X (.BoolOp .And (b :: rest) pos) tb) : QE X (.BoolOp .And (a :: b :: rest) pos) (pAndV ta tb) := by
  refine ⟨fun W tk F H G σ env P Ex Q hr hv h lq lx => we_of (pe_and pe_we pe_we) ?_⟩
  refine ha.run W tk F H G σ env _ Ex _ hr hv h (fun F1 H1 G1 v x s1 r1 rv h1 => ?_) lx
  cases x with
  | bl c =>
    cases rv
    refine ⟨c, rfl, ?_⟩
    cases c with
    | true => exact hb.run W tk F1 H1 G1 σ env P Ex Q r1 (hv.mono s1) h1 (lq.mono s1) (lx.mono s1)
    | false => exact lq F1 H1 G1 _ _ s1 r1 (.bl false) h1
  | _ => exact h1.elim
theorem qe_or (ha : QE X a ta) (hb : QE X (.BoolOp .Or (b :: rest) pos) tb) : QE X (.BoolOp .Or (a :: b :: rest) pos) (pOrV ta tb) := by
  refine ⟨fun W tk F H G σ env P Ex Q hr hv h lq lx => we_of (pe_or pe_we pe_we) ?_⟩
  refine ha.run W tk F H G σ env _ Ex _ hr hv h (fun F1 H1 G1 v x s1 r1 rv h1 => ?_) lx
  cases x with
  | bl c =>
    cases rv
    refine ⟨c, rfl, ?_⟩
    cases c with
    | false => exact hb.run W tk F1 H1 G1 σ env P Ex Q r1 (hv.mono s1) h1 (lq.mono s1) (lx.mono s1)
    | true => exact lq F1 H1 G1 _ _ s1 r1 (.bl true) h1
  | _ => exact h1.elim
theorem qe_not (ha : QE X a ta) : QE X (.UnaryOp .Not a pos) (pNotV ta) := by
  refine ⟨fun W tk F H G σ env P Ex Q hr hv h lq lx => we_of (pe_not pe_we) ?_⟩
  refine ha.run W tk F H G σ env _ Ex _ hr hv h (fun F1 H1 G1 v x s1 r1 rv h1 => ?_) lx
  cases x with
  | bl c =>
    cases rv
    exact ⟨c, rfl, lq F1 H1 G1 _ _ s1 r1 (.bl (!c)) h1⟩
  | _ => exact h1.elim
theorem qe_ife (hc : QT X c t) (ha : QE X a ta) (hb : QE X b tb) : QE X (.IfExp c a b pos) (pIfE t ta tb) := by
  refine ⟨fun W tk F H G σ env P Ex Q hr hv h lq lx => we_of (pe_ifExp pt_wt pe_we pe_we) ?_⟩
  refine hc.run W tk F H G σ env _ Ex _ hr hv h (fun F1 H1 G1 c s1 r1 h1 => ?_) lx
  cases c with
  | true => exact ha.run W tk F1 H1 G1 σ env P Ex Q r1 (hv.mono s1) h1 (lq.mono s1) (lx.mono s1)
  | false => exact hb.run W tk F1 H1 G1 σ env P Ex Q r1 (hv.mono s1) h1 (lq.mono s1) (lx.mono s1)
theorem chain2 {op op' : CmpOp} {r r' : PO2} (ho : Q2 X (WO X (compareOp op)) r) (ho' : Q2 X (WO X (compareOp op')) r') (ha : QE X a ta) (hb : QE X b tb) (hc : QE X c tc) {W : WX} {F H : Hp} {G : GH} {σ : List (Option V)} {env : PEn} {P : PK1} {Ex : PXK} {Q : VK} (tk : Takes X W)
    (hr : Rl X.K F H G) (hv : Vs X.K F σ env) (h : pChain r r' ta tb tc env G P Ex) (lq : LkQ X.K F P Q) (lx : LkX X.K F Ex W) : tChain (WO X (compareOp op)) (WO X (compareOp op')) (WE X a) (WE X b) (WE X c) σ H Q := by
  refine ha.run W tk F H G σ env _ Ex _ hr hv h (fun F1 H1 G1 v x s1 r1 rv h1 => ?_) lx
  refine hb.run W tk F1 H1 G1 σ env _ Ex _ r1 (hv.mono s1) h1 (fun F2 H2 G2 u y s2 r2 ru h2 => ?_) (lx.mono s1)
  refine ho F2 H2 G2 v u x y _ _ r2 (Rep.mono s2 _ _ rv) ru h2 fun F3 H3 G3 z zz s3 r3 rz h3 => ?_
  have s13 := (s1.trans s2).trans s3
  cases zz with
  | bl k =>
    cases rz
    refine ⟨k, rfl, ?_⟩
    cases k with
    | false => exact lq F3 H3 G3 _ _ s13 r3 (.bl false) h3
    | true => exact hc.run W tk F3 H3 G3 σ env _ Ex _ r3 (hv.mono s13) h3 (fun F4 H4 G4 w2 z2 s4 r4 rw2 h4 => ho' F4 H4 G4 u w2 y z2 P Q r4 (Rep.mono (s3.trans s4) _ _ ru) rw2 h4 (lq.mono (s13.trans s4))) (lx.mono s13)
  | _ => exact h3.elim
theorem qe_chain {op op' : CmpOp} {r r' : PO2} (ho : Q2 X (WO X (compareOp op)) r) (ho' : Q2 X (WO X (compareOp op')) r') (ha : QE X a ta) (hb : QE X b tb) (hc : QE X c tc) (hm : lastMarks [op, op'] [b, c] = false := by with_unfolding_all rfl) :
    QE X (.Compare a [op, op'] [b, c] pos) (pChain r r' ta tb tc) :=
  ⟨fun W tk F H G σ env P Ex Q hr hv h lq lx => we_of (pe_chain op_wo op_wo pe_we pe_we pe_we hm) (chain2 ho ho' ha hb hc tk hr hv h lq lx)⟩
theorem qt_chain {op op' : CmpOp} {r r' : PO2} (ho : Q2 X (WO X (compareOp op)) r) (ho' : Q2 X (WO X (compareOp op')) r') (ha : QE X a ta) (hb : QE X b tb) (hc : QE X c tc) (hm : lastMarks [op, op'] [b, c] = false := by with_unfolding_all rfl) :
    QT X (.Compare a [op, op'] [b, c] pos) (pTb (pChain r r' ta tb tc)) :=
  ⟨fun W tk F H G σ env P Ex Q hr hv h lq lx => wt_of (pt_chain op_wo op_wo pe_we pe_we pe_we hm) (chain2 ho ho' ha hb hc tk hr hv h (lk_b lq) lx)⟩
end
end PL
end

section
/-! PStmt: statements, targets, loops, comprehensions, defs and their calls. -/
namespace PL
open PySem PySem.Spec PyProof.Rows L2

/-! ### blocks -/
def pNext (D : PEnds) (env : PEn) (G : GH) : Prop := D.nx env G
def pSeq (t u : PTS) (D : PEnds) (env : PEn) (G : GH) : Prop := t { D with nx := u D } env G
def pDrop (t : PTE) (D : PEnds) (env : PEn) (G : GH) : Prop := t env G (fun _ G1 => D.nx env G1) D.xs
def pRet (t : PTE) (D : PEnds) (env : PEn) (G : GH) : Prop := t env G D.rt D.xs
def pRetN (D : PEnds) (_z1 : PEn) (G : GH) : Prop := D.rt .non G
def pIf (c : PTT) (t u : PTS) (D : PEnds) (env : PEn) (G : GH) : Prop := c env G (fun b G1 => if b = true then t D env G1 else u D env G1) D.xs
def pSet (i : Nat) (t : PTE) (D : PEnds) (env : PEn) (G : GH) : Prop := t env G (fun x G1 => D.nx (env.set i (some x)) G1) D.xs
def pAsg (t : PTE) (g : PTG) (D : PEnds) (env : PEn) (G : GH) : Prop := t env G (fun x G1 => g x env G1 D.nx D.xs) D.xs
section
variable {X : Cx} {e a b c : Expr} {st : Stmt} {sts rest : List Stmt} {te ta tb : PTE} {t u : PTS} {tc : PTT} {g : PTG} {pos : Pos}
theorem qb_nil : QB X [] pNext := ⟨fun W tk F H G σ env P D hr hv h ld lx => wb_of pss_nil (ld.nx F H G σ env (Same.refl F) hr hv h)⟩
theorem qb_cons (h1 : QS X st t) (h2 : QB X rest u) : QB X (st :: rest) (pSeq t u) := by
  refine ⟨fun W tk F H G σ env P D hr hv h ld lx => wb_of (pss_cons ps_ws ps_wb) ?_⟩
  exact h1.run W tk F H G σ env _ _ hr hv h ⟨fun F' H' G' σ' env' s r v q => h2.run W tk F' H' G' σ' env' P D r v q (ld.mono s) (lx.mono s), ld.rt, ld.bk, ld.ct⟩ lx
theorem qb_one (h1 : QS X st t) : QB X [st] t :=
  ⟨fun W tk F H G σ env P D hr hv h ld lx => wb_of (pss_one ps_ws) (h1.run W tk F H G σ env P D hr hv h ld lx)⟩
theorem qs_pass : QS X (.Pass pos) pNext := ⟨fun W tk F H G σ env P D hr hv h ld lx => ws_of ps_pass (ld.nx F H G σ env (Same.refl F) hr hv h)⟩
theorem qs_doc {x j pos pos'} : QS X (.Expr (.Constant (.str x) j pos) pos') pNext := ⟨fun W tk F H G σ env P D hr hv h ld lx => ws_of ps_doc (ld.nx F H G σ env (Same.refl F) hr hv h)⟩
theorem qs_expr (he : QE X e te) (hs : swapsWith e none pos.line X.env = pure false := by rfl) : QS X (.Expr e pos) (pDrop te) :=
  ⟨fun W tk F H G σ env P D hr hv h ld lx => ws_of (ps_expr pe_we hs) (he.run W tk F H G σ env _ _ _ hr hv h (fun F' H' G' v x s r rv q => ld.nx F' H' G' σ env s r (hv.mono s) q) lx)⟩
theorem qs_ret (he : QE X e te) : QS X (.Return (some e) pos) (pRet te) :=
  ⟨fun W tk F H G σ env P D hr hv h ld lx => ws_of (ps_ret pe_we) (he.run W tk F H G σ env _ _ _ hr hv h ld.rt lx)⟩
theorem qs_retN : QS X (.Return none pos) pRetN := ⟨fun W tk F H G σ env P D hr hv h ld lx => ws_of ps_retN (ld.rt F H G .non .non (Same.refl F) hr .non h)⟩
theorem qs_if {ss tt : List Stmt} (hc : QT X c tc) (ha : QB X ss t) (hb : QB X tt u) : QS X (.If c ss tt pos) (pIf tc t u) := by
  refine ⟨fun W tk F H G σ env P D hr hv h ld lx => ws_of (ps_if pt_wt ps_wb ps_wb) ?_⟩
  refine hc.run W tk F H G σ env _ _ _ hr hv h (fun F1 H1 G1 b s1 r1 h1 => ?_) lx
  cases b with
  | true => exact ha.run W tk F1 H1 G1 σ env P D r1 (hv.mono s1) h1 (ld.mono s1) (lx.mono s1)
  | false => exact hb.run W tk F1 H1 G1 σ env P D r1 (hv.mono s1) h1 (ld.mono s1) (lx.mono s1)

/-! ### targets -/
def pgName (i : Nat) (x : PV) (env : PEn) (G : GH) (P : (PEn → GH → Prop)) (_z4 : PXK) : Prop := P (env.set i (some x)) G
def pgNil (xs : (List PV)) (env : PEn) (G : GH) (P : (PEn → GH → Prop)) (_z4 : PXK) : Prop := match xs with
  | [] => P env G
  | _ => False
def pgCons (t : PTG) (u : PTGs) (xs : (List PV)) (env : PEn) (G : GH) (P : (PEn → GH → Prop)) (Ex : PXK) : Prop := match xs with
  | x :: r => t x env G (fun env' G' => u r env' G' P Ex) Ex
  | _ => False
def pgTup (n : Nat) (t : PTGs) (x : PV) (env : PEn) (G : GH) (P : (PEn → GH → Prop)) (Ex : PXK) : Prop := match x with
  | .tup xs => xs.length = n ∧ t xs env G P Ex
  | _ => False
/-- o[i] = x, by values -/
abbrev PO3 := PV → PV → PV → GH → (GH → Prop) → Prop
def Q3 (X : Cx) (f : TSet) (r : PO3) : Prop := ∀ (F H : Hp) (G : GH) (o i v : V) (po pi px : PV) (P : GH → Prop) (Q : Hp → Prop), Rl X.K F H G → Rep X.K F o po → Rep X.K F i pi → Rep X.K F v px → r po pi px G P → (∀ F' H' G', Same F F' → Rl X.K F' H' G' → P G' → Q H') → f o i v H Q
def pgSub (r : PO3) (to ti : PTE) (x : PV) (env : PEn) (G : GH) (P : (PEn → GH → Prop)) (Ex : PXK) : Prop := to env G (fun o G1 => ti env G1 (fun i G2 => r o i x G2 (fun G3 => P env G3)) Ex) Ex
variable {es : List Expr} {tg' : PTGs}
theorem wipe_get (σ : List (Option V)) (j : Nat) : ∀ ws : List Nat, (L2.wipe σ ws)[j]? = if j ∈ ws then (σ[j]?).map (fun _ => none) else σ[j]?
  | [] => by simp [L2.wipe]
  | w :: ws => by
    have ih := wipe_get σ j ws
    unfold L2.wipe
    by_cases e : w = j
    · subst e
      rw [if_pos List.mem_cons_self, List.getElem?_set_self']
      rw [ih]
      split <;> cases σ[w]? <;> rfl
    · rw [List.getElem?_set_ne e, ih]
      by_cases m : j ∈ ws
      · rw [if_pos m, if_pos (List.mem_cons_of_mem _ m)]
      · rw [if_neg m, if_neg (by simp only [List.mem_cons, not_or]; exact ⟨fun z => e z.symm, m⟩)]
theorem wipe_set {σ : List (Option V)} {i : Nat} {x : Option V} {ws : List Nat} (h : i ∈ ws) : L2.wipe (σ.set i x) ws = L2.wipe σ ws := by
  apply List.ext_getElem?
  intro j
  rw [wipe_get, wipe_get]
  by_cases e : i = j
  · subst e
    rw [if_pos h, if_pos h, List.getElem?_set_self']
    cases σ[i]? <;> rfl
  · rw [List.getElem?_set_ne e]
theorem qg_name {i : Nat} {x : Str} {ws : List Nat} (hN : X.N.Nodup) (hi : X.N[i]? = some x) (hx : Loc X.env.scope x) (hf : X.fn x = true ∨ X.env.scope.names.lookup x = some .local := by first | exact .inl rfl | exact .inr rfl | assumption) (hw : i ∈ ws := by decide) : QG true X ws (.Name x pos) (pgName i) :=
  ⟨fun W tk F H G σ env v x P Ex Q hr hv rv h lq lx => wg_of (pg_name hN hi hx hf) (lq F H G _ _ (Same.refl F) hr (hv.set rv.strong) (wipe_set hw) h)⟩
theorem qgs_nil {ws : List Nat} : QGs X ws [] pgNil := by
  refine ⟨fun W tk F H G σ env vs xs P Ex Q hr hv rv h lq lx => wgs_of pgs_nil ?_⟩
  cases rv with
  | nil => exact ⟨rfl, lq F H G _ _ (Same.refl F) hr hv rfl h⟩
  | cons _ _ => exact h.elim
theorem qgs_cons {ws : List Nat} (h1 : QG true X ws e g) (h2 : QGs X ws es tg') (hs : (assignEach (e :: es) X.env).map (·.2) = assign e X.env :: (assignEach es X.env).map (·.2) := by rfl) : QGs X ws (e :: es) (pgCons g tg') := by
  refine ⟨fun W tk F H G σ env vs xs P Ex Q hr hv rv h lq lx => wgs_of (pgs_cons pg_wg pg_wgs hs) ?_⟩
  cases rv with
  | nil => exact h.elim
  | cons r1 r2 =>
    refine ⟨_, _, rfl, ?_⟩
    exact h1.run W tk F H G σ env _ _ _ Ex _ hr hv (.inl r1) h (fun F' H' G' σ' env' s r v z q => h2.run W tk F' H' G' σ' env' _ _ P Ex Q r v (RepA.mono s _ _ r2) q (fun F2 H2 G2 σ2 env2 s2 r2 v2 z2 => lq F2 H2 G2 σ2 env2 (s.trans s2) r2 v2 (z2.trans z)) (lx.mono s)) lx
theorem qg_tup {sb : Bool} {k n : Nat} {ws : List Nat} (hc : X.calm = true) (h : QGs X ws es tg') (hn : (assignEach es X.env).length = n := by rfl) (hst : (assignEach es X.env).findIdx? (·.1) = none := by rfl) : QG sb X ws (.Tuple es k pos) (pgTup n tg') := by
  refine ⟨fun W tk F H G σ env v x P Ex Q hr hv rv hh lq lx => wg_of (pg_tup hc pg_wgs hn hst) ?_⟩
  cases x with
  | tup xs =>
    obtain ⟨a, vs, rfl, hq, ha⟩ := rv.tup
    refine ⟨_, _, rfl, Same.tupT hr.sub hq, by rw [ha.length]; exact hh.1, ?_⟩
    exact h.run W tk F H G σ env _ _ P Ex Q hr hv ha hh.2 lq lx
  | _ => exact hh.elim
theorem qg_sub {o i : Expr} {to ti : PTE} {r : PO3} {ws : List Nat} (ho : QE X o to) (hi : QE X i ti) (hs : Q3 X (WSet X) r)
    (ha : ∀ v, assign (.Subscript o i pos) X.env v = (do
      let ov ← holding [v] (eval o X.env)
      let iv ← holding [v, ov] (eval i X.env)
      standAt pos
      holding [v, ov, iv] (setItem ov iv v)
      release [v, ov, iv] []) := by intro _; rfl) : QG true X ws (.Subscript o i pos) (pgSub r to ti) := by
  refine ⟨fun W tk F H G σ env v x P Ex Q hr hv rv hh lq lx => wg_of (pg_sub pe_we pe_we set_wset ha) ?_⟩
  refine ho.run W tk F H G σ env _ Ex _ hr hv hh (fun F1 H1 G1 ov ox s1 r1 ro h1 => ?_) lx
  refine hi.run W tk F1 H1 G1 σ env _ Ex _ r1 (hv.mono s1) h1 (fun F2 H2 G2 iv ix s2 r2 ri h2 => ?_) (lx.mono s1)
  exact hs F2 H2 G2 ov iv v ox ix x _ _ r2 (Rep.mono s2 _ _ ro) ri (Rep.mono (s1.trans s2) _ _ rv.strong) h2 fun F3 H3 G3 s3 r3 h3 => lq F3 H3 G3 σ env ((s1.trans s2).trans s3) r3 (hv.mono ((s1.trans s2).trans s3)) rfl h3
theorem qs_asg {tg : Expr} {ws : List Nat} (he : QE X e te) (hg : QG true X ws tg g) (hs : swapsWithSole [tg] e pos.line X.env = pure false := by rfl) (hw : swappedStores [tg] e X.env = pure none := by rfl)
    (h1 : (assignEach [tg] X.env).map (·.2) = [assign tg X.env] := by rfl) : QS X (.Assign [tg] e pos) (pAsg te g) := by
  refine ⟨fun W tk F H G σ env P D hr hv h ld lx => ws_of (ps_asg pe_we pg_wg hs hw h1) ?_⟩
  exact he.run W tk F H G σ env _ _ _ hr hv h (fun F1 H1 G1 v x s1 r1 rv h1 => hg.run W tk F1 H1 G1 σ env v x _ _ _ r1 (hv.mono s1) (.inl rv) h1 (fun F2 H2 G2 σ2 env2 s2 r2 v2 _ => ld.nx F2 H2 G2 σ2 env2 (s1.trans s2) r2 v2) (lx.mono s1)) lx
theorem qs_set {i : Nat} {x : Str} {pos' : Pos} (hN : X.N.Nodup) (hi : X.N[i]? = some x) (hx : Loc X.env.scope x) (he : QE X e te) (hs : swapsWith e (some (.Name x pos')) pos.line X.env = pure false := by rfl) (hf : X.fn x = true ∨ X.env.scope.names.lookup x = some .local := by first | exact .inl rfl | exact .inr rfl | assumption) :
    QS X (.Assign [.Name x pos'] e pos) (pSet i te) := by
  refine ⟨fun W tk F H G σ env P D hr hv h ld lx => ws_of (ps_set hN hi hx pe_we hs hf) ?_⟩
  exact he.run W tk F H G σ env _ _ _ hr hv h (fun F1 H1 G1 v x s1 r1 rv h1 => ld.nx F1 H1 G1 _ _ s1 r1 ((hv.mono s1).set rv) h1) lx
/-- a, b = x, y -/
def pPar (i j : Nat) (ta : PTA) (D : PEnds) (env : PEn) (G : GH) : Prop := ta env G (fun xs G1 => match xs with
  | [x, y] => D.nx ((env.set i (some x)).set j (some y)) G1
  | _ => False) D.xs
theorem qs_par {i j : Nat} {x y : Str} {ta : PTA} {px py pt : Pos} {kt k2 pt2} (hc : X.calm = true) (hN : X.N.Nodup) (hi : X.N[i]? = some x) (hj : X.N[j]? = some y) (hij : i ≠ j)
    (hx : X.env.scope.names.lookup x = some .local) (hy : X.env.scope.names.lookup y = some .local) (ha : QA X [a, b] ta)
    (hw : swappedStores [.Tuple [.Name x px, .Name y py] kt pt] (.Tuple [a, b] k2 pt2) X.env = pure (some [x, y]))
    (hs : swapsWithSole [.Tuple [.Name x px, .Name y py] kt pt] (.Tuple [a, b] k2 pt2) pos.line X.env = pure false := by rfl) :
    QS X (.Assign [.Tuple [.Name x px, .Name y py] kt pt] (.Tuple [a, b] k2 pt2) pos) (pPar i j ta) := by
  refine ⟨fun W tk F H G σ env P D hr hv h ld lx => ws_of (ps_par hc hN hi hj hij hx hy pa_wa hw hs) ?_⟩
  refine ha.run W tk F H G σ env _ _ _ hr hv h (fun F1 H1 G1 vs xs s1 r1 rvs h1 => ?_) lx
  match xs, rvs, h1 with
  | [p, q], .cons ra (.cons rb .nil), h1 => exact ⟨_, _, rfl, ld.nx F1 H1 G1 _ _ s1 r1 (((hv.mono s1).set ra).set rb) h1⟩
end
end PL
end

section
/-! PLoop: what is walked, for, while, comprehensions, defs and their calls. -/
namespace PL
open PySem PySem.Spec PyProof.Rows L2

structure PIt where
  item : Nat → GH → PV → Prop
  done : Nat → GH → Prop
def itL (xs : List PV) : PIt := ⟨fun i _ x => xs[i]? = some x, fun i _ => xs.length ≤ i⟩
def itO (a : Addr) : PIt := ⟨fun i G x => ∃ xs, G a = some (.lst xs) ∧ xs[i]? = some x, fun i G => ∃ xs, G a = some (.lst xs) ∧ xs.length ≤ i⟩
def itR (lo : Int) (n : Nat) : PIt := ⟨fun i _ x => i < n ∧ x = .int (lo + i), fun i _ => n ≤ i⟩
structure ItRel (st : Bool) (K : PySem.W.Frag) (F : Hp) (J : It) (P : PIt) : Prop where
  go : ∀ (F' H' : Hp) (G' : GH) (i : Nat) (x : PV), Same F F' → Rl K F' H' G' → P.item i G' x → J.go i H' ∧ ∀ v H3, J.yld i H' v H3 → ∃ F3, Same F' F3 ∧ Rl K F3 H3 G' ∧ RepB st K F3 v x
  stop : ∀ (F' H' : Hp) (G' : GH) (i : Nat), Same F F' → Rl K F' H' G' → P.done i G' → J.stop i H'
theorem ItRel.mono {st : Bool} {K : PySem.W.Frag} {F F1 : Hp} {J : It} {P : PIt} (h : ItRel st K F J P) (s : Same F F1) : ItRel st K F1 J P := ⟨fun F' H' G' i x s' => h.go F' H' G' i x (s.trans s'), fun F' H' G' i s' => h.stop F' H' G' i (s.trans s')⟩
abbrev PTI := PEn → GH → (PIt → GH → Prop) → PXK → Prop
def LkI (st : Bool) (K : PySem.W.Frag) (F : Hp) (R : PIt → GH → Prop) (R' : It → Hp → Prop) : Prop := ∀ (F' H' : Hp) (G' : GH) (J : It) (P : PIt), Same F F' → Rl K F' H' G' → ItRel st K F' J P → R P G' → R' J H'
structure QI (st : Bool) (X : Cx) (tg iter : Expr) (t : PTI) : Prop where
  run : ∀ (W : WX), Takes X W → ∀ (F H : Hp) (G : GH) (σ : List (Option V)) (env : PEn) (R : PIt → GH → Prop) (Ex : PXK) (R' : It → Hp → Prop), Rl X.K F H G → Vs X.K F σ env → t env G R Ex → LkI st X.K F R R' → LkX X.K F Ex W → WI X tg iter σ H R'

/-! ### sources -/
/-- a list or a tuple -/
theorem pi_seq {X : Cx} {tg l : Expr} {tl : TE} (hl : PE X l tl) : PI X tg l (fun σ H R => tl σ H fun x H1 => ∃ a, x = .ref a ∧ (((∃ xs, SqL X.K H1 a xs) ∧ R (Itl X.K a) H1) ∨ ((∃ xs, SqT X.K H1 a xs) ∧ R (Itt X.K a) H1))) := by
  refine ⟨fun pins s σ H R I h => ?_⟩
  refine thn (hl.run pins s σ H _ I h) fun v s1 ⟨x, H1, I1, r1, q1⟩ => ?_
  obtain ⟨a, e, ⟨⟨xs, hq⟩, q⟩ | ⟨⟨xs, hq⟩, q⟩⟩ := q1
  · subst e
    cases r1
    obtain ⟨its, rv, p, hz⟩ := I1.list hq
    refine wpAny_pyIter_list p.isList ?_
    refine ⟨s1.heap.objs.size, [s1.heap.objs.size], _, _, H1, rfl, I1.kept (t' := s1.toks) fun b o e => Heap.get?_push_of_some _ e, turn_list a _, ⟨_, Heap.get?_push_size _ rfl, rfl, rfl⟩, fun b hb => ?_, q⟩
    have e : b = s1.heap.objs.size := by simpa using hb
    subst e
    exact I1.fpOk (Nat.le_refl _) (I1.hok.fresh (Nat.le_refl _))
  · subst e
    cases r1
    obtain ⟨its, rv, p, hz⟩ := I1.tuple hq
    refine wpAny_pyIter_tuple (show s1.heap.IsTuple a its.toArray from p) ?_
    refine ⟨s1.heap.objs.size, [s1.heap.objs.size], _, _, H1, rfl, I1.kept (t' := s1.toks) fun b o e => Heap.get?_push_of_some _ e, turn_tuple a _, ⟨_, Heap.get?_push_size _ rfl, rfl, rfl⟩, fun b hb => ?_, q⟩
    have e : b = s1.heap.objs.size := by simpa using hb
    subst e
    exact I1.fpOk (Nat.le_refl _) (I1.hok.fresh (Nat.le_refl _))

theorem rel_lst {K : PySem.W.Frag} {F : Hp} {a : Addr} {vs : List V} {xs : List PV} (h : ∀ H, Same F H → SqL K H a vs) (r : RepA K F vs xs) : ItRel true K F (Itl K a) (itL xs) := by
  refine ⟨fun F' H' G' i x s hr e => ?_, fun F' H' G' i s hr e => ?_⟩
  · have q := h H' (s.trans hr.sub)
    obtain ⟨v, h1, h2⟩ := r.get (i := i) e
    refine ⟨⟨vs, v, q, h1⟩, fun u H3 y => ?_⟩
    obtain ⟨rfl, y⟩ := y
    have e2 := y vs q
    rw [h1] at e2
    cases e2
    exact ⟨F', Same.refl F', hr, (.inl (Rep.mono s _ _ h2))⟩
  · exact ⟨vs, h H' (s.trans hr.sub), by rw [r.length]; exact e⟩
theorem rel_tup {K : PySem.W.Frag} {F : Hp} {a : Addr} {vs : List V} {xs : List PV} (h : SqT K F a vs) (r : RepA K F vs xs) : ItRel true K F (Itt K a) (itL xs) := by
  refine ⟨fun F' H' G' i x s hr e => ?_, fun F' H' G' i s hr e => ?_⟩
  · have q := Same.tupT (s.trans hr.sub) h
    obtain ⟨v, h1, h2⟩ := r.get (i := i) e
    refine ⟨⟨vs, v, q, h1⟩, fun u H3 y => ?_⟩
    obtain ⟨rfl, y⟩ := y
    have e2 := y vs q
    rw [h1] at e2
    cases e2
    exact ⟨F', Same.refl F', hr, (.inl (Rep.mono s _ _ h2))⟩
  · exact ⟨vs, Same.tupT (s.trans hr.sub) h, by rw [r.length]; exact e⟩
theorem rel_own {K : PySem.W.Frag} {F : Hp} {a : Addr} : ItRel true K F (Itl K a) (itO a) := by
  refine ⟨fun F' H' G' i x s hr e => ?_, fun F' H' G' i s hr e => ?_⟩
  · obtain ⟨xs, e1, e2⟩ := e
    obtain ⟨_, vs, h1, h2⟩ := hr.own _ _ e1
    obtain ⟨v, h3, h4⟩ := h2.get (i := i) e2
    have q : SqL K H' a vs := .inl (.inl h1)
    refine ⟨⟨vs, v, q, h3⟩, fun u H3 y => ?_⟩
    obtain ⟨rfl, y⟩ := y
    have e2 := y vs q
    rw [h3] at e2
    cases e2
    exact ⟨F', Same.refl F', hr, .inl h4⟩
  · obtain ⟨xs, e1, e2⟩ := e
    obtain ⟨_, vs, h1, h2⟩ := hr.own _ _ e1
    exact ⟨vs, .inl (.inl h1), by rw [h2.length]; exact e2⟩
def iSeqR (x : PV) (G : GH) (R : PIt → GH → Prop) : Prop := match x with
  | .lst xs => R (itL xs) G
  | .tup xs => R (itL xs) G
  | .scr ns => R (itL (ns.map .int)) G
  | .ref a => (∃ xs, G a = some (.lst xs)) ∧ R (itO a) G
  | _ => False
def pISeq (t : PTE) (env : PEn) (G : GH) (R : (PIt → GH → Prop)) (Ex : PXK) : Prop := t env G (fun x G1 => iSeqR x G1 R) Ex
section
variable {X : Cx} {tg e a b : Expr} {te : PTE} {ta : PTA} {pos p : Pos}
theorem qi_seq (he : QE X e te) : QI true X tg e (pISeq te) := by
  refine ⟨fun W tk F H G σ env R Ex R' hr hv h lr lx => wi_of (pi_seq pe_we) ?_⟩
  refine he.run W tk F H G σ env _ Ex _ hr hv h (fun F1 H1 G1 v x s1 r1 rv h1 => ?_) lx
  cases x with
  | lst xs =>
    cases rv with
    | lst hf ha => exact ⟨_, rfl, .inl ⟨⟨_, .inl (.inl (r1.sub _ _ hf))⟩, lr F1 H1 G1 _ _ s1 r1 (rel_lst (fun H' s => .inl (.inl (s _ _ hf))) ha) h1⟩⟩
  | tup xs =>
    cases rv with
    | tup hf ha => exact ⟨_, rfl, .inr ⟨⟨_, Same.tupT r1.sub hf.sq⟩, lr F1 H1 G1 _ _ s1 r1 (rel_tup hf.sq ha) h1⟩⟩
  | scr ns =>
    cases rv with
    | scr hf => exact ⟨_, rfl, .inl ⟨⟨_, r1.sub.seq hf⟩, lr F1 H1 G1 _ _ s1 r1 (rel_lst (fun H' s => s.seq hf) (RepA.of_ints ns)) h1⟩⟩
  | ref a =>
    cases rv
    obtain ⟨⟨xs, e1⟩, h1⟩ := h1
    obtain ⟨_, vs, e2, _⟩ := r1.own _ _ e1
    exact ⟨_, rfl, .inl ⟨⟨vs, .inl (.inl e2)⟩, lr F1 H1 G1 _ _ s1 r1 rel_own h1⟩⟩
  | _ => exact h1.elim
theorem rel_rng {K : PySem.W.Frag} {F : Hp} {lo : Int} {n : Nat} : ItRel true K F (Itr lo n) (itR lo n) := by
  refine ⟨fun F' H' G' i x s hr e => ⟨e.1, fun u H3 y => ?_⟩, fun F' H' G' i s hr e => e⟩
  obtain ⟨rfl, rfl⟩ := y
  rw [e.2]
  exact ⟨F', Same.refl F', hr, .inl (.int _)⟩
def pRng1 (t : PTA) (env : PEn) (G : GH) (R : (PIt → GH → Prop)) (Ex : PXK) : Prop := t env G (fun xs G1 => match xs with
  | [.int j] => -(2 ^ 62) ≤ j ∧ j < 2 ^ 62 ∧ R (itR 0 j.toNat) G1
  | _ => False) Ex
def pRng2 (t : PTA) (env : PEn) (G : GH) (R : (PIt → GH → Prop)) (Ex : PXK) : Prop := t env G (fun xs G1 => match xs with
  | [.int i, .int j] => (-(2 ^ 62) ≤ i ∧ i < 2 ^ 62 ∧ -(2 ^ 62) ≤ j ∧ j < 2 ^ 62) ∧ R (itR i (j - i).toNat) G1
  | _ => False) Ex
theorem qi_rng1 (hg : Gl X "range") (hm : X.mg "range" = none) (ha : QA X [a] ta) (hs : starEach [a] X.env = [(false, eval a X.env)] := by rfl) : QI true X tg (.Call (.Name "range" p) [a] [] pos) (pRng1 ta) := by
  refine ⟨fun W tk F H G σ env R Ex R' hr hv h lr lx => wi_of (pi_range1 hg hm pa_wa hs) ?_⟩
  refine ha.run W tk F H G σ env _ Ex _ hr hv h (fun F1 H1 G1 vs xs s1 r1 rvs h1 => ?_) lx
  match xs, rvs, h1 with
  | [.int j], .cons (.int _) .nil, h1 => exact ⟨j, rfl, h1.1, h1.2.1, lr F1 H1 G1 _ _ s1 r1 rel_rng h1.2.2⟩
theorem qi_rng2 (hg : Gl X "range") (hm : X.mg "range" = none) (ha : QA X [a, b] ta) (hs : starEach [a, b] X.env = [(false, eval a X.env), (false, eval b X.env)] := by rfl) (hs2 : starEach [b] X.env = [(false, eval b X.env)] := by rfl) : QI true X tg (.Call (.Name "range" p) [a, b] [] pos) (pRng2 ta) := by
  refine ⟨fun W tk F H G σ env R Ex R' hr hv h lr lx => wi_of (pi_range2 hg hm pa_wa hs hs2) ?_⟩
  refine ha.run W tk F H G σ env _ Ex _ hr hv h (fun F1 H1 G1 vs xs s1 r1 rvs h1 => ?_) lx
  match xs, rvs, h1 with
  | [.int i, .int j], .cons (.int _) (.cons (.int _) .nil), h1 => exact ⟨i, j, rfl, h1.1, lr F1 H1 G1 _ _ s1 r1 rel_rng h1.2⟩
end

/-! ### for, while -/
def pFor (ti : PTI) (g : PTG) (tb : PTS) (D : PEnds) (env : PEn) (G : GH) : Prop := ti env G (fun J G1 => ∃ (I : Nat → PEn → GH → Prop) (n : Nat), I 0 env G1 ∧ ∀ i env G, i ≤ n → I i env G →
  (J.done i G ∧ D.nx env G) ∨ (i < n ∧ ∃ x, J.item i G x ∧ g x env G (fun env' G' => tb { D with nx := I (i + 1), ct := I (i + 1), bk := D.nx } env' G') D.xs)) D.xs
def pWhile (c : PTT) (tb : PTS) (D : PEnds) (env : PEn) (G : GH) : Prop := ∃ I : Nat → PEn → GH → Prop, (∃ m, I m env G) ∧ ∀ m env G, I m env G →
  c env G (fun b G1 => if b = true then tb { D with nx := fun env' G' => ∃ m', m' < m ∧ I m' env' G', ct := fun env' G' => ∃ m', m' < m ∧ I m' env' G', bk := D.nx } env G1 else D.nx env G1) D.xs
section
variable {X : Cx} {tg iter c : Expr} {body : List Stmt} {ti : PTI} {g : PTG} {tb : PTS} {tc : PTT} {pos : Pos} {ws : List Nat} {sb : Bool}
theorem qs_for (hp : PassesOwn (model X.prog X.w) X.A X.env X.xe) (hc : X.calm = true) (hi : QI sb X tg iter ti) (hg : QG sb X ws tg g) (hb : QB X body tb) (hs : ∀ x, foldedSetIterable iter X.env x = pure x := by intro _; rfl) :
    QS X (.For tg iter body [] pos) (pFor ti g tb) := by
  refine ⟨fun W tk F H G σ env P D hr hv h ld lx => ws_of (ps_for hp hc pi_wi pg_wg ps_wb hs) ?_⟩
  refine hi.run W tk F H G σ env _ _ _ hr hv h (fun F1 H1 G1 J PJ s1 r1 rel h1 => ?_) lx
  obtain ⟨I, n, i0, turn⟩ := h1
  refine ⟨fun i m σ' H' => ∃ F' G' env', (m = n - i ∧ i ≤ n) ∧ Same F1 F' ∧ Rl X.K F' H' G' ∧ Vs X.K F' σ' env' ∧ I i env' G', ⟨n - 0, F1, G1, env, ⟨rfl, Nat.zero_le _⟩, Same.refl F1, r1, hv.mono s1, i0⟩, fun i m σ' H' hW => ?_⟩
  obtain ⟨F2, G2, env2, ⟨rfl, hin⟩, s2, r2, v2, i2⟩ := hW
  have s12 := s1.trans s2
  rcases turn i env2 G2 hin i2 with ⟨st, nx⟩ | ⟨lt, x, it, body⟩
  · exact .inl ⟨rel.stop F2 H' G2 i s2 r2 st, ld.nx F2 H' G2 σ' env2 s12 r2 v2 nx⟩
  · obtain ⟨go, yld⟩ := rel.go F2 H' G2 i x s2 r2 it
    refine .inr ⟨go, fun σ3 H3 => ∃ F' G' env', Same F1 F' ∧ Rl X.K F' H3 G' ∧ Vs X.K F' σ3 env' ∧ I (i + 1) env' G', fun σ3 H3 hN => ?_, fun v H3 y => ?_⟩
    · obtain ⟨F', G', env', a1, a2, a3, a4⟩ := hN
      exact ⟨n - (i + 1), by omega, F', G', env', ⟨rfl, lt⟩, a1, a2, a3, a4⟩
    · obtain ⟨F3, s3, r3, rv⟩ := yld v H3 y
      have s13 := s12.trans s3
      refine hg.run W tk F3 H3 G2 σ' env2 v x _ _ _ r3 (v2.mono s3) rv body (fun F4 H4 G4 σ4 env4 s4 r4 v4 _ q4 => ?_) (lx.mono s13)
      refine hb.run W tk F4 H4 G4 σ4 env4 _ _ r4 v4 q4 ⟨fun F5 H5 G5 σ5 env5 s5 r5 v5 q5 => ?_, (ld.rt.mono s13).mono s4, (ld.nx.mono s13).mono s4, fun F5 H5 G5 σ5 env5 s5 r5 v5 q5 => ?_⟩ ((lx.mono s13).mono s4)
      · exact ⟨F5, G5, env5, s2.trans (s3.trans (s4.trans s5)), r5, v5, q5⟩
      · exact ⟨F5, G5, env5, s2.trans (s3.trans (s4.trans s5)), r5, v5, q5⟩
theorem qs_while (hp : PassesOwn (model X.prog X.w) X.A X.env X.xe) (hc : QT X c tc) (hb : QB X body tb) : QS X (.While c body [] pos) (pWhile tc tb) := by
  refine ⟨fun W tk F H G σ env P D hr hv h ld lx => ws_of (ps_while hp pt_wt ps_wb) ?_⟩
  obtain ⟨I, ⟨m0, i0⟩, turn⟩ := h
  refine ⟨fun m σ' H' => ∃ F' G' env', Same F F' ∧ Rl X.K F' H' G' ∧ Vs X.K F' σ' env' ∧ I m env' G', ⟨m0, F, G, env, Same.refl F, hr, hv, i0⟩, fun m σ' H' hW => ?_⟩
  obtain ⟨F2, G2, env2, s2, r2, v2, i2⟩ := hW
  refine hc.run W tk F2 H' G2 σ' env2 _ _ _ r2 v2 (turn m env2 G2 i2) (fun F3 H3 G3 b s3 r3 h3 => ?_) (lx.mono s2)
  have s23 := s2.trans s3
  cases b with
  | false => exact ld.nx F3 H3 G3 σ' env2 s23 r3 (v2.mono s3) h3
  | true =>
    refine ⟨fun σ4 H4 => ∃ F' G' env' m', Same F F' ∧ Rl X.K F' H4 G' ∧ Vs X.K F' σ4 env' ∧ m' < m ∧ I m' env' G', fun σ4 H4 hN => ?_, ?_⟩
    · obtain ⟨F', G', env', m', a1, a2, a3, a4, a5⟩ := hN
      exact ⟨m', a4, F', G', env', a1, a2, a3, a5⟩
    · refine hb.run W tk F3 H3 G3 σ' env2 _ _ r3 (v2.mono s3) h3 ⟨fun F5 H5 G5 σ5 env5 s5 r5 v5 q5 => ?_, ld.rt.mono s23, ld.nx.mono s23, fun F5 H5 G5 σ5 env5 s5 r5 v5 q5 => ?_⟩ (lx.mono s23)
      · obtain ⟨m', a, b⟩ := q5
        exact ⟨F5, G5, env5, m', s23.trans s5, r5, v5, a, b⟩
      · obtain ⟨m', a, b⟩ := q5
        exact ⟨F5, G5, env5, m', s23.trans s5, r5, v5, a, b⟩
end

/-! ### comprehensions -/
def WTs (X : Cx) (ifs : List Expr) : TT := fun σ H Q => ∃ t, PTs X ifs t ∧ t σ H Q
theorem pts_wts {X : Cx} {ifs : List Expr} : PTs X ifs (WTs X ifs) := ⟨fun pins s σ H Q I ⟨t, h, q⟩ => h.run pins s σ H Q I q⟩
structure QTs (X : Cx) (ifs : List Expr) (t : PTT) : Prop where
  run : ∀ (W : WX), Takes X W → ∀ (F H : Hp) (G : GH) (σ : List (Option V)) (env : PEn) (P : Bool → GH → Prop) (Ex : PXK) (Q : Bool → Hp → Prop), Rl X.K F H G → Vs X.K F σ env → t env G P Ex → LkB X.K F P Q → LkX X.K F Ex W → WTs X ifs σ H Q
def pYes (_z0 : PEn) (G : GH) (P : (Bool → GH → Prop)) (_z3 : PXK) : Prop := P true G
theorem qts_nil {X : Cx} : QTs X [] pYes := ⟨fun W tk F H G σ env P Ex Q hr hv h lq lx => ⟨_, pts_nil, lq F H G true (Same.refl F) hr h⟩⟩
theorem qts_one {X : Cx} {c : Expr} {t : PTT} (hc : QT X c t) : QTs X [c] t := ⟨fun W tk F H G σ env P Ex Q hr hv h lq lx => ⟨_, pts_one pt_wt, hc.run W tk F H G σ env P Ex Q hr hv h lq lx⟩⟩
def noX : PXK := fun _ _ _ => False
def pLc (own : Bool) (ti : PTI) (g : PTG) (tt : PTT) (te : PTE) (vs : List Nat) (env : PEn) (G : GH) (P : PK1) (Ex : PXK) : Prop := ti env G (fun J G1 => ∀ D, G1 D = none → ∃ (I : Nat → List PV → GH → Prop) (n : Nat), I 0 [] (gset G1 D (.lst [])) ∧ ∀ i acc G, i ≤ n → I i acc G →
  (J.done i G ∧ G D = some (.lst acc) ∧ (if own = true then P (.ref D) G else P (.lst acc) (gdel G D))) ∨
  (i < n ∧ ∃ x, J.item i G x ∧ g x (wipeE env vs) G (fun env2 G2 => tt env2 G2 (fun b G3 => if b = true then te env2 G3 (fun y G4 => G4 D = some (.lst acc) ∧ acc.length < sizeLine ∧ I (i + 1) (acc ++ [y]) (gset G4 D (.lst (acc ++ [y])))) noX else I (i + 1) acc G3) noX) noX)) Ex
section
variable {X : Cx} {elt tg iter : Expr} {ifs : List Expr} {scope : Scope} {own : List (Str × Nat)} {pos : Pos} {ti : PTI} {g : PTG} {tt : PTT} {te : PTE} {o sb : Bool}
theorem lc_go (hi : QI sb X tg iter ti)
    (hg : ∀ (s : Shared) (H : Hp) (C : Addr) (cl : List (Str × Addr)) (fp : List Addr), QG sb (X.blk s H scope (compEnvC scope cl C X.env) fp) (own.map (·.2)) tg g)
    (ht : ∀ (s : Shared) (H : Hp) (C : Addr) (cl : List (Str × Addr)) (fp : List Addr), QTs (X.blk s H scope (compEnvC scope cl C X.env) fp) ifs tt)
    (he : ∀ (s : Shared) (H : Hp) (C : Addr) (cl : List (Str × Addr)) (fp : List Addr), QE (X.blk s H scope (compEnvC scope cl C X.env) fp) elt te)
    {W : WX} {F H : Hp} {G : GH} {σ : List (Option V)} {env : PEn} {P : PK1} {Ex : PXK} {Q : VK} (tk : Takes X W)
    (hr : Rl X.K F H G) (hv : Vs X.K F σ env) (h : pLc o ti g tt te (own.map (·.2)) env G P Ex) (lq : LkQ X.K F P Q) (lx : LkX X.K F Ex W) :
    tLc (WI X tg iter) (fun v σ H Q => ∀ (s : Shared) (H0 : Hp) (C : Addr) (cl : List (Str × Addr)) (fp : List Addr), WG (X.blk s H0 scope (compEnvC scope cl C X.env) fp) tg v σ H Q)
      (fun σ H Q => ∀ (s : Shared) (H0 : Hp) (C : Addr) (cl : List (Str × Addr)) (fp : List Addr), WTs (X.blk s H0 scope (compEnvC scope cl C X.env) fp) ifs σ H Q)
      (fun σ H Q => ∀ (s : Shared) (H0 : Hp) (C : Addr) (cl : List (Str × Addr)) (fp : List Addr), WE (X.blk s H0 scope (compEnvC scope cl C X.env) fp) elt σ H Q) (own.map (·.2)) σ H Q := by
  refine hi.run W tk F H G σ env _ _ _ hr hv h (fun F1 H1 G1 J PJ s1 r1 rel h1 => fun D nD => ?_) lx
  obtain ⟨I, n, i0, turn⟩ := h1 D (r1.free nD)
  have fD := r1.sub.free nD
  have rD : Rl X.K F1 (upd H1 D (.lst [])) (gset G1 D (.lst [])) := r1.owned (g := .lst []) fD ⟨[], upd_same, .nil⟩
  refine ⟨fun i m H' => ∃ F' G' acc, (m = n - i ∧ i ≤ n) ∧ Same F1 F' ∧ Rl X.K F' H' G' ∧ I i acc G', ⟨n - 0, F1, _, [], ⟨rfl, Nat.zero_le _⟩, Same.refl F1, rD, i0⟩, fun i m H' hW => ?_⟩
  obtain ⟨F2, G2, acc, ⟨rfl, hin⟩, s2, r2, i2⟩ := hW
  have s12 := s1.trans s2
  rcases turn i acc G2 hin i2 with ⟨st, gd, fin⟩ | ⟨lt, x, it, body⟩
  · refine .inl ⟨rel.stop F2 H' G2 i s2 r2 st, ?_⟩
    cases o with
    | true => exact lq F2 H' G2 _ _ s12 r2 (.ref D) fin
    | false =>
      obtain ⟨F3, s3, r3, rep⟩ := r2.freeze gd
      exact lq F3 H' _ _ _ (s12.trans s3) r3 rep fin
  · obtain ⟨go, yld⟩ := rel.go F2 H' G2 i x s2 r2 it
    refine .inr ⟨go, fun H3 => ∃ F' G' acc, Same F1 F' ∧ Rl X.K F' H3 G' ∧ I (i + 1) acc G', fun H3 hN => ?_, fun v H3 y => ?_⟩
    · obtain ⟨F', G', acc', a1, a2, a3⟩ := hN
      exact ⟨n - (i + 1), by omega, F', G', acc', ⟨rfl, lt⟩, a1, a2, a3⟩
    · obtain ⟨F3, s3, r3, rv⟩ := yld v H3 y
      have s13 := s12.trans s3
      intro sh H0 C cl fp
      refine (hg sh H0 C cl fp).run (fun _ _ _ _ => False) takes0 F3 H3 G2 _ _ v x _ noX _ r3 ((hv.wipe _).mono s13) rv body (fun F4 H4 G4 σ4 env4 s4 r4 v4 z4 q4 => ?_) (fun _ _ _ _ _ _ _ _ _ z => z)
      rw [show L2.wipe (L2.wipe σ (own.map (·.2))) (own.map (·.2)) = L2.wipe σ (own.map (·.2)) from by
        apply List.ext_getElem?
        intro j
        rw [wipe_get, wipe_get]
        split
        · cases σ[j]? <;> rfl
        · rfl] at z4
      refine ⟨z4, fun sh H0 C cl fp => ?_⟩
      refine (ht sh H0 C cl fp).run (fun _ _ _ _ => False) takes0 F4 H4 G4 σ4 env4 _ noX _ r4 v4 q4 (fun F5 H5 G5 b s5 r5 q5 => ?_) (fun _ _ _ _ _ _ _ _ _ z => z)
      cases b with
      | false => exact ⟨F5, G5, acc, s2.trans (s3.trans (s4.trans s5)), r5, q5⟩
      | true =>
        intro sh H0 C cl fp
        refine (he sh H0 C cl fp).run (fun _ _ _ _ => False) takes0 F5 H5 G5 σ4 env4 _ noX _ r5 (v4.mono s5) q5 (fun F6 H6 G6 v6 x6 s6 r6 rv6 q6 => ?_) (fun _ _ _ _ _ _ _ _ _ z => z)
        obtain ⟨gd, lt6, i6⟩ := q6
        obtain ⟨f6, vs6, e6, a6⟩ := r6.own _ _ gd
        refine ⟨vs6, e6, by rw [a6.length]; exact lt6, F6, _, acc ++ [x6], s2.trans (s3.trans (s4.trans (s5.trans s6))), r6.owned (g := .lst (acc ++ [x6])) f6 ⟨_, upd_same, a6.append (.cons rv6 .nil)⟩, i6⟩
theorem qe_lc (hc : X.calm = true) (hN : X.N.Nodup) (hi : QI sb X tg iter ti) (ok : BlkOk X.N X.env.scope scope own)
    (hg : ∀ (s : Shared) (H : Hp) (C : Addr) (cl : List (Str × Addr)) (fp : List Addr), QG sb (X.blk s H scope (compEnvC scope cl C X.env) fp) (own.map (·.2)) tg g)
    (ht : ∀ (s : Shared) (H : Hp) (C : Addr) (cl : List (Str × Addr)) (fp : List Addr), QTs (X.blk s H scope (compEnvC scope cl C X.env) fp) ifs tt)
    (he : ∀ (s : Shared) (H : Hp) (C : Addr) (cl : List (Str × Addr)) (fp : List Addr), QE (X.blk s H scope (compEnvC scope cl C X.env) fp) elt te) (hs : ∀ x, foldedSetIterable iter X.env x = pure x := by intro _; rfl) :
    QE X (.ListComp elt [⟨tg, iter, ifs, 0⟩] scope pos) (pLc o ti g tt te (own.map (·.2))) :=
  ⟨fun W tk F H G σ env P Ex Q hr hv h lq lx => we_of (pe_lc hc hN pi_wi ok (fun s H0 C cl fp => ⟨fun pins s' σ' H' v u Q' I r q => q s H0 C cl fp pins s' u I r⟩) (fun s H0 C cl fp => ⟨fun pins s' σ' H' Q' I q => pts_wts.run pins s' σ' H' Q' I (q s H0 C cl fp)⟩)
    (fun s H0 C cl fp => ⟨fun pins s' σ' H' Q' I q => q s H0 C cl fp pins s' I⟩) hs) (lc_go hi hg ht he tk hr hv h lq lx)⟩
theorem qs_setLc {i : Nat} {y : Str} {py spos : Pos} (hc : X.calm = true) (hN : X.N.Nodup) (hy : X.N[i]? = some y) (hyl : X.env.scope.names.lookup y = some .local)
    (hsw : swapsWith (.ListComp elt [⟨tg, iter, ifs, 0⟩] scope pos) (some (.Name y py)) spos.line X.env = pure true) (hi : QI sb X tg iter ti) (ok : BlkOk X.N X.env.scope scope own)
    (hg : ∀ (s : Shared) (H : Hp) (C : Addr) (cl : List (Str × Addr)) (fp : List Addr), QG sb (X.blk s H scope (compEnvC scope cl C X.env) fp) (own.map (·.2)) tg g)
    (ht : ∀ (s : Shared) (H : Hp) (C : Addr) (cl : List (Str × Addr)) (fp : List Addr), QTs (X.blk s H scope (compEnvC scope cl C X.env) fp) ifs tt)
    (he : ∀ (s : Shared) (H : Hp) (C : Addr) (cl : List (Str × Addr)) (fp : List Addr), QE (X.blk s H scope (compEnvC scope cl C X.env) fp) elt te) (hs : ∀ x, foldedSetIterable iter X.env x = pure x := by intro _; rfl) :
    QS X (.Assign [.Name y py] (.ListComp elt [⟨tg, iter, ifs, 0⟩] scope pos) spos) (pSet i (pLc o ti g tt te (own.map (·.2)))) :=
  ⟨fun W tk F H G σ env P D hr hv h ld lx => ws_of (ps_setLc hc hN hy hyl hsw pi_wi ok (fun s H0 C cl fp => ⟨fun pins s' σ' H' v u Q' I r q => q s H0 C cl fp pins s' u I r⟩) (fun s H0 C cl fp => ⟨fun pins s' σ' H' Q' I q => pts_wts.run pins s' σ' H' Q' I (q s H0 C cl fp)⟩)
    (fun s H0 C cl fp => ⟨fun pins s' σ' H' Q' I q => q s H0 C cl fp pins s' I⟩) hs) (lc_go (P := fun x G1 => P.nx (env.set i (some x)) G1) hi hg ht he tk hr hv h (fun F1 H1 G1 v x s1 r1 rv h1 => ld.nx F1 H1 G1 _ _ s1 r1 ((hv.mono s1).set rv) h1) lx)⟩
end
end PL
end

section
/-! PCall: what a def is worth (with what guards repr knows), its call, the law's end. -/
namespace PL
open PySem PySem.Spec PyProof.Rows L2

/-- a def's promise where no repr is under way -/
structure FnG (P : Program) (w : World) (K : PySem.W.Frag) (mg : Str → Option Value) (base : Heap) (k : Nat) (f : Addr) (fd : FuncData) (ps : List Str) (sp : Sp) : Prop where
  len : ∀ vs H Q E, sp vs H Q E → vs.length = ps.length
  run : ∀ (A : Around) (outer : List Env) (s : Shared) (H : Hp) (args : Args) (us : List Value) (vs : List V) (Q : VK) (E : XK), A.guards = some [] → Room k A → Env0 P w K mg base A outer s H →
    BindsTo s fd args (ps.zip us) → Vals vs us → sp vs H Q E → codeAny (model P w) A (.call (.ref f) args) (CR (L2.CX P w) outer P w H s Q E) s
theorem FnG.mono {P : Program} {w : World} {K : PySem.W.Frag} {mg : Str → Option Value} {base : Heap} {j k : Nat} {f : Addr} {fd : FuncData} {ps : List Str} {sp : Sp} (F : FnG P w K mg base j f fd ps sp) (h : j ≤ k) : FnG P w K mg base k f fd ps sp :=
  ⟨F.len, fun A outer s H args us vs Q E hg hr => F.run A outer s H args us vs Q E hg (hr.mono h)⟩

section
variable {P : Program} {w : World} {K : PySem.W.Frag} {mg : Str → Option Value} {base : Heap}
/-- a def, by its body -/
theorem fnG_of {x qual : Str} {st : Stmt} {f : Addr} {fd : FuncData} {N ps : List Str} {k : Nat} {sp : Sp} (F : Fun K x qual st f fd) (S : FnScope N ps (defScope st)) (len : ∀ vs H Q E, sp vs H Q E → vs.length = ps.length)
    (hbody : ∀ (cdv : Value) (A : Around) (outer : List Env) (s : Shared) (H : Hp) (vs : List V) (Q : VK) (E : XK), A.guards = some [] → Room k (A.deeper (envOfC qual (defScope st) s.heap.objs.size f cdv)) → sp vs H Q E →
      WB (cxOf (L2.CX P w) P w K mg base N qual (defScope st) f cdv A outer s H E) (defBody st) { nx := fun _ H' => Q .non H', rt := Q } (start N vs) H) : FnG P w K mg base (k + 1) f fd ps sp := by
  obtain ⟨oc, od, kV, doc, pm, an, cdv, ct, osl, rfl, lk, hcd⟩ := F.ex
  refine ⟨len, fun A outer s H args us vs Q E hg hr e0 hb r hsp => ?_⟩
  have hl := len _ _ _ _ hsp
  have KX : K.In s.heap := e0.mod.kin.keeps fun b o e => (e0.bs b o e).1
  have lim : s.heap.NoLimit := e0.mod.nolimit.keeps fun b o e => (e0.bs b o e).1
  refine codeAny_call_function hr.depth (KX _ _ lk) rfl S.co S.gen rfl (PySem.W.codeRec_of KX hcd) (hb _ _ _ _ ?_)
  refine wpAny_newFunctionEnv_cells S.kind (fun y hy => ?_) fun env he s1 x => ?_
  · rcases S.par y.1 (List.of_mem_zip (show (y.1, y.2) ∈ ps.zip us from hy)).1 with q | q
    · exact .inl q
    · exact .inr ⟨q, PySem.W.cellsFrom_some _ _ _ (.inl q)⟩
  · subst he
    refine ⟨lim.keeps x.toInCall.keep, codeAny_func ?_⟩
    have I : Inv (cxOf (L2.CX P w) P w K mg base N qual (defScope st) f cdv A outer s H E) [] (start N vs) H s1 := inv_start S hr.hd e0 hl r x
    refine wpAny_mono (hbody cdv A outer s H vs Q E hg (hr.deeper _) hsp [] s1 I) (fun fl s' hs => ?_) fun e s' hs => hs
    cases fl with
    | ret u =>
      obtain ⟨v, σ', H', J, rv, q⟩ := hs
      exact ⟨v, H', J.os, J.bare, J.base, J.hok, rv, q⟩
    | next =>
      obtain ⟨σ', H', J, q⟩ := hs
      exact ⟨.non, H', J.os, J.bare, J.base, J.hok, rfl, q⟩
    | brk =>
      obtain ⟨_, _, _, q⟩ := hs
      exact False.elim q
    | cont =>
      obtain ⟨_, _, _, q⟩ := hs
      exact False.elim q
end

/-! ### promises of the pure layer -/
abbrev PSp := List PV → GH → PK1 → (Value → GH → Prop) → Prop
def spOf (K : PySem.W.Frag) (psp : PSp) : Sp := fun vs H Q E => ∃ (F : Hp) (G : GH) (xs : List PV) (P : PK1) (Ex : Value → GH → Prop), Rl K F H G ∧ RepA K F vs xs ∧ psp xs G P Ex ∧ LkQ K F P Q ∧
  ∀ (F' H' : Hp) (G' : GH) (c : Value), Same F F' → Rl K F' H' G' → Ex c G' → E c none H'
abbrev FnP (P : Program) (w : World) (K : PySem.W.Frag) (mg : Str → Option Value) (base : Heap) (k : Nat) (f : Addr) (fd : FuncData) (ps : List Str) (psp : PSp) : Prop := FnG P w K mg base k f fd ps (spOf K psp)
theorem FnP.imp {P : Program} {w : World} {K : PySem.W.Frag} {mg : Str → Option Value} {base : Heap} {k : Nat} {f : Addr} {fd : FuncData} {ps : List Str} {p p' : PSp} (F : FnP P w K mg base k f fd ps p) (h : ∀ xs G Q E, p' xs G Q E → p xs G Q E) : FnP P w K mg base k f fd ps p' := by
  have hh : ∀ vs H Q E, spOf K p' vs H Q E → spOf K p vs H Q E := fun vs H Q E ⟨F', G, xs, P', Ex, a, b, c, d⟩ => ⟨F', G, xs, P', Ex, a, b, h _ _ _ _ c, d⟩
  exact ⟨fun vs H Q E q => F.len vs H Q E (hh _ _ _ _ q), fun A outer s H args us vs Q E hg hr he hb hv hs => F.run A outer s H args us vs Q E hg hr he hb hv (hh _ _ _ _ hs)⟩
theorem def_ok {P : Program} {w : World} {K : PySem.W.Frag} {mg : Str → Option Value} {base : Heap} {x qual : Str} {st : Stmt} {f : Addr} {fd : FuncData} {N ps : List Str} {k : Nat} {psp : PSp} (F : Fun K x qual st f fd) (S : FnScope N ps (defScope st))
    (len : ∀ xs G Q E, psp xs G Q E → xs.length = ps.length)
    (hbody : ∀ (X : Cx), X.prog = P → X.w = w → X.K = K → X.mg = mg → X.base = base → X.N = N → X.A.guards = some [] → Room k X.A → ∀ (cdv : Value) (A : Around) (outer : List Env) (s : Shared) (H : Hp) (E : XK), X = cxOf (L2.CX P w) P w K mg base N qual (defScope st) f cdv A outer s H E →
      ∀ (xs : List PV) (G : GH) (Q : PK1) (Ex : Value → GH → Prop), psp xs G Q Ex → ∃ t, QB X (defBody st) t ∧ t { nx := fun _ G => Q .non G, rt := Q, xs := fun c _ G => Ex c G } (startE N.length xs) G) :
    FnP P w K mg base (k + 1) f fd ps psp := by
  refine fnG_of F S (fun vs H Q E ⟨F', G, xs, P', Ex, a, b, c, d⟩ => by rw [b.length]; exact len _ _ _ _ c) fun cdv A outer s H vs Q E hg hr hsp => ?_
  obtain ⟨F', G, xs, P', Ex, rl, ra, c, lq, lx⟩ := hsp
  obtain ⟨t, ht, hq⟩ := hbody _ rfl rfl rfl rfl rfl rfl (show (A.deeper _).guards = some [] from hg) hr cdv A outer s H E rfl xs G P' Ex c
  refine ht.run (fun cls d _ H => E cls d H) (takes_of rfl rfl rfl rfl) F' H G (start N vs) (startE N.length xs) _ _ rl (Vs.start ra) hq ⟨fun F2 H2 G2 σ2 env2 s2 r2 v2 q2 => lq F2 H2 G2 _ _ s2 r2 .non q2, lq, fun _ _ _ _ _ _ _ _ z => z, fun _ _ _ _ _ _ _ _ z => z⟩
    (fun F2 H2 G2 σ2 env2 c2 s2 r2 _ q2 => lx F2 H2 G2 c2 s2 r2 q2)

/-- a def by its derivation and what its reading comes to -/
theorem def_by {P : Program} {w : World} {K : PySem.W.Frag} {mg : Str → Option Value} {base : Heap} {x qual : Str} {st : Stmt} {f : Addr} {fd : FuncData} {N ps : List Str} {k : Nat} {psp : PSp} {t : PTS} (F : Fun K x qual st f fd) (S : FnScope N ps (defScope st))
    (hd : ∀ {cdv : Value} {A : Around} {outer : List Env} {s : Shared} {H : Hp} {E : XK}, A.guards = some [] → Room k (A.deeper (envOfC qual (defScope st) s.heap.objs.size f cdv)) → QB (cxOf (L2.CX P w) P w K mg base N qual (defScope st) f cdv A outer s H E) (defBody st) t)
    (hread : ∀ (xs : List PV) (G : GH) (Q : PK1) (Ex : Value → GH → Prop), psp xs G Q Ex → xs.length = ps.length ∧ t { nx := fun _ G => Q .non G, rt := Q, xs := fun c _ G => Ex c G } (startE N.length xs) G) :
    FnP P w K mg base (k + 1) f fd ps psp :=
  def_ok F S (fun xs G Q E h => (hread xs G Q E h).1) fun X _ _ _ _ _ _ hg hr cdv A outer s H E e xs G Q Ex h => by
    subst e
    exact ⟨t, hd hg hr, (hread xs G Q Ex h).2⟩

/-! ### calls -/
def pCall (psp : PSp) (t : PTA) (env : PEn) (G : GH) (P : PK1) (Ex : PXK) : Prop := t env G (fun xs G1 => psp xs G1 P (fun c G2 => Ex c env G2)) Ex
section
variable {X : Cx} {k : Nat} {f : Addr} {fd : FuncData} {ps : List Str} {psp : PSp} {x : Str} {p pos : Pos} {e : Expr} {es : List Expr} {t : PTA}
theorem run_fnG {pins : List (Addr × Obj)} {σ : List (Option V)} {H : Hp} {s : Shared} {Q : VK} {us : List Value} {vs : List V} {W : WX} {sp : Sp} (F : FnG X.prog X.w X.K X.mg X.base k f fd ps sp) (hg : X.A.guards = some []) (hr : Room k X.A) (hb : Binds X.K fd ps []) (tk : Takes X W)
    (I : Inv X pins σ H s) (r : Vals vs us) (h : sp vs H Q (L2.WE W σ)) : wpAny (model X.prog X.w) X.A (call (.ref f) us) (EP X pins σ Q) X.xe s := by
  have hl : us.length = ps.length := by rw [← r.length]; exact F.len _ _ _ _ h
  have b := hb s us I.kIn (by rw [List.append_nil]; exact hl)
  rw [List.append_nil] at b
  refine wpAny_call (codeAny_mono (F.run X.A X.stack s H ⟨us, []⟩ us vs Q (L2.WE W σ) hg hr I.env0 b r h) fun r s' hq => ?_)
  cases r with
  | error e => exact passAt tk σ pins H s e s' I hq
  | ok fl =>
    cases fl with
    | ret u => exact I.after hq
    | next => exact False.elim hq
    | brk => exact False.elim hq
    | cont => exact False.elim hq
theorem qe_call (F : FnP X.prog X.w X.K X.mg X.base k f fd ps psp) (hgd : X.A.guards = some []) (hr : Room k X.A) (hg : Gl X x) (hm : X.mg x = some (.ref f)) (hk : PySem.W.keepIn X.K (.ref f) = true) (hb : Binds X.K fd ps []) (ha : QA X (e :: es) t)
    (hdb : (x == ("__debug__" : Str)) = false := by decide) (he : starEach (e :: es) X.env = (false, eval e X.env) :: starEach es X.env := by rfl) (hpl : (backTo pos (starEach es X.env)).any (·.1) = false := by rfl) :
    QE X (.Call (.Name x p) (e :: es) [] pos) (pCall psp t) := by
  refine ⟨fun W tk F1 H G σ env P Ex Q hrl hv h lq lx pins s I => ?_⟩
  refine wpAny_Call_Name_kw (ld_glob I hg hm ?_ hdb)
  have hA : WA X (e :: es) σ H (fun vs H1 => spOf X.K psp vs H1 Q (L2.WE W σ)) :=
    ha.run W tk F1 H G σ env _ Ex _ hrl hv h (fun F2 H2 G2 vs xs s2 r2 rvs h2 => ⟨F2, G2, xs, P, _, r2, rvs, h2, lq.mono s2, fun F3 H3 G3 c s3 r3 q3 => lx F3 H3 G3 σ env c (s2.trans s3) r3 (hv.mono (s2.trans s3)) q3⟩) lx
  exact PySem.W.callWith_K (h₀ := X.base) I.ok.mod.kin hk (thn (hA pos pins s I) fun us s1 ⟨vs, H1, I1, r, q⟩ => ⟨I1.kIn, run_fnG F hgd hr hb tk I1 r q⟩) he hpl
end

/-! ### the law's end -/
theorem law_callG {P : Program} {w : World} {K : PySem.W.Frag} {mg mb : Str → Option Value} {k : Nat} {fa a : Addr} {fd : FuncData} {x : Str} {sp : Sp} {s1 : Shared} {vs : List Value} {ns : List Int}
    (KX : K.In s1.heap) (hns : s1.heap.Ns mainGlobals mg) (hb : s1.heap.Ns builtinsNs mb) (hbb : ∀ x : Str, x ≠ "__name__" → mb x = bootBuiltins x) (hlim : s1.heap.NoLimit) (hg : s1.gens = #[])
    (ha : s1.heap.get? a = some { cls := .type "list", data := .seq vs.toArray }) (hi : IntsAre vs ns) (hl : ns.length ≤ sizeLine) (hr : Room k callerA)
    (F : ∀ base : Heap, K.In base → base.Ns mainGlobals mg → FnG P w K mg base k fa fd [x] sp) (hbind : ∀ (s : Shared) (u : Value), BindsTo s fd ⟨[u], []⟩ [(x, u)])
    (hsp : ∀ H : Hp, Only H → SqL K H a (ns.map V.int) → sp [.ref a] H (fun v _ => v = .bl true) fun _ _ _ => False) :
    codeAny (model P w) callerA (.call (.ref fa) ⟨[.ref a], []⟩) (fun r s' => r = .ok (.ret (.bool true)) ∧ OldK s1.heap s'.heap ∧ s'.os = s1.os ∧ AllBare s'.gens) s1 := by
  have rv := vals_ints hi
  have core : ∀ H : Hp, Only H → SqL K H a (ns.map V.int) → HOk P w H s1.heap → (∀ b, H b ≠ none → b = a) → (H a ≠ none → K.lookup a = none) →
      codeAny (model P w) callerA (.call (.ref fa) ⟨[.ref a], []⟩) (fun r s' => r = .ok (.ret (.bool true)) ∧ OldK s1.heap s'.heap ∧ s'.os = s1.os ∧ AllBare s'.gens) s1 := by
    intro H hO hS hok hA hK
    have free : ∀ {b : Addr}, b ≠ a → H b = none := fun {b} z => by
      cases q : H b with
      | none => rfl
      | some u => exact absurd (hA b (by rw [q]; simp)) z
    have noA : ∀ {b : Addr} {o : Obj} {es : Array DictEntry} {ep : Nat}, s1.heap.get? b = some o → o.data = .dict es ep → H b = none := fun {b o es ep} e d => free fun z => by
      rw [z, ha] at e
      cases e
      exact nomatch d
    have nsK : ∀ {b : Addr} {m : Str → Option Value}, s1.heap.Ns b m → (hidT s1.heap H).Ns b m := fun {b m} ⟨o, es, ep, e, d, r⟩ => ⟨o, es, ep, hidT_get e (noA e d), d, r⟩
    have hKb : K.In (hidT s1.heap H) := fun b o e => hidT_get (KX b o e) (by
      by_cases z : b = a
      · subst z
        cases q : H b with
        | none => rfl
        | some u => rw [hK (by rw [q]; simp)] at e; cases e
      · exact free z)
    have hM : Mod K mg (hidT s1.heap H) := ⟨hKb, nsK hns, ⟨mb, nsK hb, hbb⟩, let ⟨mc, h1, h2⟩ := hlim; ⟨mc, nsK h1, h2⟩⟩
    have e0 : Env0 P w K mg (hidT s1.heap H) callerA [] s1 H := ⟨rfl, hM, fun b o e => of_hidT e, Nat.le_of_eq (hidT_size _ _), trivial, fun b hb => (nomatch (show b ∈ ([] : List Addr) from hb)), hok, .of_eq hg⟩
    refine codeAny_mono ((F _ hKb (nsK hns)).run callerA [] s1 H ⟨[.ref a], []⟩ [.ref a] [.ref a] _ _ rfl hr e0 (hbind s1 (.ref a)) (.cons rfl .nil) (hsp H hO hS)) fun r s' h => ?_
    match r, h with
    | .error e, h =>
      obtain ⟨_, _, _, _, _, _, _, _, _, _, _, _, z⟩ := h
      exact z.elim
    | .ok .next, h => exact False.elim h
    | .ok .brk, h => exact False.elim h
    | .ok .cont, h => exact False.elim h
    | .ok (.ret u), h =>
      obtain ⟨v, H', os, bare, un, hok', r', q⟩ := h
      have q' : v = .bl true := q
      subst q'
      obtain rfl : u = Value.bool true := r'
      refine ⟨rfl, OldK.of_keep fun b o e => ?_, os, bare⟩
      rcases hO b with z | z
      · exact un.keep b o e z (fun z => nomatch z) (fun z => nomatch z)
      · obtain ⟨ob, xs, z⟩ := z
        have e1 := (hok b _ z).1
        rw [e] at e1
        cases e1
        exact (hok' b _ (un.frzs b _ _ z)).1
  cases hk : K.lookup a with
  | some o =>
    have e := KX a o hk
    rw [ha] at e
    cases e
    exact core (fun _ => none) (fun _ => .inl rfl) (.inr ⟨_, vs.toArray, _, hk, rfl, rfl, rfl, by rw [List.size_toArray, hi.length]; exact hl, by simpa using rv⟩) (fun b u z => nomatch z) (fun b z => absurd rfl z) (fun z => absurd rfl z)
  | none =>
    let H0 : Hp := fun b => if b = a then some (.frz { cls := .type "list", data := .seq vs.toArray } (.lst (ns.map V.int))) else none
    have h0 : H0 a = some (.frz { cls := .type "list", data := .seq vs.toArray } (.lst (ns.map V.int))) := if_pos rfl
    have h1 : ∀ b, b ≠ a → H0 b = none := fun b z => if_neg z
    refine core H0 (fun b => ?_) (.inl (.inr ⟨_, h0⟩)) (fun b u z => ?_) (fun b z => ?_) fun _ => hk
    · by_cases z : b = a
      · exact .inr ⟨_, _, by rw [z]; exact h0⟩
      · exact .inl (h1 b z)
    · by_cases y : b = a
      · subst y
        rw [h0] at z
        cases z
        exact ⟨ha, by rw [List.length_map]; exact hl, vs, _, rv, ha⟩
      · rw [h1 b y] at z
        cases z
    · by_cases y : b = a
      · exact y
      · exact absurd (h1 b y) z
/-- what the law's promise is: at a script of at most so many ints -/
def lawSp (n : Nat) : PSp := fun xs _ Q _ => ∃ ns : List Int, xs = [.scr ns] ∧ ns.length ≤ n ∧ ∀ G', Q (.bl true) G'
theorem walk_ofG {l : PySem.W.OpenLaw} {n k : Nat} {q : Program} {loose : List Str} {XP : (Str → Option Value) → Heap → Prop} {YP : World → Heap → Prop} {d : DefRec} {K : Params → PySem.W.Frag} {x : Str}
    (hn : l.most = some n) (hn2 : n ≤ sizeLine) (hdf : d.params.defaults = []) (hr : Room k callerA)
    (hY : ∀ (w : World) (h : Heap), YP w h → (K w.params).In h)
    (F : ∀ (w : World) (mg : Str → Option Value) (fa : Addr) (h : Heap), (K w.params).In h → h.Ns mainGlobals mg → mg d.name = some (.ref fa) →
      ∃ fd : FuncData, (∀ (s : Shared) (u : Value), BindsTo s fd ⟨[u], []⟩ [(x, u)]) ∧
        ∀ base : Heap, (K w.params).In base → base.Ns mainGlobals mg → FnP l.prog w (K w.params) mg base k fa fd [x] (lawSp n)) :
    PySem.W.WalkO q loose XP YP l.row.toRowW d [] (fun f vs => PySem.call f vs) := by
  refine Att.attach_call hn hdf fun w s0 s1 mg mb fa o pm cd doc a vs ns G Y ho hd hcd hmg hobj hints hlen hg => ?_
  have KX := hY w _ Y
  obtain ⟨fd, hb, hF⟩ := F w mg fa _ KX G.T.g hmg
  refine law_callG KX G.T.g G.T.b G.T.builtins G.T.nolimit hg hobj hints (Nat.le_trans hlen hn2) hr hF hb fun H hO hS => ?_
  refine ⟨fun b => if b = a then H b else none, fun _ => none, [.scr ns], fun v _ => v = .bl true, fun _ _ => False, ⟨fun b u e => ?_, fun b u e => nomatch e⟩, .cons (.scr ?_) .nil, ⟨ns, rfl, hlen, fun _ => rfl⟩, fun F' H' G' v y s r rv h => ?_, fun _ _ _ _ _ _ z => z⟩
  · split at e
    · exact e
    · cases e
  · rcases hS with (hS | ⟨o, hS⟩) | hS
    · exact .inl (.inl ((if_pos rfl).trans hS))
    · exact .inl (.inr ⟨o, (if_pos rfl).trans hS⟩)
    · exact .inr hS
  · subst h
    cases rv
    rfl
end PL
end

section
/-! POps: operations by values. -/
namespace PL
open PySem PySem.Spec PyProof.Rows L2

/-! ### data -/
mutual
def PV.dat : PV → PyData
  | .non => .none
  | .bl b => .bool b
  | .int i => .int i
  | .str x => .str x
  | .tup xs => .tuple (dats xs)
  | .lst xs => .list (dats xs)
  | .scr ns => .list (ns.map .int)
  | .ref _ => .none
  | .ty _ => .none
def dats : List PV → List PyData
  | [] => []
  | x :: xs => PV.dat x :: dats xs
end
mutual
def PV.isD : PV → Bool
  | .tup xs => isDs xs
  | .lst xs => isDs xs
  | .ref _ => false
  | .ty _ => false
  | _ => true
def isDs : List PV → Bool
  | [] => true
  | x :: xs => PV.isD x && isDs xs
end
theorem DpAll.ints {K : PySem.W.Frag} {H : Hp} : ∀ ns : List Int, DpAll K H (ns.map V.int) (ns.map PyData.int)
  | [] => .nil
  | n :: ns => .cons (.int n) (DpAll.ints ns)
section
variable {K : PySem.W.Frag} {F H : Hp}
mutual
theorem Rep.dp (s : Same F H) : ∀ (x : PV) (v : V), Rep K F v x → x.isD = true → Dp K H v x.dat
  | .non, _, h, _ => by cases h; exact .non
  | .bl b, _, h, _ => by cases h; exact .bl b
  | .int b, _, h, _ => by cases h; exact .int b
  | .str b, _, h, _ => by cases h; exact .str b
  | .ref b, _, h, z => by simp [PV.isD] at z
  | .ty b, _, h, z => by simp [PV.isD] at z
  | .tup xs, _, h, z => by
    cases h with
    | tup h1 h2 => exact .tup (Same.tupT s h1.sq) (RepA.dp s xs _ h2 (by simpa [PV.isD] using z))
  | .lst xs, _, h, z => by
    cases h with
    | lst h1 h2 => exact .lst (.inl (.inl (s _ _ h1))) (RepA.dp s xs _ h2 (by simpa [PV.isD] using z))
  | .scr ns, _, h, _ => by
    cases h with
    | scr h1 => exact .lst (s.seq h1) (DpAll.ints ns)
theorem RepA.dp (s : Same F H) : ∀ (xs : List PV) (vs : List V), RepA K F vs xs → isDs xs = true → DpAll K H vs (dats xs)
  | [], _, h, _ => by cases h; exact .nil
  | x :: xs, _, h, z => by
    cases h with
    | cons h1 h2 =>
      have z' : x.isD = true ∧ isDs xs = true := by simpa [isDs] using z
      exact .cons (Rep.dp s x _ h1 z'.1) (RepA.dp s xs _ h2 z'.2)
end
end
def ownL (G : GH) (a : Addr) : Option (List PV) := match G a with
  | some (.lst xs) => some xs
  | _ => none
theorem ownL_eq {G : GH} {a : Addr} {xs : List PV} (h : ownL G a = some xs) : G a = some (.lst xs) := by
  unfold ownL at h
  cases e : G a with
  | none => rw [e] at h; cases h
  | some o =>
    rw [e] at h
    cases o with
    | lst ys => cases h; rfl
    | _ => cases h
theorem ownL_of {G : GH} {a : Addr} {xs : List PV} (h : G a = some (.lst xs)) : ownL G a = some xs := by unfold ownL; rw [h]
def datOf (G : GH) : PV → Option PyData
  | .ref a => match ownL G a with
    | some xs => if isDs xs = true then some (.list (dats xs)) else none
    | none => none
  | x => if x.isD = true then some x.dat else none
theorem datOf_dp {K : PySem.W.Frag} {F H : Hp} {G : GH} {v : V} {x : PV} {d : PyData} (hr : Rl K F H G) (r : Rep K F v x) (e : datOf G x = some d) : Dp K H v d := by
  have gen : (if x.isD = true then some x.dat else none) = some d → Dp K H v d := fun e => by
    split at e
    · rename_i z
      cases e
      exact Rep.dp hr.sub x v r z
    · cases e
  cases x with
  | ref a =>
    have e' : (match ownL G a with
      | some xs => if isDs xs = true then some (PyData.list (dats xs)) else none
      | none => none) = some d := e
    split at e'
    · rename_i xs ga
      split at e'
      · rename_i z
        cases e'
        cases r
        obtain ⟨_, vs, h1, h2⟩ := hr.own _ _ (ownL_eq ga)
        exact .lst (.inl (.inl h1)) (RepA.dp hr.sub xs vs h2 z)
      · cases e'
    · cases e'
  | _ => exact gen e

/-! ### arithmetic -/
def lstOf (G : GH) : PV → Option (List PV)
  | .lst xs => some xs
  | .ref a => ownL G a
  | _ => none
theorem lstOf_ok {K : PySem.W.Frag} {F H : Hp} {G : GH} {v : V} {x : PV} {xs : List PV} (hr : Rl K F H G) (r : Rep K F v x) (e : lstOf G x = some xs) : ∃ a vs, v = .ref a ∧ H a = some (.lst vs) ∧ RepA K F vs xs := by
  cases x with
  | lst ys =>
    cases e
    cases r with
    | lst h1 h2 => exact ⟨_, _, rfl, hr.sub _ _ h1, h2⟩
  | ref a =>
    cases r
    obtain ⟨_, vs, h1, h2⟩ := hr.own _ _ (ownL_eq e)
    exact ⟨a, vs, rfl, h1, h2⟩
  | _ => cases e
def rAdd (x : PV) (y : PV) (G : GH) (P : PK1) : Prop := match x, y with
  | .int i, .int j => P (.int (i + j)) G
  | .str a, .str b => a.length + b.length ≤ sizeLine ∧ P (.str (a ++ b)) G
  | .tup xs, .tup ys => xs.length + ys.length ≤ sizeLine ∧ P (.tup (xs ++ ys)) G
  | x, y => match lstOf G x, lstOf G y with
    | some xs, some ys => xs.length + ys.length ≤ sizeLine ∧ P (.lst (xs ++ ys)) G
    | _, _ => False
section
variable {X : Cx}
theorem q_add_l (F H : Hp) (G : GH) (v u : V) (x y : PV) (P : PK1) (Q : VK) (hr : Rl X.K F H G) (rx : Rep X.K F v x) (ry : Rep X.K F u y)
    (h : match lstOf G x, lstOf G y with
    | some xs, some ys => xs.length + ys.length ≤ sizeLine ∧ P (.lst (xs ++ ys)) G
    | _, _ => False) (lq : LkQ X.K F P Q) : WO X (binaryOp .Add) v u H Q := by
  split at h
  · rename_i xs ys e1 e2
    obtain ⟨a, vs, rfl, h1, r1⟩ := lstOf_ok hr rx e1
    obtain ⟨b, us, rfl, h2, r2⟩ := lstOf_ok hr ry e2
    refine wo_of op_cat ⟨a, b, vs, us, rfl, rfl, h1, h2, by rw [r1.length, r2.length]; exact h.1, fun p hp => ?_⟩
    have n := hr.sub.free hp
    exact lq _ _ _ _ _ (Same.new n) (hr.froze hp) (.lst upd_same (RepA.mono (Same.new n) _ _ (r1.append r2))) h.2
  · exact h.elim
theorem q_add : Q2 X (WO X (binaryOp .Add)) rAdd := by
  intro F H G v u x y P Q hr rx ry h lq
  cases x with
  | int i =>
    cases y with
    | int j => cases rx; cases ry; exact wo_of op_add ⟨i, j, rfl, rfl, lq F H G _ _ (Same.refl F) hr (.int _) h⟩
    | _ => exact q_add_l F H G v u _ _ P Q hr rx ry h lq
  | str i =>
    cases y with
    | str j => cases rx; cases ry; exact wo_of op_add_str ⟨i, j, rfl, rfl, h.1, lq F H G _ _ (Same.refl F) hr (.str _) h.2⟩
    | _ => exact q_add_l F H G v u _ _ P Q hr rx ry h lq
  | tup xs =>
    cases y with
    | tup ys =>
      cases rx with
      | tup h1 r1 =>
        cases ry with
        | tup h2 r2 =>
          refine wo_of op_catN ⟨_, _, _, _, rfl, rfl, Same.tupT hr.sub h1.sq, Same.tupT hr.sub h2.sq, by rw [r1.length, r2.length]; exact h.1, fun e => ?_, fun _ e => ?_, fun _ _ p o hp hd => ?_⟩
          · subst e
            cases r1
            exact lq F H G _ _ (Same.refl F) hr (.tup h2 r2) h.2
          · subst e
            cases r2
            exact lq F H G _ _ (Same.refl F) hr (.tup h1 r1) (by have h2 := h.2; rw [List.append_nil] at h2; exact h2)
          · have n := hr.sub.free hp
            exact lq _ _ _ _ _ (Same.new n) (hr.froze hp) (.tup (TupOk.new hd) (RepA.mono (Same.new n) _ _ (r1.append r2))) h.2
    | _ => exact q_add_l F H G v u _ _ P Q hr rx ry h lq
  | _ => exact q_add_l F H G v u _ _ P Q hr rx ry (by cases y <;> exact h) lq
def rInt2 (C : Int → Int → Prop) (g : Int → Int → PV) (x : PV) (y : PV) (G : GH) (P : PK1) : Prop := match x, y with
  | .int i, .int j => C i j ∧ P (g i j) G
  | _, _ => False
def rInt0 (g : Int → Int → PV) (x : PV) (y : PV) (G : GH) (P : PK1) : Prop := match x, y with
  | .int i, .int j => P (g i j) G
  | _, _ => False
theorem q_int2 {f : Value → Value → Sem Value} {C : Int → Int → Prop} {g : Int → Int → V} {g' : Int → Int → PV} (ho : OpR X f (rI C g)) (hg : ∀ i j F, Rep X.K F (g i j) (g' i j)) : Q2 X (WO X f) (rInt2 C g') := by
  intro F H G v u x y P Q hr rx ry h lq
  cases x with
  | int i =>
    cases y with
    | int j => cases rx; cases ry; exact wo_of ho ⟨i, j, rfl, rfl, h.1, lq F H G _ _ (Same.refl F) hr (hg i j F) h.2⟩
    | _ => exact False.elim h
  | _ => exact False.elim h
theorem q_int0 {f : Value → Value → Sem Value} {g : Int → Int → V} {g' : Int → Int → PV} (ho : OpR X f (rI0 g)) (hg : ∀ i j F, Rep X.K F (g i j) (g' i j)) : Q2 X (WO X f) (rInt0 g') := by
  intro F H G v u x y P Q hr rx ry h lq
  cases x with
  | int i =>
    cases y with
    | int j => cases rx; cases ry; exact wo_of ho ⟨i, j, rfl, rfl, lq F H G _ _ (Same.refl F) hr (hg i j F) h⟩
    | _ => exact False.elim h
  | _ => exact False.elim h
def rSub : PO2 := rInt0 fun i j => .int (i - j)
theorem q_sub : Q2 X (WO X (binaryOp .Sub)) rSub := q_int0 op_sub fun _ _ _ => .int _
def CMul2 (i j : Int) : Prop := CMul i j ∨ CMulW i j
def CDiv2 (i j : Int) : Prop := CDiv i j ∨ CDivW i j
theorem op_mul2 : OpR X (binaryOp .Mult) (rI CMul2 fun i j => .int (i * j)) := fun pins s σ H x y v u Q I rx ry h => by
  obtain ⟨i, j, e1, e2, c | c, q⟩ := h
  · exact op_mul pins s σ H x y v u Q I rx ry ⟨i, j, e1, e2, c, q⟩
  · exact op_mulW pins s σ H x y v u Q I rx ry ⟨i, j, e1, e2, c, q⟩
theorem op_fdiv2 : OpR X (binaryOp .FloorDiv) (rI CDiv2 fun i j => .int (i / j)) := fun pins s σ H x y v u Q I rx ry h => by
  obtain ⟨i, j, e1, e2, c | c, q⟩ := h
  · exact op_fdiv pins s σ H x y v u Q I rx ry ⟨i, j, e1, e2, c, q⟩
  · exact op_fdivW pins s σ H x y v u Q I rx ry ⟨i, j, e1, e2, c, q⟩
/-- int * int; list * int; tuple * int -/
def rMul (x : PV) (y : PV) (G : GH) (P : PK1) : Prop := match x, y with
  | .int i, .int j => CMul2 i j ∧ P (.int (i * j)) G
  | .tup xs, .int k => xs ≠ [] ∧ 1 ≤ k ∧ k ≤ 1000 ∧ xs.length ≤ 1000 ∧ P (.tup (List.replicate k.toNat xs).flatten) G
  | .lst xs, .int k => -(2 ^ 63) ≤ k ∧ k < 2 ^ 63 ∧ xs.length * k.toNat ≤ sizeLine ∧ P (.lst (List.replicate k.toNat xs).flatten) G
  | _, _ => False
theorem RepA.rep {K : PySem.W.Frag} {F : Hp} {vs : List V} {xs : List PV} (h : RepA K F vs xs) : ∀ k : Nat, RepA K F (List.replicate k vs).flatten (List.replicate k xs).flatten
  | 0 => .nil
  | k + 1 => by
    rw [List.replicate_succ, List.replicate_succ, List.flatten_cons, List.flatten_cons]
    exact h.append (RepA.rep h k)
def rFdiv : PO2 := rInt2 CDiv2 fun i j => .int (i / j)
theorem q_fdiv : Q2 X (WO X (binaryOp .FloorDiv)) rFdiv := q_int2 op_fdiv2 fun _ _ _ => .int _
def rMod : PO2 := rInt2 (fun _ j => 0 < j) fun i j => .int (i % j)
theorem q_mod : Q2 X (WO X (binaryOp .Mod)) rMod := q_int2 op_mod fun _ _ _ => .int _
def rPow : PO2 := rInt2 CPow fun i j => .int (i ^ j.toNat)
theorem q_pow : Q2 X (WO X (binaryOp .Pow)) rPow := q_int2 op_pow fun _ _ _ => .int _
def rLt : PO2 := rInt0 fun i j => .bl (decide (i < j))
def rLe : PO2 := rInt0 fun i j => .bl (decide (i ≤ j))
def rGt : PO2 := rInt0 fun i j => .bl (decide (j < i))
def rGe : PO2 := rInt0 fun i j => .bl (decide (j ≤ i))
theorem q_lt : Q2 X (WO X (compareOp .Lt)) rLt := q_int0 op_lt fun _ _ _ => .bl _
theorem q_le : Q2 X (WO X (compareOp .LtE)) rLe := q_int0 op_le fun _ _ _ => .bl _
theorem q_gt : Q2 X (WO X (compareOp .Gt)) rGt := q_int0 op_gt fun _ _ _ => .bl _
theorem q_ge : Q2 X (WO X (compareOp .GtE)) rGe := q_int0 op_ge fun _ _ _ => .bl _
def rNeg (x : PV) (G : GH) (P : PK1) : Prop := match x with
  | .int i => P (.int (-i)) G
  | _ => False
theorem q_neg : Q1 X (WU X (unaryOp .USub)) rNeg := by
  intro F H G v x P Q hr rx h lq
  cases x with
  | int i => cases rx; exact wu_of un_neg ⟨i, rfl, lq F H G _ _ (Same.refl F) hr (.int _) h⟩
  | _ => exact False.elim h

/-! ### == , in -/
def rEq (x : PV) (y : PV) (G : GH) (P : PK1) : Prop := match x, y with
  | .int i, .int j => P (.bl (decide (i = j))) G
  | .str i, .str j => P (.bl (decide (i = j))) G
  | x, y => match datOf G x, datOf G y with
    | some d, some e => SeqAt.shaped d = true ∧ SeqAt.shaped e = true ∧ P (.bl (PyData.eqv d e)) G
    | _, _ => False
def rNe (x : PV) (y : PV) (G : GH) (P : PK1) : Prop := match x, y with
  | .int i, .int j => P (.bl (!decide (i = j))) G
  | .str i, .str j => P (.bl (!decide (i = j))) G
  | x, y => match datOf G x, datOf G y with
    | some d, some e => SeqAt.shaped d = true ∧ SeqAt.shaped e = true ∧ P (.bl (!PyData.eqv d e)) G
    | _, _ => False
theorem q_eq_d (hu : X.A.units + 64 < cLine) (F H : Hp) (G : GH) (v u : V) (x y : PV) (P : PK1) (Q : VK) (hr : Rl X.K F H G) (rx : Rep X.K F v x) (ry : Rep X.K F u y)
    (h : match datOf G x, datOf G y with
    | some d, some e => SeqAt.shaped d = true ∧ SeqAt.shaped e = true ∧ P (.bl (PyData.eqv d e)) G
    | _, _ => False) (lq : LkQ X.K F P Q) : WO X (compareOp .Eq) v u H Q := by
  split at h
  · rename_i d e e1 e2
    exact wo_of (op_eqD hu) ⟨d, e, datOf_dp hr rx e1, datOf_dp hr ry e2, h.1, h.2.1, lq F H G _ _ (Same.refl F) hr (.bl _) h.2.2⟩
  · exact h.elim
theorem q_ne_d (hu : X.A.units + 64 < cLine) (F H : Hp) (G : GH) (v u : V) (x y : PV) (P : PK1) (Q : VK) (hr : Rl X.K F H G) (rx : Rep X.K F v x) (ry : Rep X.K F u y)
    (h : match datOf G x, datOf G y with
    | some d, some e => SeqAt.shaped d = true ∧ SeqAt.shaped e = true ∧ P (.bl (!PyData.eqv d e)) G
    | _, _ => False) (lq : LkQ X.K F P Q) : WO X (compareOp .NotEq) v u H Q := by
  split at h
  · rename_i d e e1 e2
    exact wo_of (op_neD hu) ⟨d, e, datOf_dp hr rx e1, datOf_dp hr ry e2, h.1, h.2.1, lq F H G _ _ (Same.refl F) hr (.bl _) h.2.2⟩
  · exact h.elim
theorem q_eq (hu : X.A.units + 64 < cLine) : Q2 X (WO X (compareOp .Eq)) rEq := by
  intro F H G v u x y P Q hr rx ry h lq
  cases x with
  | int i =>
    cases y with
    | int j => cases rx; cases ry; exact wo_of op_eq ⟨rfl, lq F H G _ _ (Same.refl F) hr (by rw [show decide (V.int i = V.int j) = decide (i = j) from by rw [dec_int]; exact Bool.beq_eq_decide_eq i j]; exact .bl _) h⟩
    | _ => exact q_eq_d hu F H G v u _ _ P Q hr rx ry h lq
  | str i =>
    cases y with
    | str j => cases rx; cases ry; exact wo_of op_eq ⟨rfl, lq F H G _ _ (Same.refl F) hr (by rw [show decide (V.str i = V.str j) = decide (i = j) from by rw [dec_str]; exact Bool.beq_eq_decide_eq i j]; exact .bl _) h⟩
    | _ => exact q_eq_d hu F H G v u _ _ P Q hr rx ry h lq
  | _ => exact q_eq_d hu F H G v u _ _ P Q hr rx ry (by cases y <;> exact h) lq
theorem q_ne (hu : X.A.units + 64 < cLine) : Q2 X (WO X (compareOp .NotEq)) rNe := by
  intro F H G v u x y P Q hr rx ry h lq
  cases x with
  | int i =>
    cases y with
    | int j => cases rx; cases ry; exact wo_of op_ne ⟨rfl, lq F H G _ _ (Same.refl F) hr (by rw [show decide (V.int i = V.int j) = decide (i = j) from by rw [dec_int]; exact Bool.beq_eq_decide_eq i j]; exact .bl _) h⟩
    | _ => exact q_ne_d hu F H G v u _ _ P Q hr rx ry h lq
  | str i =>
    cases y with
    | str j => cases rx; cases ry; exact wo_of op_ne ⟨rfl, lq F H G _ _ (Same.refl F) hr (by rw [show decide (V.str i = V.str j) = decide (i = j) from by rw [dec_str]; exact Bool.beq_eq_decide_eq i j]; exact .bl _) h⟩
    | _ => exact q_ne_d hu F H G v u _ _ P Q hr rx ry h lq
  | _ => exact q_ne_d hu F H G v u _ _ P Q hr rx ry (by cases y <;> exact h) lq
end
end PL
end

section
/-! POps2: subscripts, slices, membership, dicts, built-ins, methods, calls of defs. -/
namespace PL
open PySem PySem.Spec PyProof.Rows L2

/-! ### * -/
theorem tuple_mul1 (l : Addr) (items : Array Value) (n : Nat) (sl : Array (Option Value)) (x : Int) (u : Tok) (c0 : (decide (x < -(2 ^ 63)) || decide (x ≥ 2 ^ 63)) = false) (c1 : (items.isEmpty || x == 1) = true) :
    Meets (Builtin.«tuple.__mul__» ⟨[.ref l, .int x u], []⟩) (fun _ R s => ∃ dd, s.heap.get? l = some { cls := .type "tuple", dict := dd, data := .seq items n, slots := sl } ∧ R (.ok (.ret (Value.ref l))) s) :=
  .of_wp fun prog w A R s h => by
    obtain ⟨hp, g, d, tk, os⟩ := s
    obtain ⟨dd, hl, h⟩ := h
    have f1 := AutoSeq1.idx_int
    wp_walk using wpAny_loadPart' hl
    repeat (first
      | (refine wpAny_ite_false (decide_eq_false (by rw [c0]; exact Bool.false_ne_true)) ?_; wp_walk using wpAny_loadPart' hl)
      | (refine wpAny_ite_true (decide_eq_true c1) ?_; wp_walk using wpAny_loadPart' hl))
    exact ⟨_, rfl, h⟩

section
variable {X : Cx}
def rRepN (K : PySem.W.Frag) : R2 := fun x y H Q => ∃ l k xs, x = .ref l ∧ y = .int k ∧ SqT K H l xs ∧ xs ≠ [] ∧ 1 ≤ k ∧ k ≤ 1000 ∧ xs.length ≤ 1000 ∧ (k = 1 → Q (.ref l) H) ∧
  (2 ≤ k → ∀ p o, H p = none → o.dict = none → Q (.ref p) (upd H p (.frz o (.tup (List.replicate k.toNat xs).flatten))))
theorem op_repN : OpR X (binaryOp .Mult) (rRepN X.K) := by
  intro pins s σ H x y v u Q I rx ry h
  obtain ⟨l, k, xs, rfl, rfl, hT, hne, h1, h2, hz, q1, q2⟩ := h
  cases rx
  obtain ⟨t, rfl⟩ := ry
  obtain ⟨its, r, ⟨⟨cls, dd, data, sl⟩, ho, hc, n, hd⟩, hs⟩ := I.tuple hT
  simp only at hc hd
  subst hc hd
  have hle : its.length = xs.length := r.length.symm
  have hi : its.toArray.isEmpty = false := by
    cases its with
    | nil => exact absurd (List.eq_nil_of_length_eq_zero hle.symm) hne
    | cons a b => rfl
  have c0 : (decide (k < -(2 ^ 63)) || decide (k ≥ 2 ^ 63)) = false := by
    rw [decide_eq_false (by omega), decide_eq_false (by omega)] <;> rfl
  have go : ∀ {R : Value → Shared → Prop}, (∀ Rr : Result → Shared → Prop, (∀ w s', R w s' → Rr (.ok (.ret w)) s') → codeAny (model X.prog X.w) X.A.in1 (.call (.builtin "tuple.__mul__") ⟨[.ref l, .int k t], []⟩) Rr s) → True := fun _ => trivial
  by_cases h3 : k = 1
  · have c1 : (its.toArray.isEmpty || k == 1) = true := by rw [h3, hi]; rfl
    refine wpAny_binaryOp_repeat_ref (T := "tuple") (U := "int") (by decide) ⟨_, ho, rfl⟩ (fun s' => typeIs_int s' k t) noFill_tuple_mul F.fills_int_mul F.slot_int_rmul repeat_tuple F.slot_int_index.lookup
      (call_meets F.slot_int_rmul (typeIs_int s k t) F.entry_int_rmul (F.args_int_rmul_2 _ _) (int_rmul_tuple k t l its.toArray n dd sl)
        ⟨ho, rfl, ⟨_, ho, rfl⟩, call_meets F.slot_tuple_mul ⟨_, ho, rfl⟩ F.entry_tuple_mul (F.args_tuple_mul_2 _ _) (tuple_mul1 l its.toArray n sl k t c0 c1) ⟨dd, ho, ?_⟩⟩)
    exact ⟨.ref l, H, I, rfl, q1 h3⟩
  have hsz0 : its.toArray.size = xs.length := by rw [List.size_toArray, hle]
  have hm : ((its.toArray.size : Nat) : Int) * k ≤ 1000000 := by
    rw [hsz0]
    have a1 : ((xs.length : Nat) : Int) * k ≤ 1000 * k := Int.mul_le_mul_of_nonneg_right (by omega) (by omega)
    omega
  have fl2 : (List.replicate k.toNat xs).flatten.length ≤ sizeLine := by
    rw [PyProof.Rows.lm_len_rep_flat, sizeLine_eq]
    have a1 : k.toNat * xs.length ≤ 1000 * 1000 := Nat.mul_le_mul (by omega) hz
    omega
  have flen : (List.replicate k.toNat its).flatten.length ≤ sizeLine := by
    rw [PyProof.Rows.lm_len_rep_flat, hle, ← PyProof.Rows.lm_len_rep_flat]
    exact fl2
  have c1 : (its.toArray.isEmpty || k == 1) = false := by
    rw [hi, Bool.false_or]
    exact beq_eq_false_iff_ne.mpr h3
  have c2 : (decide (k ≤ 0) || its.toArray.isEmpty) = false := by
    rw [hi, Bool.or_false]
    exact decide_eq_false (by omega)
  have c4 : Builtin.Tuple.tupleTooMany (((its.toArray.size : Nat) : Int) * k) = false := by
    unfold Builtin.Tuple.tupleTooMany
    rw [sizeLine_eq]
    exact decide_eq_false (by omega)
  refine wpAny_binaryOp_repeat_ref (T := "tuple") (U := "int") (by decide) ⟨_, ho, rfl⟩ (fun s' => typeIs_int s' k t) noFill_tuple_mul F.fills_int_mul F.slot_int_rmul repeat_tuple F.slot_int_index.lookup
    (call_meets F.slot_int_rmul (typeIs_int s k t) F.entry_int_rmul (F.args_int_rmul_2 _ _) (int_rmul_tuple k t l its.toArray n dd sl)
      ⟨ho, rfl, ⟨_, ho, rfl⟩, call_meets F.slot_tuple_mul ⟨_, ho, rfl⟩ F.entry_tuple_mul (F.args_tuple_mul_2 _ _) (tuple_mulW l its.toArray n dd sl k t c0 c1 c2 (by omega) c4 (by rw [size_rep, List.size_toArray]; exact flen)) ⟨ho, ?_⟩⟩)
  rw [size_rep]
  exact ⟨.ref _, _, laidT (t' := s.toks) I fl2 (r.rep k.toNat), rfl, q2 (by omega) _ _ (I.hok.fresh (Nat.le_refl _)) rfl⟩
theorem q_mul : Q2 X (WO X (binaryOp .Mult)) rMul := by
  intro F H G v u x y P Q hr rx ry h lq
  cases x with
  | int i =>
    cases y with
    | int j => cases rx; cases ry; exact wo_of op_mul2 ⟨i, j, rfl, rfl, h.1, lq F H G _ _ (Same.refl F) hr (.int _) h.2⟩
    | _ => exact False.elim h
  | tup xs =>
    cases y with
    | int k =>
      cases ry
      obtain ⟨h1, h2, h3, h4, h5⟩ := h
      cases rx with
      | tup t1 t2 =>
        refine wo_of op_repN ⟨_, k, _, rfl, rfl, Same.tupT hr.sub t1.sq, fun e => h1 (by subst e; cases t2; rfl), h2, h3, by rw [t2.length]; exact h4, fun e => ?_, fun e p o hp hd => ?_⟩
        · subst e
          exact lq F H G _ _ (Same.refl F) hr (.tup t1 t2) (by simpa using h5)
        · have n := hr.sub.free hp
          exact lq _ _ _ _ _ (Same.new n) (hr.froze hp) (.tup (TupOk.new hd) (RepA.mono (Same.new n) _ _ (t2.rep _))) h5
    | _ => exact False.elim h
  | lst xs =>
    cases y with
    | int k =>
      cases ry
      obtain ⟨h1, h2, h3, h4⟩ := h
      cases rx with
      | lst t1 t2 =>
        refine wo_of op_rep ⟨_, k, _, rfl, rfl, hr.sub _ _ t1, h1, h2, by rw [t2.length]; exact h3, fun p hp => ?_⟩
        have n := hr.sub.free hp
        exact lq _ _ _ _ _ (Same.new n) (hr.froze hp) (.lst upd_same (RepA.mono (Same.new n) _ _ (t2.rep _))) h4
    | _ => exact False.elim h
  | _ => exact False.elim h

/-! ### a[i] -/
def pkey : PV → Option Key
  | .int i => some (.inl i)
  | .str x => some (.inr x)
  | _ => none
theorem pkey_v {K : PySem.W.Frag} {F : Hp} {v : V} {x : PV} {k : Key} (r : Rep K F v x) (e : pkey x = some k) : v = kV k := by
  cases x with
  | int i => cases e; cases r; rfl
  | str i => cases e; cases r; rfl
  | _ => cases e
def valP (kvs : List (Key × PV)) (k : Key) : Option PV := (kvs.find? fun kv => decide (kv.1 = k)).map (·.2)
def putP (kvs : List (Key × PV)) (k : Key) (v : PV) : List (Key × PV) := if kvs.any (fun kv => decide (kv.1 = k)) then kvs.map (fun kv => if kv.1 = k then (kv.1, v) else kv) else kvs ++ [(k, v)]
theorem repD_cons {K : PySem.W.Frag} {F : Hp} {p : Key × V} {vs : List (Key × V)} {q : Key × PV} {xs : List (Key × PV)} : RepD K F (p :: vs) (q :: xs) ↔ p.1 = q.1 ∧ Rep K F p.2 q.2 ∧ RepD K F vs xs := by
  constructor
  · rintro ⟨h1, h2⟩
    cases h2 with
    | cons a b => exact ⟨by injection h1, a, by injection h1, b⟩
  · rintro ⟨h1, h2, h3, h4⟩
    exact ⟨by show p.1 :: vs.map (·.1) = q.1 :: xs.map (·.1); rw [h1, h3], .cons h2 h4⟩
theorem repD_nil {K : PySem.W.Frag} {F : Hp} {vs : List (Key × V)} (h : RepD K F vs []) : vs = [] := List.map_eq_nil_iff.mp h.1
theorem repD_nil' {K : PySem.W.Frag} {F : Hp} {q : Key × PV} {xs : List (Key × PV)} (h : RepD K F [] (q :: xs)) : False := by cases h.1
theorem RepD.length {K : PySem.W.Frag} {F : Hp} {vs : List (Key × V)} {xs : List (Key × PV)} (h : RepD K F vs xs) : vs.length = xs.length := by
  have := congrArg List.length h.1
  simpa using this
theorem RepD.val {K : PySem.W.Frag} {F : Hp} (k : Key) : ∀ {vs : List (Key × V)} {xs : List (Key × PV)}, RepD K F vs xs → (∀ x, valP xs k = some x → ∃ v, valV vs k = some v ∧ Rep K F v x) ∧ (valP xs k = none → valV vs k = none)
  | [], [], _ => ⟨fun x e => (by cases e), fun _ => rfl⟩
  | _ :: _, [], h => by cases repD_nil h
  | [], _ :: _, h => (repD_nil' h).elim
  | (k1, v) :: vs, (k2, x) :: xs, h => by
    obtain ⟨e, r, t⟩ := repD_cons.mp h
    have ih := RepD.val k t
    have e : k1 = k2 := e
    subst e
    by_cases z : k1 = k
    · rw [valV_pos z]
      have e2 : valP ((k1, x) :: xs) k = some x := by simp [valP, List.find?_cons, z]
      rw [e2]
      exact ⟨fun y q => by cases q; exact ⟨v, rfl, r⟩, fun q => by cases q⟩
    · rw [valV_neg z]
      have e2 : valP ((k1, x) :: xs) k = valP xs k := by simp [valP, List.find?_cons, z]
      rw [e2]
      exact ih
theorem RepD.anyK {K : PySem.W.Frag} {F : Hp} (k : Key) {vs : List (Key × V)} {xs : List (Key × PV)} (h : RepD K F vs xs) : (vs.any fun kv => decide (kv.1 = k)) = xs.any fun kv => decide (kv.1 = k) := by
  have e1 : (vs.any fun kv => decide (kv.1 = k)) = (vs.map (·.1)).any fun z => decide (z = k) := by rw [List.any_map]; rfl
  have e2 : (xs.any fun kv => decide (kv.1 = k)) = (xs.map (·.1)).any fun z => decide (z = k) := by rw [List.any_map]; rfl
  rw [e1, e2, h.1]
theorem RepD.repl {K : PySem.W.Frag} {F : Hp} {k : Key} {v : V} {x : PV} (r : Rep K F v x) : ∀ {vs : List (Key × V)} {xs : List (Key × PV)}, RepD K F vs xs → RepD K F (vs.map fun kv => if kv.1 = k then (kv.1, v) else kv) (xs.map fun kv => if kv.1 = k then (kv.1, x) else kv)
  | [], [], h => h
  | _ :: _, [], h => by cases repD_nil h
  | [], _ :: _, h => (repD_nil' h).elim
  | (k1, w) :: vs, (k2, y) :: xs, h => by
    obtain ⟨e, rr, t⟩ := repD_cons.mp h
    have ih := RepD.repl (k := k) r t
    have e : k1 = k2 := e
    subst e
    rw [List.map_cons, List.map_cons]
    by_cases z : k1 = k
    · rw [if_pos z, if_pos z]; exact repD_cons.mpr ⟨rfl, r, ih⟩
    · rw [if_neg z, if_neg z]; exact repD_cons.mpr ⟨rfl, rr, ih⟩
theorem RepD.append {K : PySem.W.Frag} {F : Hp} {vs ws : List (Key × V)} {xs ys : List (Key × PV)} (h : RepD K F vs xs) (h' : RepD K F ws ys) : RepD K F (vs ++ ws) (xs ++ ys) :=
  ⟨by rw [List.map_append, List.map_append, h.1, h'.1], by rw [List.map_append, List.map_append]; exact h.2.append h'.2⟩
theorem RepD.put {K : PySem.W.Frag} {F : Hp} {k : Key} {v : V} {x : PV} {vs : List (Key × V)} {xs : List (Key × PV)} (h : RepD K F vs xs) (r : Rep K F v x) : RepD K F (putK vs k v) (putP xs k x) := by
  unfold putK putP
  rw [h.anyK k]
  split
  · exact h.repl r
  · exact h.append ⟨rfl, .cons r .nil⟩

theorem RepA.atI {K : PySem.W.Frag} {F : Hp} {vs : List V} {xs : List PV} {i : Int} {x : PV} (r : RepA K F vs xs) (e : atI xs i = some x) : ∃ v, atI vs i = some v ∧ Rep K F v x := by
  unfold L2.atI at e ⊢
  rw [r.length]
  cases q : ixN xs.length i with
  | none => rw [q] at e; cases e
  | some j => rw [q] at e; exact r.get (i := j) e
def ixL (xs : List PV) (y : PV) (G : GH) (P : PK1) : Prop := match y with
  | .int i => (match atI xs i with
    | some v => P v G
    | none => False)
  | _ => False
def ixD (kvs : List (Key × PV)) (y : PV) (G : GH) (P : PK1) : Prop := match pkey y with
  | some k => (match valP kvs k with
    | some v => P v G
    | none => False)
  | none => False
def ixS (z : Str) (y : PV) (G : GH) (P : PK1) : Prop := match y with
  | .int i => z.length ≤ sizeLine ∧ (match atI z.cps.toList i with
    | some c => P (.str ⟨#[c]⟩) G
    | none => False)
  | _ => False
def rIx (x : PV) (y : PV) (G : GH) (P : PK1) : Prop := match x with
  | .tup xs => ixL xs y G P
  | .lst xs => ixL xs y G P
  | .scr ns => ixL (ns.map .int) y G P
  | .str z => ixS z y G P
  | .ref a => (match G a with
    | some (.lst xs) => ixL xs y G P
    | some (.dk kvs) => ixD kvs y G P
    | _ => False)
  | _ => False
theorem ix_dictV (hu : X.A.units + 1 < cLine) : IxR X (fun x y H Q => ∃ a v, x = .ref a ∧ DGet H a y (some v) ∧ Q v H) := by
  intro value slice pins s σ H x y v u Q I rx ry h hs
  obtain ⟨a, w, rfl, g, q⟩ := h
  cases rx
  exact tail_any (dict_typeIs I g) PySem.F.slot_dict_getitem.lookup (d_getItem hu I g ry fun w' s3 I3 rw' => ⟨w, H, I3, rw', q⟩) hs
theorem q_ixL {F H : Hp} {G : GH} {a : Addr} {vs : List V} {xs : List PV} {u : V} {y : PV} {P : PK1} {Q : VK} (hr : Rl X.K F H G) (hs : SqL X.K H a vs ∨ SqT X.K H a vs) (ra : RepA X.K F vs xs) (ru : Rep X.K F u y)
    (h : ixL xs y G P) (lq : LkQ X.K F P Q) : WIx X (.ref a) u H Q := by
  cases y with
  | int i =>
    cases ru
    unfold ixL at h
    dsimp only at h
    split at h
    · rename_i x e
      obtain ⟨v, e1, r1⟩ := ra.atI e
      rcases hs with hs | hs
      · exact wix_of ix_list ⟨a, vs, i, v, rfl, rfl, hs, e1, lq F H G _ _ (Same.refl F) hr r1 h⟩
      · exact wix_of ix_tup ⟨a, vs, i, v, rfl, rfl, hs, e1, lq F H G _ _ (Same.refl F) hr r1 h⟩
    · exact h.elim
  | _ => exact False.elim h
theorem q_ix (hu : X.A.units + 1 < cLine) : Q2 X (WIx X) rIx := by
  intro F H G v u x y P Q hr rx ry h lq
  cases x with
  | tup xs =>
    cases rx with
    | tup t1 t2 => exact q_ixL hr (.inr (Same.tupT hr.sub t1.sq)) t2 ry h lq
  | lst xs =>
    cases rx with
    | lst t1 t2 => exact q_ixL hr (.inl (.inl (.inl (hr.sub _ _ t1)))) t2 ry h lq
  | scr ns =>
    cases rx with
    | scr t1 => exact q_ixL hr (.inl (hr.sub.seq t1)) (RepA.of_ints ns) ry h lq
  | str z =>
    cases y with
    | int i =>
      cases ry
      cases rx
      obtain ⟨h1, h⟩ := (show z.length ≤ sizeLine ∧ (match atI z.cps.toList i with
        | some c => P (.str ⟨#[c]⟩) G
        | none => False) from h)
      split at h
      · rename_i c e
        exact wix_of ix_str ⟨z, i, c, rfl, rfl, h1, e, lq F H G _ _ (Same.refl F) hr (.str _) h⟩
      · exact h.elim
    | _ => exact False.elim h
  | ref a =>
    cases rx
    unfold rIx at h
    dsimp only at h
    split at h
    · rename_i xs ga
      obtain ⟨_, vs, e1, r1⟩ := hr.own _ _ ga
      exact q_ixL hr (.inl (.inl (.inl e1))) r1 ry h lq
    · rename_i kvs ga
      obtain ⟨_, vs, e1, r1⟩ := hr.own _ _ ga
      unfold ixD at h
      split at h
      · rename_i k ek
        split at h
        · rename_i x ex
          obtain ⟨w, e2, r2⟩ := (r1.val k).1 x ex
          exact wix_of (ix_dictV hu) ⟨a, w, rfl, .inl ⟨vs, k, .inl e1, pkey_v ry ek, e2.symm⟩, lq F H G _ _ (Same.refl F) hr r2 h⟩
        · exact h.elim
      · exact h.elim
    · exact h.elim
  | _ => exact False.elim h

/-! ### a[i] = x -/
def setL (a : Addr) (xs : List PV) (i x : PV) (G : GH) (P : GH → Prop) : Prop := match i with
  | .int k => (match ixN xs.length k with
    | some j => P (gset G a (.lst (xs.set j x)))
    | none => False)
  | _ => False
def setD (a : Addr) (kvs : List (Key × PV)) (i x : PV) (G : GH) (P : GH → Prop) : Prop := match pkey i with
  | some k => kvs.length < sizeLine ∧ P (gset G a (.dk (putP kvs k x)))
  | none => False
def rSet (o : PV) (i : PV) (x : PV) (G : GH) (P : (GH → Prop)) : Prop := match o with
  | .ref a => (match G a with
    | some (.lst xs) => setL a xs i x G P
    | some (.dk kvs) => setD a kvs i x G P
    | _ => False)
  | _ => False
theorem q_set (hu : X.A.units + 1 < cLine) : Q3 X (WSet X) rSet := by
  intro F H G o i v po pi px P Q hr ro ri rv h hq
  cases po with
  | ref a =>
    cases ro
    unfold rSet at h
    dsimp only at h
    split at h
    · rename_i xs ga
      obtain ⟨n, vs, e1, r1⟩ := hr.own _ _ ga
      cases pi with
      | int k =>
        cases ri
        unfold setL at h
        dsimp only at h
        split at h
        · rename_i j ej
          exact wset_of set_list ⟨a, vs, k, j, rfl, rfl, e1, by rw [r1.length]; exact ej, hq F _ _ (Same.refl F) (hr.owned (g := .lst (xs.set j px)) n ⟨_, upd_same, RepA.set rv j r1⟩) h⟩
        · exact h.elim
      | _ => exact False.elim h
    · rename_i kvs ga
      obtain ⟨n, vs, e1, r1⟩ := hr.own _ _ ga
      unfold setD at h
      split at h
      · rename_i k ek
        refine fun pins s σ ov iv u I r1' r2 r3 => ?_
        cases r1'
        exact d_setItem hu I (.inl ⟨vs, k, e1, pkey_v ri ek, by rw [r1.length]; exact h.1, rfl⟩) r2 r3 fun s' I' => ⟨_, I', hq F _ _ (Same.refl F) (hr.owned (g := .dk (putP kvs k px)) n ⟨_, upd_same, r1.put rv⟩) h.2⟩
      · exact h.elim
    · exact h.elim
  | _ => exact False.elim h
end
end PL
end

section
/-! POps3: slices, membership, dict displays, built-ins, isinstance, methods, repr. -/
namespace PL
open PySem PySem.Spec PyProof.Rows L2

/-! ### slices -/
abbrev PTO := PEn → GH → (Option Int → GH → Prop) → PXK → Prop
def WPo (X : Cx) (o : Option Expr) : TO := fun σ H Q => ∃ t, PO X o t ∧ t σ H Q
theorem po_w {X : Cx} {o : Option Expr} : PO X o (WPo X o) := ⟨fun pins s σ H Q I ⟨t, h, q⟩ => h.run pins s σ H Q I q⟩
def WSl (X : Cx) : V → Option Int → Option Int → Hp → VK → Prop := fun x lo hi H Q => ∃ r, SlR X r ∧ r x lo hi H Q
theorem sl_w {X : Cx} : SlR X (WSl X) := fun pins s σ H x v vl vu lo hi sl Q I rx hs pl pu ⟨r, h, q⟩ => h pins s σ H x v vl vu lo hi sl Q I rx hs pl pu q
structure QO (X : Cx) (o : Option Expr) (t : PTO) : Prop where
  run : ∀ (W : WX), Takes X W → ∀ (F H : Hp) (G : GH) (σ : List (Option V)) (env : PEn) (P : Option Int → GH → Prop) (Ex : PXK) (Q : Option Int → Hp → Prop), Rl X.K F H G → Vs X.K F σ env → t env G P Ex →
    (∀ F' H' G' i, Same F F' → Rl X.K F' H' G' → P i G' → Q i H') → LkX X.K F Ex W → WPo X o σ H Q
def pNoPart (_z0 : PEn) (G : GH) (P : (Option Int → GH → Prop)) (_z3 : PXK) : Prop := P none G
def pPart (t : PTE) (env : PEn) (G : GH) (P : (Option Int → GH → Prop)) (Ex : PXK) : Prop := t env G (fun x G1 => match x with
  | .int i => P (some i) G1
  | _ => False) Ex
theorem qo_none {X : Cx} : QO X none pNoPart := ⟨fun W tk F H G σ env P Ex Q hr hv h lq lx => ⟨_, po_none, lq F H G none (Same.refl F) hr h⟩⟩
theorem qo_some {X : Cx} {e : Expr} {t : PTE} (he : QE X e t) : QO X (some e) (pPart t) := by
  refine ⟨fun W tk F H G σ env P Ex Q hr hv h lq lx => ⟨_, po_some pe_we, ?_⟩⟩
  refine he.run W tk F H G σ env _ Ex _ hr hv h (fun F1 H1 G1 v x s1 r1 rv h1 => ?_) lx
  cases x with
  | int i => cases rv; exact ⟨i, rfl, lq F1 H1 G1 _ s1 r1 h1⟩
  | _ => exact False.elim h1
def cutP (xs : List PV) (lo hi : Option Int) : List PV := (xs.drop (HT.sIx xs.length 0 lo)).take (HT.sIx xs.length xs.length hi - HT.sIx xs.length 0 lo)
theorem RepA.cut {K : PySem.W.Frag} {F : Hp} {vs : List V} {xs : List PV} (r : RepA K F vs xs) (lo hi : Option Int) : RepA K F (cutV vs lo hi) (cutP xs lo hi) := by
  unfold cutV cutP
  rw [r.length]
  exact (r.drop _).take _
def rSl (x : PV) (lo hi : Option Int) (G : GH) (P : PK1) : Prop := match x with
  | .tup xs => P (.tup (cutP xs lo hi)) G
  | .lst xs => P (.lst (cutP xs lo hi)) G
  | .scr ns => P (.lst (cutP (ns.map .int) lo hi)) G
  | .ref a => (match ownL G a with
    | some xs => P (.lst (cutP xs lo hi)) G
    | none => False)
  | _ => False
def pSl (te : PTE) (tl th : PTO) (env : PEn) (G : GH) (P : PK1) (Ex : PXK) : Prop := te env G (fun x G1 => tl env G1 (fun l G2 => th env G2 (fun u G3 => rSl x l u G3 P) Ex) Ex) Ex
section
variable {X : Cx}
theorem q_slL {F H : Hp} {G : GH} {a : Addr} {vs : List V} {xs : List PV} {lo hi : Option Int} {P : PK1} {Q : VK} (hr : Rl X.K F H G) (hs : SqL X.K H a vs) (ra : RepA X.K F vs xs) (h : P (.lst (cutP xs lo hi)) G) (lq : LkQ X.K F P Q) : WSl X (.ref a) lo hi H Q := by
  refine ⟨_, sl_list, a, vs, rfl, hs, fun p hp => ?_⟩
  have n := hr.sub.free hp
  exact lq _ _ _ _ _ (Same.new n) (hr.froze hp) (.lst upd_same (RepA.mono (Same.new n) _ _ (ra.cut lo hi))) h
theorem q_sl {F H : Hp} {G : GH} {v : V} {x : PV} {lo hi : Option Int} {P : PK1} {Q : VK} (hr : Rl X.K F H G) (rx : Rep X.K F v x) (h : rSl x lo hi G P) (lq : LkQ X.K F P Q) : WSl X v lo hi H Q := by
  cases x with
  | tup xs =>
    cases rx with
    | tup t1 t2 =>
      refine ⟨_, sl_tupN, _, _, rfl, Same.tupT hr.sub t1.sq, fun e => ?_, fun e p o hp hd => ?_⟩
      · have ec : cutP xs lo hi = xs := by
          unfold cutP
          rw [t2.length] at e
          rw [e.1, e.2]
          simp
        exact lq F H G _ _ (Same.refl F) hr (.tup t1 t2) (by have h' : P (.tup (cutP xs lo hi)) G := h; rw [ec] at h'; exact h')
      · have n := hr.sub.free hp
        exact lq _ _ _ _ _ (Same.new n) (hr.froze hp) (.tup (TupOk.new hd) (RepA.mono (Same.new n) _ _ (t2.cut lo hi))) h
  | lst xs =>
    cases rx with
    | lst t1 t2 => exact q_slL hr (.inl (.inl (hr.sub _ _ t1))) t2 h lq
  | scr ns =>
    cases rx with
    | scr t1 => exact q_slL hr (hr.sub.seq t1) (RepA.of_ints ns) h lq
  | ref a =>
    cases rx
    unfold rSl at h
    dsimp only at h
    split at h
    · rename_i xs e
      obtain ⟨_, vs, h1, h2⟩ := hr.own _ _ (ownL_eq e)
      exact q_slL hr (.inl (.inl h1)) h2 h lq
    · exact h.elim
  | _ => exact False.elim h
theorem qe_sl {e : Expr} {lo hi : Option Expr} {te : PTE} {tl th : PTO} {pos p2 : Pos} (he : QE X e te) (hl : QO X lo tl) (hh : QO X hi th) : QE X (.Subscript e (.Slice lo hi none p2) pos) (pSl te tl th) := by
  refine ⟨fun W tk F H G σ env P Ex Q hr hv h lq lx => we_of (pe_slice sl_w pe_we po_w po_w) ?_⟩
  refine he.run W tk F H G σ env _ Ex _ hr hv h (fun F1 H1 G1 v x s1 r1 rv h1 => ?_) lx
  refine hl.run W tk F1 H1 G1 σ env _ Ex _ r1 (hv.mono s1) h1 (fun F2 H2 G2 l s2 r2 h2 => ?_) (lx.mono s1)
  refine hh.run W tk F2 H2 G2 σ env _ Ex _ r2 ((hv.mono s1).mono s2) h2 (fun F3 H3 G3 u s3 r3 h3 => ?_) ((lx.mono s1).mono s2)
  exact q_sl r3 (Rep.mono (s2.trans s3) _ _ rv) h3 (((lq.mono s1).mono s2).mono s3)

/-! ### in -/
def flatP : PV → Bool
  | .non => true
  | .bl _ => true
  | .int _ => true
  | .str _ => true
  | _ => false
def eqP (x y : PV) : Bool := PyData.eqv x.dat y.dat
theorem flat_v {K : PySem.W.Frag} {F : Hp} {v : V} {x : PV} (r : Rep K F v x) (h : flatP x = true) : flatV v = true := by
  cases x with
  | non => cases r; rfl
  | bl b => cases r; rfl
  | int b => cases r; rfl
  | str b => cases r; rfl
  | _ => cases h
theorem eqP_v {K : PySem.W.Frag} {F : Hp} {v u : V} {x y : PV} (r : Rep K F v x) (q : Rep K F u y) (h : flatP x = true) (h' : flatP y = true) : eqV v u = eqP x y := by
  cases x with
  | non => cases r; cases y with
    | non => cases q; rfl
    | bl b => cases q; rfl
    | int b => cases q; rfl
    | str b => cases q; rfl
    | _ => cases h'
  | bl b => cases r; cases y with
    | non => cases q; rfl
    | bl b => cases q; rfl
    | int b => cases q; rfl
    | str b => cases q; rfl
    | _ => cases h'
  | int b => cases r; cases y with
    | non => cases q; rfl
    | bl b => cases q; rfl
    | int b => cases q; rfl
    | str b => cases q; rfl
    | _ => cases h'
  | str b => cases r; cases y with
    | non => cases q; rfl
    | bl b => cases q; rfl
    | int b => cases q; rfl
    | str b => cases q; rfl
    | _ => cases h'
  | _ => cases h
theorem allFlat {K : PySem.W.Frag} {F : Hp} : ∀ {vs : List V} {xs : List PV}, RepA K F vs xs → xs.all flatP = true → vs.all flatV = true
  | _, _, .nil, _ => rfl
  | _, _, .cons r t, h => by
    rw [List.all_cons, Bool.and_eq_true] at h
    rw [List.all_cons, Bool.and_eq_true]
    exact ⟨flat_v r h.1, allFlat t h.2⟩
theorem inV_eq {K : PySem.W.Frag} {F : Hp} {u : V} {y : PV} (q : Rep K F u y) (h' : flatP y = true) : ∀ {vs : List V} {xs : List PV}, RepA K F vs xs → xs.all flatP = true → inV u vs = xs.any fun x => eqP x y
  | _, _, .nil, _ => rfl
  | _, _, .cons r t, h => by
    rw [List.all_cons, Bool.and_eq_true] at h
    have ih := inV_eq q h' t h.2
    unfold inV at ih ⊢
    rw [List.any_cons, List.any_cons, eqP_v r q h.1 h', ih]
/-- membership: flat items of a list or tuple, or a dict's keys -/
def rMem (neg : Bool) (x : PV) (y : PV) (G : GH) (P : PK1) : Prop := match y with
  | .tup ys => flatP x = true ∧ ys.all flatP = true ∧ P (.bl (if neg = true then !(ys.any fun z => eqP z x) else ys.any fun z => eqP z x)) G
  | .lst ys => flatP x = true ∧ ys.all flatP = true ∧ P (.bl (if neg = true then !(ys.any fun z => eqP z x) else ys.any fun z => eqP z x)) G
  | .ref a => (match G a with
    | some (.lst ys) => flatP x = true ∧ ys.all flatP = true ∧ P (.bl (if neg = true then !(ys.any fun z => eqP z x) else ys.any fun z => eqP z x)) G
    | some (.dk kvs) => (match pkey x with
      | some k => P (.bl (if neg = true then !(valP kvs k).isSome else (valP kvs k).isSome)) G
      | none => False)
    | _ => False)
  | _ => False
def opMem (neg : Bool) : CmpOp := if neg = true then .NotIn else .In
theorem q_mem_s {neg : Bool} {F H : Hp} {G : GH} {v : V} {x : PV} {a : Addr} {vs : List V} {ys : List PV} {P : PK1} {Q : VK} (hr : Rl X.K F H G) (rx : Rep X.K F v x) (hs : SqL X.K H a vs ∨ SqT X.K H a vs) (ra : RepA X.K F vs ys)
    (h : flatP x = true ∧ ys.all flatP = true ∧ P (.bl (if neg = true then !(ys.any fun z => eqP z x) else ys.any fun z => eqP z x)) G) (lq : LkQ X.K F P Q) : WO X (compareOp (opMem neg)) v (.ref a) H Q := by
  obtain ⟨h1, h2, h3⟩ := h
  cases neg with
  | true => exact wo_of op_notIn_seq ⟨a, vs, rfl, hs, flat_v rx h1, allFlat ra h2, by rw [inV_eq rx h1 ra h2]; exact lq F H G _ _ (Same.refl F) hr (.bl _) h3⟩
  | false => exact wo_of op_in_seq ⟨a, vs, rfl, hs, flat_v rx h1, allFlat ra h2, by rw [inV_eq rx h1 ra h2]; exact lq F H G _ _ (Same.refl F) hr (.bl _) h3⟩
theorem q_mem (neg : Bool) (hu : X.A.units + 1 < cLine) : Q2 X (WO X (compareOp (opMem neg))) (rMem neg) := by
  intro F H G v u x y P Q hr rx ry h lq
  cases y with
  | tup ys =>
    cases ry with
    | tup t1 t2 => exact q_mem_s hr rx (.inr (Same.tupT hr.sub t1.sq)) t2 h lq
  | lst ys =>
    cases ry with
    | lst t1 t2 => exact q_mem_s hr rx (.inl (.inl (.inl (hr.sub _ _ t1)))) t2 h lq
  | ref a =>
    cases ry
    unfold rMem at h
    dsimp only at h
    split at h
    · rename_i ys ga
      obtain ⟨_, vs, e1, r1⟩ := hr.own _ _ ga
      exact q_mem_s hr rx (.inl (.inl (.inl e1))) r1 h lq
    · rename_i kvs ga
      obtain ⟨_, vs, e1, r1⟩ := hr.own _ _ ga
      split at h
      · rename_i k ek
        have hv : (valV vs k).isSome = (valP kvs k).isSome := by
          have z := r1.val k
          cases q : valP kvs k with
          | none => rw [z.2 q]; rfl
          | some w => obtain ⟨u, h1, _⟩ := z.1 w q; rw [h1]; rfl
        refine fun pins s σ w' u' I r1' r2' => ?_
        cases r2'
        cases neg with
        | true => exact d_notIn hu I (.inl ⟨vs, k, .inl e1, pkey_v rx ek, rfl⟩) r1' fun s' I' => ⟨.bl _, _, I', rfl, lq F H G _ _ (Same.refl F) hr (by rw [hv]; exact .bl _) h⟩
        | false => exact d_in hu I (.inl ⟨vs, k, .inl e1, pkey_v rx ek, rfl⟩) r1' fun s' I' => ⟨.bl _, _, I', rfl, lq F H G _ _ (Same.refl F) hr (by rw [hv]; exact .bl _) h⟩
      · exact h.elim
    · exact h.elim
  | _ => exact False.elim h

/-! ### dict displays -/
def pDict0 (_z0 : PEn) (G : GH) (P : PK1) (_z3 : PXK) : Prop := ∀ p, G p = none → P (.ref p) (gset G p (.dk []))
theorem qe_dict0 {pos : Pos} : QE X (.Dict [] [] pos) pDict0 := by
  refine ⟨fun W tk F H G σ env P Ex Q hr hv h lq lx => we_of pe_dnewK fun p hp => ?_⟩
  exact lq F _ _ _ _ (Same.refl F) (hr.owned (g := .dk []) (hr.sub.free hp) ⟨[], upd_same, rfl, .nil⟩) (.ref p) (h p (hr.free hp))
def pPairs : List (PTE × PTE) → PEn → GH → (List (PV × PV) → GH → Prop) → PXK → Prop
  | [], _, G, P, _ => P [] G
  | (tk, tv) :: r, env, G, P, Ex => tk env G (fun x G1 => tv env G1 (fun y G2 => pPairs r env G2 (fun ps G3 => P ((x, y) :: ps) G3) Ex) Ex) Ex
inductive QPs (X : Cx) : List (Option Expr) → List Expr → List (PTE × PTE) → Prop
  | nil : QPs X [] [] []
  | cons {k v : Expr} {ks : List (Option Expr)} {vs : List Expr} {tk tv : PTE} {r : List (PTE × PTE)} : QE X k tk → QE X v tv → QPs X ks vs r → QPs X (some k :: ks) (v :: vs) ((tk, tv) :: r)
def wPairs (X : Cx) : List (Option Expr) → List Expr → List (TE × TE)
  | some k :: ks, v :: vs => (WE X k, WE X v) :: wPairs X ks vs
  | _, _ => []
theorem QPs.pps {ks : List (Option Expr)} {vs : List Expr} {r : List (PTE × PTE)} {pos : Pos} (h : QPs X ks vs r) : PPs X pos ks vs (wPairs X ks vs) := by
  induction h with
  | nil => exact pps_nil
  | cons _ _ _ ih => exact pps_cons pe_we pe_we ih
inductive RepP (K : PySem.W.Frag) (F : Hp) : List (V × V) → List (PV × PV) → Prop
  | nil : RepP K F [] []
  | cons {v u : V} {x y : PV} {vs : List (V × V)} {xs : List (PV × PV)} : Rep K F v x → Rep K F u y → RepP K F vs xs → RepP K F ((v, u) :: vs) ((x, y) :: xs)
theorem pairs_go {W : WX} (tk : Takes X W) {σ : List (Option V)} {env : PEn} {Ex : PXK} {ks : List (Option Expr)} {vs : List Expr} {r : List (PTE × PTE)} (hq : QPs X ks vs r) :
    ∀ {F H : Hp} {G : GH} {P : List (PV × PV) → GH → Prop} {Q : List (V × V) → Hp → Prop}, Rl X.K F H G → Vs X.K F σ env → pPairs r env G P Ex → (∀ F' H' G' ps qs, Same F F' → Rl X.K F' H' G' → RepP X.K F' ps qs → P qs G' → Q ps H') → LkX X.K F Ex W → tPairs (wPairs X ks vs) σ H Q := by
  induction hq with
  | nil => intro F H G P Q hr hv h lq lx; exact lq F H G [] [] (Same.refl F) hr .nil h
  | cons hk hv' hr' ih =>
    intro F H G P Q hr hv h lq lx
    refine hk.run W tk F H G σ env _ Ex _ hr hv h (fun F1 H1 G1 v x s1 r1 rv h1 => ?_) lx
    refine hv'.run W tk F1 H1 G1 σ env _ Ex _ r1 (hv.mono s1) h1 (fun F2 H2 G2 u y s2 r2 ru h2 => ?_) (lx.mono s1)
    refine ih r2 ((hv.mono s1).mono s2) h2 (fun F3 H3 G3 ps qs s3 r3 rp h3 => ?_) ((lx.mono s1).mono s2)
    exact lq F3 H3 G3 _ _ ((s1.trans s2).trans s3) r3 (.cons (Rep.mono (s2.trans s3) _ _ rv) (Rep.mono s3 _ _ ru) rp) h3
def keysP : List (PV × PV) → Option (List (Key × PV))
  | [] => some []
  | (x, y) :: r => match pkey x, keysP r with
    | some k, some ks => some ((k, y) :: ks)
    | _, _ => none
def mergeP (kvs more : List (Key × PV)) : List (Key × PV) := more.foldl (fun acc kv => putP acc kv.1 kv.2) kvs
theorem keysP_v {K : PySem.W.Frag} {F : Hp} : ∀ {ps : List (V × V)} {qs : List (PV × PV)} {ks : List (Key × PV)}, RepP K F ps qs → keysP qs = some ks → ∃ vs : List (Key × V), ps = vs.map (fun kv => (kV kv.1, kv.2)) ∧ RepD K F vs ks
  | _, _, _, .nil, e => by cases e; exact ⟨[], rfl, rfl, .nil⟩
  | _, _, ks, .cons (x := x) (xs := xs) r1 r2 t, e => by
    unfold keysP at e
    split at e
    · rename_i k ks' e1 e2
      cases e
      obtain ⟨vs, h1, h2⟩ := keysP_v t e2
      refine ⟨(k, _) :: vs, ?_, repD_cons.mpr ⟨rfl, r2, h2⟩⟩
      rw [List.map_cons, ← h1, pkey_v r1 e1]
    · cases e
theorem mergeD {K : PySem.W.Frag} {F : Hp} : ∀ {more : List (Key × V)} {ms : List (Key × PV)} {vs : List (Key × V)} {xs : List (Key × PV)}, RepD K F more ms → RepD K F vs xs → RepD K F (mergeK vs more) (mergeP xs ms)
  | [], [], _, _, _, h => h
  | _ :: _, [], _, _, h, _ => by cases repD_nil h
  | [], _ :: _, _, _, h, _ => (repD_nil' h).elim
  | (k1, v) :: more, (k2, x) :: ms, vs, xs, h, h2 => by
    obtain ⟨e, r, t⟩ := repD_cons.mp h
    have e : k1 = k2 := e
    subst e
    exact mergeD (more := more) (ms := ms) (vs := putK vs k1 v) (xs := putP xs k1 x) t (h2.put r)
def pDict (trs : List (PTE × PTE)) (env : PEn) (G : GH) (P : PK1) (Ex : PXK) : Prop := ∀ p, G p = none → pPairs trs env (gset G p (.dk [])) (fun qs G2 => G2 p = some (.dk []) ∧ match keysP qs with
  | some ks => ks.length ≤ 15 ∧ P (.ref p) (gset G2 p (.dk (mergeP [] ks)))
  | none => False) Ex
theorem qe_dict {pos : Pos} {keys : List (Option Expr)} {values : List Expr} {trs : List (PTE × PTE)} (h : QPs X keys values trs) (hall : keys.all (·.isSome) = true := by rfl) (hl : keys.length = values.length := by rfl) (h0 : keys ≠ [] := by exact fun e => nomatch e)
    (h15 : keys.length ≤ 15 := by decide) : QE X (.Dict keys values pos) (pDict trs) := by
  refine ⟨fun W tk F H G σ env P Ex Q hr hv hh lq lx => we_of (pe_disp h.pps hall hl h0 h15) fun p hp => ?_⟩
  have n := hr.sub.free hp
  refine pairs_go tk h (hr.owned (g := .dk []) n ⟨[], upd_same, rfl, .nil⟩) hv (hh p (hr.free hp)) (fun F' H' G' ps qs s r rp hq => ?_) lx
  obtain ⟨e, hq⟩ := hq
  obtain ⟨n', vs0, e0, r0⟩ := r.own _ _ e
  obtain rfl := repD_nil r0
  split at hq
  · rename_i ks ek
    obtain ⟨vs, h1, h2⟩ := keysP_v rp ek
    exact ⟨e0, vs, h1, by rw [h2.length]; exact hq.1, lq F' _ _ _ _ s (r.owned (g := .dk (mergeP [] ks)) n' ⟨_, upd_same, mergeD h2 r0⟩) (.ref p) hq.2⟩
  · exact hq.elim

/-! ### built-ins -/
def rAbs (xs : (List PV)) (G : GH) (P : PK1) : Prop := match xs with
  | [.int i] => P (.int (if i < 0 then -i else i)) G
  | _ => False
theorem q_abs : Qn X (WC X (.builtin "abs")) rAbs := by
  intro F H G vs xs P Q hr ra h lq
  match xs, ra, h with
  | [.int i], .cons (.int _) .nil, h => exact wc_of call_abs ⟨i, rfl, lq F H G _ _ (Same.refl F) hr (.int _) h⟩
def rLen (xs : (List PV)) (G : GH) (P : PK1) : Prop := match xs with
  | [.tup ys] => P (.int ys.length) G
  | [.lst ys] => P (.int ys.length) G
  | [.scr ns] => P (.int ns.length) G
  | [.str z] => z.length ≤ sizeLine ∧ P (.int z.length) G
  | [.ref a] => (match G a with
    | some (.lst ys) => P (.int ys.length) G
    | some (.dk kvs) => P (.int kvs.length) G
    | _ => False)
  | _ => False
theorem q_len : Qn X (WC X (.builtin "len")) rLen := by
  intro F H G vs xs P Q hr ra h lq
  match xs, ra, h with
  | [.tup ys], .cons (.tup t1 t2) .nil, h => exact wc_of call_len_seq ⟨_, _, rfl, .inr (Same.tupT hr.sub t1.sq), lq F H G _ _ (Same.refl F) hr (by rw [t2.length]; exact .int _) h⟩
  | [.lst ys], .cons (.lst t1 t2) .nil, h => exact wc_of call_len_seq ⟨_, _, rfl, .inl (.inl (.inl (hr.sub _ _ t1))), lq F H G _ _ (Same.refl F) hr (by rw [t2.length]; exact .int _) h⟩
  | [.scr ns], .cons (.scr t1) .nil, h => exact wc_of call_len_seq ⟨_, _, rfl, .inl (hr.sub.seq t1), lq F H G _ _ (Same.refl F) hr (by rw [List.length_map]; exact .int _) h⟩
  | [.str z], .cons (.str _) .nil, h => exact wc_of call_len_str ⟨z, rfl, h.1, lq F H G _ _ (Same.refl F) hr (.int _) h.2⟩
  | [.ref a], .cons (.ref _) .nil, h =>
    have h' : (match G a with
      | some (.lst ys) => P (.int ys.length) G
      | some (.dk kvs) => P (.int kvs.length) G
      | _ => False) := h
    clear h
    split at h'
    · rename_i ys ga
      obtain ⟨_, us, e1, r1⟩ := hr.own _ _ ga
      exact wc_of call_len_seq ⟨_, _, rfl, .inl (.inl (.inl e1)), lq F H G _ _ (Same.refl F) hr (by rw [r1.length]; exact .int _) h'⟩
    · rename_i kvs ga
      obtain ⟨_, us, e1, r1⟩ := hr.own _ _ ga
      refine fun pins s σ us' I rv => ?_
      obtain rfl := rv.ref1
      exact d_len I (.inl e1) fun t s' I' => ⟨.int _, H, I', ⟨t, rfl⟩, lq F H G _ _ (Same.refl F) hr (by rw [r1.length]; exact .int _) h'⟩
    · exact h'.elim
/-- list(x): a new list, frozen or owned -/
def seqOf (G : GH) : PV → Option (List PV)
  | .tup xs => some xs
  | .lst xs => some xs
  | .scr ns => some (ns.map .int)
  | .ref a => ownL G a
  | _ => none
theorem seqOf_ok {K : PySem.W.Frag} {F H : Hp} {G : GH} {v : V} {x : PV} {xs : List PV} (hr : Rl K F H G) (r : Rep K F v x) (e : seqOf G x = some xs) : ∃ a vs, v = .ref a ∧ (SqL K H a vs ∨ SqT K H a vs) ∧ RepA K F vs xs := by
  cases x with
  | tup ys =>
    cases e
    cases r with
    | tup h1 h2 => exact ⟨_, _, rfl, .inr (Same.tupT hr.sub h1.sq), h2⟩
  | lst ys =>
    cases e
    cases r with
    | lst h1 h2 => exact ⟨_, _, rfl, .inl (.inl (.inl (hr.sub _ _ h1))), h2⟩
  | scr ns =>
    cases e
    cases r with
    | scr h1 => exact ⟨_, _, rfl, .inl (hr.sub.seq h1), RepA.of_ints ns⟩
  | ref a =>
    cases r
    obtain ⟨_, vs, h1, h2⟩ := hr.own _ _ (ownL_eq e)
    exact ⟨a, vs, rfl, .inl (.inl (.inl h1)), h2⟩
  | _ => cases e
def rList (own : Bool) (xs : (List PV)) (G : GH) (P : PK1) : Prop := match xs with
  | [x] => (match seqOf G x with
    | some ys => if own = true then ∀ p, G p = none → P (.ref p) (gset G p (.lst ys)) else P (.lst ys) G
    | none => False)
  | _ => False
theorem q_list (own : Bool) : Qn X (WC X (.type "list")) (rList own) := by
  intro F H G vs xs P Q hr ra h lq
  match xs, ra, h with
  | [x], .cons r .nil, h =>
    have h' : (match seqOf G x with
      | some ys => if own = true then ∀ p, G p = none → P (.ref p) (gset G p (.lst ys)) else P (.lst ys) G
      | none => False) := h
    clear h
    split at h'
    · rename_i ys e
      obtain ⟨a, us, rfl, h1, r1⟩ := seqOf_ok hr r e
      refine wc_of call_list_of ⟨a, us, rfl, h1, fun p hp => ?_⟩
      have n := hr.sub.free hp
      cases own with
      | true => exact lq F _ _ _ _ (Same.refl F) (hr.owned (g := .lst ys) n ⟨us, upd_same, r1⟩) (.ref p) (h' p (hr.free hp))
      | false => exact lq _ _ _ _ _ (Same.new n) (hr.froze hp) (.lst upd_same (RepA.mono (Same.new n) _ _ r1)) h'
    · exact h'.elim
def rTuple (xs : (List PV)) (G : GH) (P : PK1) : Prop := match xs with
  | [x] => (match seqOf G x with
    | some ys => P (.tup ys) G
    | none => False)
  | _ => False
theorem q_tuple_l {F H : Hp} {G : GH} {a : Addr} {us : List V} {ys : List PV} {P : PK1} {Q : VK} (hr : Rl X.K F H G) (hs : SqL X.K H a us) (ra : RepA X.K F us ys) (h : P (.tup ys) G) (lq : LkQ X.K F P Q) : WC X (.type "tuple") [.ref a] H Q := by
  refine wc_of call_tupleN ⟨_, _, rfl, .inl ⟨hs, fun p o hp hd => ?_⟩⟩
  have n := hr.sub.free hp
  exact lq _ _ _ _ _ (Same.new n) (hr.froze hp) (.tup (TupOk.new hd) (RepA.mono (Same.new n) _ _ ra)) h
theorem q_tuple : Qn X (WC X (.type "tuple")) rTuple := by
  intro F H G vs xs P Q hr ra h lq
  match xs, ra, h with
  | [x], .cons r .nil, h =>
    have h' : (match seqOf G x with
      | some ys => P (.tup ys) G
      | none => False) := h
    clear h
    cases x with
    | tup ys =>
      cases r with
      | tup t1 t2 => exact wc_of call_tupleN ⟨_, _, rfl, .inr ⟨Same.tupT hr.sub t1.sq, lq F H G _ _ (Same.refl F) hr (.tup t1 t2) h'⟩⟩
    | lst ys =>
      cases r with
      | lst t1 t2 => exact q_tuple_l hr (.inl (.inl (hr.sub _ _ t1))) t2 h' lq
    | scr ns =>
      cases r with
      | scr t1 => exact q_tuple_l hr (hr.sub.seq t1) (RepA.of_ints ns) h' lq
    | ref a =>
      cases r
      split at h'
      · rename_i ys e
        obtain ⟨_, us, h1, h2⟩ := hr.own _ _ (ownL_eq e)
        exact q_tuple_l hr (.inl (.inl h1)) h2 h' lq
      · exact h'.elim
    | _ => exact False.elim h'
/-- a list of bools; of ints -/
def bools : List PV → Option (List Bool)
  | [] => some []
  | .bl b :: r => (bools r).map (b :: ·)
  | _ => none
def intsP : List PV → Option (List Int)
  | [] => some []
  | .int b :: r => (intsP r).map (b :: ·)
  | _ => none
theorem bools_eq : ∀ {xs : List PV} {bs : List Bool}, bools xs = some bs → xs = bs.map .bl
  | [], _, e => by cases e; rfl
  | .bl b :: r, bs, e => by
    unfold bools at e
    cases q : bools r with
    | none => rw [q] at e; cases e
    | some cs => rw [q] at e; cases e; rw [bools_eq q]; rfl
theorem intsP_eq : ∀ {xs : List PV} {bs : List Int}, intsP xs = some bs → xs = bs.map .int
  | [], _, e => by cases e; rfl
  | .int b :: r, bs, e => by
    unfold intsP at e
    cases q : intsP r with
    | none => rw [q] at e; cases e
    | some cs => rw [q] at e; cases e; rw [intsP_eq q]; rfl
theorem bools_of : ∀ bs : List Bool, bools (bs.map .bl) = some bs
  | [] => rfl
  | b :: bs => by show (bools (bs.map .bl)).map _ = _; rw [bools_of bs]; rfl
theorem intsP_of : ∀ bs : List Int, intsP (bs.map .int) = some bs
  | [] => rfl
  | b :: bs => by show (intsP (bs.map .int)).map _ = _; rw [intsP_of bs]; rfl
def rAllB (xs : (List PV)) (G : GH) (P : PK1) : Prop := match xs with
  | [.lst ys] => (match bools ys with
    | some bs => P (.bl (bs.all id)) G
    | none => False)
  | _ => False
def rAnyB (xs : (List PV)) (G : GH) (P : PK1) : Prop := match xs with
  | [.lst ys] => (match bools ys with
    | some bs => P (.bl (bs.any id)) G
    | none => False)
  | _ => False
theorem q_all (hc : X.calm = true) : Qn X (WC X (.builtin "all")) rAllB := by
  intro F H G vs xs P Q hr ra h lq
  match xs, ra, h with
  | [.lst ys], .cons (.lst t1 t2) .nil, h =>
    have h' : (match bools ys with
      | some bs => P (.bl (bs.all id)) G
      | none => False) := h
    clear h
    split at h'
    · rename_i bs e
      rw [bools_eq e] at t2
      obtain rfl := t2.bls
      exact wc_of (cr_all hc) ⟨_, bs, rfl, .inl (.inl (hr.sub _ _ t1)), lq F H G _ _ (Same.refl F) hr (.bl _) h'⟩
    · exact h'.elim
theorem q_any (hc : X.calm = true) : Qn X (WC X (.builtin "any")) rAnyB := by
  intro F H G vs xs P Q hr ra h lq
  match xs, ra, h with
  | [.lst ys], .cons (.lst t1 t2) .nil, h =>
    have h' : (match bools ys with
      | some bs => P (.bl (bs.any id)) G
      | none => False) := h
    clear h
    split at h'
    · rename_i bs e
      rw [bools_eq e] at t2
      obtain rfl := t2.bls
      exact wc_of (cr_any hc) ⟨_, bs, rfl, .inl (.inl (hr.sub _ _ t1)), lq F H G _ _ (Same.refl F) hr (.bl _) h'⟩
    · exact h'.elim
/-- min, max of a list of ints, as a value that lies in it -/
def rMinL (xs : (List PV)) (G : GH) (P : PK1) : Prop := match xs with
  | [.lst ys] => (match intsP ys with
    | some ns => 0 < ns.length ∧ ∀ m, m ∈ ns → (∀ y, y ∈ ns → m ≤ y) → P (.int m) G
    | none => False)
  | [.int i, .int j] => P (.int (if j < i then j else i)) G
  | _ => False
def rMaxL (xs : (List PV)) (G : GH) (P : PK1) : Prop := match xs with
  | [.lst ys] => (match intsP ys with
    | some ns => 0 < ns.length ∧ ∀ m, m ∈ ns → (∀ y, y ∈ ns → y ≤ m) → P (.int m) G
    | none => False)
  | [.int i, .int j] => P (.int (if j > i then j else i)) G
  | _ => False
theorem q_min (hc : X.calm = true) : Qn X (WC X (.builtin "min")) rMinL := by
  intro F H G vs xs P Q hr ra h lq
  match xs, ra, h with
  | [.int i, .int j], .cons (.int _) (.cons (.int _) .nil), h => exact wc_of (call_min2 hc) ⟨i, j, rfl, lq F H G _ _ (Same.refl F) hr (.int _) h⟩
  | [.lst ys], .cons (.lst t1 t2) .nil, h =>
    have h' : (match intsP ys with
      | some ns => 0 < ns.length ∧ ∀ m, m ∈ ns → (∀ y, y ∈ ns → m ≤ y) → P (.int m) G
      | none => False) := h
    clear h
    split at h'
    · rename_i bs e
      rw [intsP_eq e] at t2
      obtain rfl := t2.ints
      exact wc_of (cr_min hc) ⟨_, bs, rfl, .inl (.inl (hr.sub _ _ t1)), h'.1, fun m h1 h2 => lq F H G _ _ (Same.refl F) hr (.int _) (h'.2 m h1 h2)⟩
    · exact h'.elim
theorem q_max (hc : X.calm = true) : Qn X (WC X (.builtin "max")) rMaxL := by
  intro F H G vs xs P Q hr ra h lq
  match xs, ra, h with
  | [.int i, .int j], .cons (.int _) (.cons (.int _) .nil), h => exact wc_of (call_max2 hc) ⟨i, j, rfl, lq F H G _ _ (Same.refl F) hr (.int _) h⟩
  | [.lst ys], .cons (.lst t1 t2) .nil, h =>
    have h' : (match intsP ys with
      | some ns => 0 < ns.length ∧ ∀ m, m ∈ ns → (∀ y, y ∈ ns → y ≤ m) → P (.int m) G
      | none => False) := h
    clear h
    split at h'
    · rename_i bs e
      rw [intsP_eq e] at t2
      obtain rfl := t2.ints
      exact wc_of (cr_max hc) ⟨_, bs, rfl, .inl (.inl (hr.sub _ _ t1)), h'.1, fun m h1 h2 => lq F H G _ _ (Same.refl F) hr (.int _) (h'.2 m h1 h2)⟩
    · exact h'.elim
def rIntB (xs : (List PV)) (G : GH) (P : PK1) : Prop := match xs with
  | [.int i] => P (.int i) G
  | [.bl b] => P (.int (if b = true then 1 else 0)) G
  | _ => False
theorem q_intB : Qn X (WC X (.type "int")) rIntB := by
  intro F H G vs xs P Q hr ra h lq
  match xs, ra, h with
  | [.int i], .cons (.int _) .nil, h => exact wc_of call_int1 (.inl ⟨i, rfl, lq F H G _ _ (Same.refl F) hr (.int _) h⟩)
  | [.bl b], .cons (.bl _) .nil, h => exact wc_of call_int1 (.inr ⟨b, rfl, lq F H G _ _ (Same.refl F) hr (.int _) h⟩)

/-! ### isinstance of a built-in class -/
def tyP (G : GH) : PV → Option String
  | .non => some "NoneType"
  | .bl _ => some "bool"
  | .int _ => some "int"
  | .str _ => some "str"
  | .tup _ => some "tuple"
  | .lst _ => some "list"
  | .ref a => (match G a with
    | some (.lst _) => some "list"
    | some (.dk _) => some "dict"
    | _ => none)
  | _ => none
theorem tyP_ok {K : PySem.W.Frag} {F H : Hp} {G : GH} {v : V} {x : PV} {t : String} (hr : Rl K F H G) (r : Rep K F v x) (e : tyP G x = some t) : TyX K H v (.type t) := by
  cases x with
  | non => cases e; cases r; exact .base .non
  | bl b => cases e; cases r; exact .base (.bl b)
  | int b => cases e; cases r; exact .base (.int b)
  | str b => cases e; cases r; exact .base (.str b)
  | tup xs =>
    cases e
    cases r with
    | tup h1 h2 =>
      rcases h1 with ⟨o, h1, _⟩ | ⟨o, _, _, h1, h2, _⟩
      · exact .fTuple (hr.sub _ _ h1)
      · exact .kTuple h1 h2
  | lst xs =>
    cases e
    cases r with
    | lst h1 h2 => exact .base (.lst (hr.sub _ _ h1))
  | ref a =>
    cases r
    unfold tyP at e
    dsimp only at e
    split at e
    · rename_i ys ga
      cases e
      obtain ⟨_, us, e1, r1⟩ := hr.own _ _ ga
      exact .base (.lst e1)
    · rename_i ys ga
      cases e
      obtain ⟨_, us, e1, r1⟩ := hr.own _ _ ga
      exact .base (.dK e1)
    · cases e
  | _ => cases e
/-- the answer, by names -/
def isI (t c : String) : Bool := t == c || (t == "bool" && c == "int")
def tyNames : List String := ["NoneType", "bool", "int", "str", "tuple", "list", "dict"]
theorem isI_kit : (tyNames.all fun t => ["int", "bool", "str", "tuple", "list", "dict"].all fun c => decide (kitB t c = some (isI t c))) = true := by decide +kernel
def rIsi (xs : (List PV)) (G : GH) (P : PK1) : Prop := match xs with
  | [x, .ty c] => (match tyP G x with
    | some t => c ∈ ["int", "bool", "str", "tuple", "list", "dict"] ∧ P (.bl (isI t c)) G
    | none => False)
  | _ => False
theorem tyP_mem {G : GH} {x : PV} {t : String} (e : tyP G x = some t) : t ∈ tyNames := by
  cases x with
  | ref a =>
    unfold tyP at e
    dsimp only at e
    split at e <;> cases e <;> decide
  | non => cases e; decide
  | bl _ => cases e; decide
  | int _ => cases e; decide
  | str _ => cases e; decide
  | tup _ => cases e; decide
  | lst _ => cases e; decide
  | _ => cases e
theorem q_isi : Qn X (WC X (.builtin "isinstance")) rIsi := by
  intro F H G vs xs P Q hr ra h lq
  match xs, ra, h with
  | [x, .ty c], .cons r (.cons (.ty _) .nil), h =>
    have h' : (match tyP G x with
      | some t => c ∈ ["int", "bool", "str", "tuple", "list", "dict"] ∧ P (.bl (isI t c)) G
      | none => False) := h
    clear h
    split at h'
    · rename_i t e
      have k := List.all_eq_true.mp (List.all_eq_true.mp isI_kit t (tyP_mem e)) c h'.1
      exact wc_of call_isi ⟨_, _, _, .type c, isI t c, rfl, .ty c, tyP_ok hr r e, kit_ty (of_decide_eq_true k), lq F H G _ _ (Same.refl F) hr (.bl _) h'.2⟩
    · exact h'.elim
end
end PL
end

section
/-! POps4: methods of built-in types, repr, freezing inside a tuple. -/
namespace PL
open PySem PySem.Spec PyProof.Rows L2

/-! ### methods -/
def TyD (X : Cx) (T : String) (x : V) (H : Hp) : Prop := ∀ (pins : List (Addr × Obj)) (σ : List (Option V)) (s : Shared) (v : Value), Inv X pins σ H s → RelV x v → s.TypeIs v T ∧ ∀ a, v = .ref a → ∃ ob, s.heap.get? a = some ob ∧ ob.dict = none
theorem tyD_ok {X : Cx} {F H : Hp} {G : GH} {v : V} {x : PV} {T : String} (hr : Rl X.K F H G) (r : Rep X.K F v x) (e : tyP G x = some T) (hT : T ∈ ["str", "list", "tuple", "dict"]) : TyD X T v H := by
  intro pins σ s u I ru
  cases x with
  | str y => cases e; cases r; exact tyV_is I ru rfl
  | lst ys =>
    cases e
    cases r with
    | lst h1 h2 => exact tyV_is I ru (.inl ⟨rfl, _, .inl (.inl (hr.sub _ _ h1))⟩)
  | tup ys =>
    cases e
    cases r with
    | tup h1 h2 =>
      cases ru
      rcases h1 with ⟨o, h1, hd⟩ | ⟨o, its, n, h1, h2, hd, _⟩
      · obtain ⟨e1, _, us, _, ob, e2, hc, _⟩ := I.hok _ _ (hr.sub _ _ h1)
        exact ⟨⟨ob, e2, hc⟩, fun a q => by cases q; exact ⟨o, e1, hd⟩⟩
      · have e1 := I.kIn _ _ h1
        exact ⟨⟨o, e1, h2⟩, fun a q => by cases q; exact ⟨o, e1, hd⟩⟩
  | ref a =>
    cases r
    unfold tyP at e
    dsimp only at e
    split at e
    · rename_i ys ga
      cases e
      obtain ⟨_, us, e1, _⟩ := hr.own _ _ ga
      exact tyV_is I ru (.inl ⟨rfl, _, .inl (.inl e1)⟩)
    · rename_i ys ga
      cases e
      obtain ⟨_, us, e1, _⟩ := hr.own _ _ ga
      exact tyV_is I ru (.inr (.inr (.inl ⟨rfl, .inl ⟨_, e1⟩⟩)))
    · cases e
  | non => cases e; exact absurd hT (by decide)
  | bl _ => cases e; exact absurd hT (by decide)
  | int _ => cases e; exact absurd hT (by decide)
  | _ => cases e
def WMt (X : Cx) (id : String) (x : V) (xs : List V) : Hp → VK → Prop := fun H Q => ∀ (pins : List (Addr × Obj)) (s : Shared) (σ : List (Option V)) (v : Value) (us : List Value), Inv X pins σ H s → RelV x v → Vals xs us → wpAny (model X.prog X.w) X.A (call (.builtin id) (v :: us)) (EP X pins σ Q) X.xe s
theorem wmt_of {X : Cx} {id : String} {r : V → List V → Hp → VK → Prop} {x : V} {xs : List V} {H : Hp} {Q : VK} (h : MtR X id r) (q : r x xs H Q) : WMt X id x xs H Q := fun pins s σ v us I r1 r2 => h pins s σ H x xs v us Q I r1 r2 q
abbrev POm := PV → List PV → GH → PK1 → Prop
def Qm (X : Cx) (id : String) (r : POm) : Prop := ∀ (F H : Hp) (G : GH) (v : V) (x : PV) (vs : List V) (xs : List PV) (P : PK1) (Q : VK), Rl X.K F H G → Rep X.K F v x → RepA X.K F vs xs → r x xs G P → LkQ X.K F P Q → WMt X id v vs H Q
/-- a method by its name, for some built-in types -/
structure MethT (X : Cx) (T : String) (name : Str) (r : POm) : Prop where
  ex : ∃ id, PlainAttrs T ∧ Slot T name id ∧ typeOf (.builtin id) = pure (.type "method_descriptor") ∧ Qm X id r
  ty : T ∈ ["str", "list", "tuple", "dict"]
def pBM (r : String → POm) (Ts : List String) (to : PTE) (t : PTA) (env : PEn) (G : GH) (P : PK1) (Ex : PXK) : Prop := to env G (fun x G1 => match tyP G1 x with
  | some T => T ∈ Ts ∧ t env G1 (fun xs G2 => r T x xs G2 P) Ex
  | none => False) Ex
section
variable {X : Cx} {o e : Expr} {es : List Expr} {to : PTE} {t : PTA} {name : Str} {apos cpos : Pos} {r : String → POm} {Ts : List String}
theorem qe_bm0 (hm : ∀ T ∈ Ts, MethT X T name (r T)) (ho : QE X o to) (hbase : attributeBase o name X.env (eval o X.env) = eval o X.env := by rfl) (hline : (apos.endLine == cpos.line) = true := by rfl) :
    QE X (.Call (.Attribute o name apos) [] [] cpos) (pBM r Ts to pNil) := by
  refine ⟨fun W tk F H G σ env P Ex Q hr hv h lq lx pins s I => ?_⟩
  have hO : WE X o σ H (fun x H1 => ∃ T, (∃ id, PlainAttrs T ∧ Slot T name id ∧ typeOf (.builtin id) = pure (.type "method_descriptor") ∧ WMt X id x [] H1 Q) ∧ TyD X T x H1) := by
    refine ho.run W tk F H G σ env _ Ex _ hr hv h (fun F1 H1 G1 v x s1 r1 rv h1 => ?_) lx
    split at h1
    · rename_i T eT
      obtain ⟨id, a, b, c, d⟩ := (hm T h1.1).ex
      exact ⟨T, ⟨id, a, b, c, d F1 H1 G1 v x [] [] P Q r1 rv .nil h1.2 (lq.mono s1)⟩, tyD_ok r1 rv eT (hm T h1.1).ty⟩
    · exact h1.elim
  refine wpAny_Call_method0_late hbase hline (thn (hO pins s I) fun v s1 ⟨x, H1, I1, r1, T, ⟨id, pa, slot, hty, q1⟩, ty⟩ => ?_)
  obtain ⟨h1, h2⟩ := ty pins σ s1 v I1 r1
  exact ⟨T, id, pa, slot, hty, h1, h2, Calls.callWith_builtin rfl (PySem.evalArgs_none (q1 pins s1 σ v [] I1 r1 .nil))⟩
theorem qe_bm (hm : ∀ T ∈ Ts, MethT X T name (r T)) (ho : QE X o to) (ha : QA X (e :: es) t) (hbase : attributeBase o name X.env (eval o X.env) = eval o X.env := by rfl)
    (hfew : ((backTo cpos (starEach (e :: es) X.env)).all (fun x => !x.1) && (backToKw cpos (keywordEach [] X.env)).all (fun x => x.1.isSome)
      && decide ((e :: es).length + ([] : List Keyword).length + (if ([] : List Keyword).isEmpty then 0 else 1) < 30)) = true := by rfl)
    (hline : (apos.endLine == cpos.line) = true := by rfl) (hs : starEach (e :: es) X.env = (false, eval e X.env) :: starEach es X.env := by rfl) (hplain : (backTo cpos (starEach es X.env)).any (·.1) = false := by rfl) :
    QE X (.Call (.Attribute o name apos) (e :: es) [] cpos) (pBM r Ts to t) := by
  refine ⟨fun W tk F H G σ env P Ex Q hr hv h lq lx pins s I => ?_⟩
  have hO : WE X o σ H (fun x H1 => ∃ T, (∃ id, PlainAttrs T ∧ Slot T name id ∧ typeOf (.builtin id) = pure (.type "method_descriptor") ∧ WA X (e :: es) σ H1 (fun xs H2 => WMt X id x xs H2 Q)) ∧ TyD X T x H1) := by
    refine ho.run W tk F H G σ env _ Ex _ hr hv h (fun F1 H1 G1 v x s1 r1 rv h1 => ?_) lx
    split at h1
    · rename_i T eT
      obtain ⟨id, a, b, c, d⟩ := (hm T h1.1).ex
      refine ⟨T, ⟨id, a, b, c, ?_⟩, tyD_ok r1 rv eT (hm T h1.1).ty⟩
      exact ha.run W tk F1 H1 G1 σ env _ Ex _ r1 (hv.mono s1) h1.2 (fun F2 H2 G2 vs xs s2 r2 rvs h2 => d F2 H2 G2 v x vs xs P Q r2 (Rep.mono s2 _ _ rv) rvs h2 ((lq.mono s1).mono s2)) (lx.mono s1)
    · exact h1.elim
  refine wpAny_Call_method_late hbase hfew hline rfl (thn (hO pins s I) fun v s1 ⟨x, H1, I1, r1, T, ⟨id, pa, slot, hty, q1⟩, ty⟩ => ?_)
  obtain ⟨h1, h2⟩ := ty pins σ s1 v I1 r1
  refine ⟨T, id, pa, slot, hty, h1, h2, ?_⟩
  have hA := q1 cpos pins s1 I1
  rw [hs] at hA ⊢
  refine Calls.callWith_builtin (by show (false || (backTo cpos (starEach es X.env)).any (·.1)) = false; rw [hplain] <;> rfl) (Calls.evalArgs_plain ?_)
  exact thn hA fun us s2 ⟨vs, H2, I2, r2, q2⟩ => q2 pins s2 σ v us I2 r1 r2
end
section
variable {X : Cx}
def rAppend (x : PV) (vs : (List PV)) (G : GH) (P : PK1) : Prop := match x, vs with
  | .ref a, [y] => (match G a with
    | some (.lst xs) => xs.length < sizeLine ∧ P .non (gset G a (.lst (xs ++ [y])))
    | _ => False)
  | _, _ => False
theorem m_append : MethT X "list" "append" rAppend := by
  refine ⟨⟨_, PySem.F.plainAttrs_list, PySem.F.slot_list_append, PySem.F.type_list_append, fun F H G v x vs xs P Q hr rx ra h lq => ?_⟩, by decide⟩
  match x, rx, xs, ra, h with
  | .ref a, .ref _, [y], .cons ry .nil, h =>
    have h' : (match G a with
      | some (.lst xs) => xs.length < sizeLine ∧ P .non (gset G a (.lst (xs ++ [y])))
      | _ => False) := h
    clear h
    split at h'
    · rename_i ys ga
      obtain ⟨n, us, e1, r1⟩ := hr.own _ _ ga
      exact wmt_of mt_append ⟨a, us, _, rfl, rfl, e1, by rw [r1.length]; exact h'.1, lq F _ _ _ _ (Same.refl F) (hr.owned (g := .lst (ys ++ [y])) n ⟨_, upd_same, r1.append (.cons ry .nil)⟩) .non h'.2⟩
    · exact h'.elim
def rExtend (x : PV) (vs : (List PV)) (G : GH) (P : PK1) : Prop := match x, vs with
  | .ref a, [y] => (match G a, lstOf G y with
    | some (.lst xs), some zs => xs.length + zs.length ≤ sizeLine ∧ P .non (gset G a (.lst (xs ++ zs)))
    | _, _ => False)
  | _, _ => False
theorem m_extend : MethT X "list" "extend" rExtend := by
  refine ⟨⟨_, PySem.F.plainAttrs_list, PySem.F.slot_list_extend, PySem.F.type_list_extend, fun F H G v x vs xs P Q hr rx ra h lq => ?_⟩, by decide⟩
  match x, rx, xs, ra, h with
  | .ref a, .ref _, [y], .cons ry .nil, h =>
    have h' : (match G a, lstOf G y with
      | some (.lst xs), some zs => xs.length + zs.length ≤ sizeLine ∧ P .non (gset G a (.lst (xs ++ zs)))
      | _, _ => False) := h
    clear h
    split at h'
    · rename_i ys zs ga e
      obtain ⟨n, us, e1, r1⟩ := hr.own _ _ ga
      obtain ⟨b, ws, rfl, e2, r2⟩ := lstOf_ok hr ry e
      exact wmt_of mt_extend ⟨a, b, us, ws, rfl, rfl, e1, e2, by rw [r1.length, r2.length]; exact h'.1, lq F _ _ _ _ (Same.refl F) (hr.owned (g := .lst (ys ++ zs)) n ⟨_, upd_same, r1.append r2⟩) .non h'.2⟩
    · exact h'.elim
def rClear (x : PV) (vs : (List PV)) (G : GH) (P : PK1) : Prop := match x, vs with
  | .ref a, [] => (match G a with
    | some (.lst xs) => P .non (gset G a (.lst []))
    | _ => False)
  | _, _ => False
theorem m_clear : MethT X "list" "clear" rClear := by
  refine ⟨⟨_, PySem.F.plainAttrs_list, PySem.F.slot_list_clear, PySem.F.type_list_clear, fun F H G v x vs xs P Q hr rx ra h lq => ?_⟩, by decide⟩
  match x, rx, xs, ra, h with
  | .ref a, .ref _, [], .nil, h =>
    have h' : (match G a with
      | some (.lst xs) => P .non (gset G a (.lst []))
      | _ => False) := h
    clear h
    split at h'
    · rename_i ys ga
      obtain ⟨n, us, e1, r1⟩ := hr.own _ _ ga
      exact wmt_of mt_clear ⟨a, us, rfl, rfl, e1, lq F _ _ _ _ (Same.refl F) (hr.owned (g := .lst []) n ⟨_, upd_same, .nil⟩) .non h'⟩
    · exact h'.elim
/-- index of flat items in a list; of an int in a tuple of ints -/
def rIdxL (x : PV) (vs : (List PV)) (G : GH) (P : PK1) : Prop := match vs with
  | [y] => (match lstOf G x with
    | some ys => flatP y = true ∧ ys.all flatP = true ∧ (match ys.findIdx? fun z => eqP z y with
      | some j => P (.int j) G
      | none => False)
    | none => False)
  | _ => False
def rIdxT (x : PV) (vs : (List PV)) (G : GH) (P : PK1) : Prop := match x, vs with
  | .tup ys, [.int k] => (match intsP ys with
    | some ns => k ∈ ns ∧ P (.int (ns.idxOf k : Nat)) G
    | none => False)
  | _, _ => False
theorem m_indexL : MethT X "list" "index" rIdxL := by
  refine ⟨⟨_, PySem.F.plainAttrs_list, PySem.F.slot_list_index, PySem.F.type_list_index, fun F H G v x vs xs P Q hr rx ra h lq => ?_⟩, by decide⟩
  match xs, ra, h with
  | [y], .cons ry .nil, h =>
    have h' : (match lstOf G x with
      | some ys => flatP y = true ∧ ys.all flatP = true ∧ (match ys.findIdx? fun z => eqP z y with
        | some j => P (.int j) G
        | none => False)
      | none => False) := h
    clear h
    split at h'
    · rename_i ys e
      obtain ⟨b, ws, rfl, e2, r2⟩ := lstOf_ok hr rx e
      obtain ⟨f1, f2, h'⟩ := h'
      split at h'
      · rename_i j ej
        obtain ⟨hj, hit, hno⟩ := List.findIdx?_eq_some_iff_getElem.mp ej
        obtain ⟨w, hw, rw'⟩ := r2.get (List.getElem?_eq_getElem hj)
        have fl : ∀ (m : Nat) (z : PV), ys[m]? = some z → flatP z = true := fun m z q => List.all_eq_true.mp f2 z (List.mem_of_getElem? q)
        refine wmt_of mt_index ⟨b, ws, _, j, w, rfl, rfl, .inl (.inl e2), flat_v ry f1, allFlat r2 f2, hw, by rw [eqP_v rw' ry (fl j _ (List.getElem?_eq_getElem hj)) f1]; exact hit, fun m z' hm hz => ?_, lq F H G _ _ (Same.refl F) hr (.int _) h'⟩
        obtain ⟨z, hz1, hz2⟩ := r2.getV hz
        obtain ⟨hml, hme⟩ := List.getElem?_eq_some_iff.mp hz1
        rw [eqP_v hz2 ry (fl m _ hz1) f1, ← hme]
        have := hno m hm
        simpa using this
      · exact h'.elim
    · exact h'.elim
theorem m_indexT : MethT X "tuple" "index" rIdxT := by
  refine ⟨⟨_, PySem.F.plainAttrs_tuple, PySem.F.slot_tuple_index, PySem.F.type_tuple_index, fun F H G v x vs xs P Q hr rx ra h lq => ?_⟩, by decide⟩
  match x, rx, xs, ra, h with
  | .tup ys, .tup t1 t2, [.int k], .cons (.int _) .nil, h =>
    have h' : (match intsP ys with
      | some ns => k ∈ ns ∧ P (.int (ns.idxOf k : Nat)) G
      | none => False) := h
    clear h
    split at h'
    · rename_i ns e
      rw [intsP_eq e] at t2
      obtain rfl := t2.ints
      intro pins s σ v' us I r1 r2
      cases r1
      obtain ⟨u, rfl, ru⟩ := r2.one
      obtain ⟨t, rfl⟩ := ru
      obtain ⟨its, rv, it, _⟩ := I.tuple (Same.tupT hr.sub t1.sq)
      exact SeqAt.tuple_index_ints it rv.ints h'.1 ⟨.int _, H, I.tok _, ⟨_, rfl⟩, lq F H G _ _ (Same.refl F) hr (.int _) h'.2⟩
    · exact h'.elim
def rIdx (T : String) : POm := if T = "tuple" then rIdxT else rIdxL
theorem m_index : ∀ T ∈ ["list", "tuple"], MethT X T "index" (rIdx T) := fun T h => by
  simp only [List.mem_cons, List.mem_nil_iff, or_false] at h
  rcases h with rfl | rfl
  · exact m_indexL
  · exact m_indexT
theorem m_one {T : String} {name : Str} {r : POm} (h : MethT X T name r) : ∀ T' ∈ [T], MethT X T' name r := fun T' h' => by
  rw [List.mem_singleton] at h'
  subst h'
  exact h

/-! ### a list within a tuple becomes a value -/
def pFrzT (i : Nat) (t : PTE) (env : PEn) (G : GH) (P : PK1) (Ex : PXK) : Prop := t env G (fun x G1 => match x with
  | .tup xs => (match xs[i]? with
    | some (.ref a) => (match ownL G1 a with
      | some ys => P (.tup (xs.set i (.lst ys))) (gdel G1 a)
      | none => False)
    | _ => False)
  | _ => False) Ex
theorem qe_frzT {e : Expr} {te : PTE} (i : Nat) (h : QE X e te) : QE X e (pFrzT i te) := by
  refine ⟨fun W tk F H G σ env P Ex Q hr hv h' lq lx => ?_⟩
  refine h.run W tk F H G σ env _ Ex _ hr hv h' (fun F1 H1 G1 v x s1 r1 rv h1 => ?_) lx
  cases x with
  | tup xs =>
    cases rv with
    | tup t1 t2 =>
      dsimp only at h1
      split at h1
      · rename_i a ei
        split at h1
        · rename_i ys ey
          obtain ⟨F2, s2, r2, rep⟩ := r1.freeze (ownL_eq ey)
          obtain ⟨w, hw, rw'⟩ := t2.get ei
          cases rw'
          have r3 := RepA.set rep i (RepA.mono s2 _ _ t2)
          obtain ⟨hi, he⟩ := List.getElem?_eq_some_iff.mp hw
          rw [← he, List.set_getElem_self] at r3
          exact lq F2 H1 _ _ _ (s1.trans s2) r2 (.tup (t1.mono s2) r3) h1
        · exact h1.elim
      · exact h1.elim
  | _ => exact h1.elim

/-! ### repr -/
def rRepr (xs : (List PV)) (G : GH) (P : PK1) : Prop := match xs with
  | [x] => (match datOf G x with
    | some d => d.canLay0 = true ∧ d.depth ≤ 64 ∧ d.showable = true ∧ d.shown.length ≤ sizeLine ∧ (tyP G x = some "tuple" ∨ tyP G x = some "list") ∧ P (.str d.shown) G
    | none => False)
  | _ => False
theorem repr_tup {pins : List (Addr × Obj)} {σ : List (Option V)} {H : Hp} {s : Shared} {v : V} {u : Value} {ds : List PyData} {Q : VK} (hg : X.A.guards = some []) (hu : X.A.units + 100 < cLine) (I : Inv X pins σ H s) (ru : RelV v u) (hd : Dp X.K H v (.tuple ds))
    (hn : (PyData.tuple ds).hasDict = false) (hdp : (PyData.tuple ds).depth ≤ 64) (hs : (PyData.tuple ds).showable = true) (hz : (PyData.tuple ds).shown.length ≤ sizeLine) (q : Q (.str (PyData.tuple ds).shown) H) :
    wpAny (model X.prog X.w) X.A (call (.builtin "repr") [u]) (EP X pins σ Q) X.xe s := by
  obtain ⟨as, rd⟩ := Dp.reads I _ v u hd ru
  cases rd with
  | tuple h1 h2 h3 h4 =>
    have hz' : (tupleText (PyData.shownAll ds)).length ≤ sizeLine := by simpa only [PyData.shown] using hz
    have hn' : PyData.hasDictAll ds = false := by simpa only [PyData.hasDict] using hn
    obtain ⟨bs, hb, hk⟩ := ReprAllK.of_readsAll (prog := X.prog) (w := X.w) h4 (by simpa [PyData.showable] using hs) (fun hx => by rw [hn'] at hx; cases hx) (fun t ht => Nat.le_trans (tupleText_mem_le ht) hz')
    have hna := not_mem_of_deeper (.tuple h1 h2 h3 h4) (by simp only [PyData.depth]; omega) hb
    simp only [PyData.depth] at hdp
    refine call_repr_slot (by omega) ⟨_, h1, h2⟩ F.slot_tuple_repr (call_tuple_reprK h1 h2 h3 hna hk (g := []) hg (fun b _ => Clear.nil b) (by show X.A.units + 1 + _ < cLine; omega) (fun _ _ e => e) (fun h' u tk hk' => ⟨_, _, rfl, ?_⟩) hz')
    refine ⟨.str _, H, I.kept (t' := tk) hk', ⟨u, rfl⟩, ?_⟩
    simpa only [PyData.shown] using q
theorem repr_lst {pins : List (Addr × Obj)} {σ : List (Option V)} {H : Hp} {s : Shared} {v : V} {u : Value} {ds : List PyData} {Q : VK} (hg : X.A.guards = some []) (hu : X.A.units + 100 < cLine) (I : Inv X pins σ H s) (ru : RelV v u) (hd : Dp X.K H v (.list ds))
    (hn : (PyData.list ds).hasDict = false) (hdp : (PyData.list ds).depth ≤ 64) (hs : (PyData.list ds).showable = true) (hz : (PyData.list ds).shown.length ≤ sizeLine) (q : Q (.str (PyData.list ds).shown) H) :
    wpAny (model X.prog X.w) X.A (call (.builtin "repr") [u]) (EP X pins σ Q) X.xe s := by
  obtain ⟨as, rd⟩ := Dp.reads I _ v u hd ru
  cases rd with
  | @list a o items n _ as' h1 h2 h3 h4 =>
    have hz' : (listText (PyData.shownAll ds)).length ≤ sizeLine := by simpa only [PyData.shown] using hz
    have hn' : PyData.hasDictAll ds = false := by simpa only [PyData.hasDict] using hn
    obtain ⟨bs, hb, hk⟩ := ReprAllK.of_readsAll (prog := X.prog) (w := X.w) h4 (by simpa [PyData.showable] using hs) (fun hx => by rw [hn'] at hx; cases hx) (fun t ht => Nat.le_trans (listText_mem_le ht) hz')
    have hna := not_mem_of_deeper (.list h1 h2 h3 h4) (by simp only [PyData.depth]; omega) hb
    simp only [PyData.depth] at hdp
    have fin : ∀ (h' : Heap) (t tk : Nat), (∀ b o, s.heap.get? b = some o → h'.get? b = some o) → EP X pins σ Q (.str (listText (PyData.shownAll ds)) t) { s with heap := h', toks := tk } := fun h' t tk hk' => ⟨.str _, H, I.kept (t' := tk) hk', ⟨t, rfl⟩, by simpa only [PyData.shown] using q⟩
    obtain ⟨l⟩ := items
    cases l with
    | nil =>
      have h4' : ReadsAll s.heap [] ds _ := h4
      cases h4'
      have := fin s.heap s.toks (s.toks + 1) (fun _ _ e => e)
      simp only [PyData.shownAll, listText_nil] at this
      exact call_repr_slot (by omega) ⟨_, h1, h2⟩ F.slot_list_repr.toG (call_list_repr_empty ⟨_, h1, h2⟩ h1 h3 ⟨_, _, rfl, this⟩)
    | cons x l =>
      exact call_repr_slot (by omega) ⟨_, h1, h2⟩ F.slot_list_repr.toG (call_list_reprK h1 h2 h3 hna (by simpa using hk.length_eq) (fun i y e => hk.item i y (by simpa using e)) (g := []) hg (fun b _ => Clear.nil b) (by show X.A.units + 1 + _ < cLine; omega) (fun _ _ e => e) (fun h' u tk hk' => ⟨_, _, rfl, fin h' u tk hk'⟩) hz')
theorem q_repr (hg : X.A.guards = some []) (hu : X.A.units + 100 < cLine) : Qn X (WC X (.builtin "repr")) rRepr := by
  intro F H G vs xs P Q hr ra h lq
  match xs, ra, h with
  | [x], .cons r .nil, h =>
    have h' : (match datOf G x with
      | some d => d.canLay0 = true ∧ d.depth ≤ 64 ∧ d.showable = true ∧ d.shown.length ≤ sizeLine ∧ (tyP G x = some "tuple" ∨ tyP G x = some "list") ∧ P (.str d.shown) G
      | none => False) := h
    clear h
    split at h'
    · rename_i d e
      obtain ⟨h1, h2, h3, h4, h5, h6⟩ := h'
      intro pins s σ us I rv
      obtain ⟨u, rfl, ru⟩ := rv.one
      have hd := datOf_dp hr r e
      have hn := PyData.hasDict_of_canLay d h1
      have q : Q (.str d.shown) H := lq F H G _ _ (Same.refl F) hr (.str _) h6
      cases d with
      | tuple ds => exact repr_tup hg hu I ru hd hn h2 h3 h4 q
      | list ds => exact repr_lst hg hu I ru hd hn h2 h3 h4 q
      | _ =>
        exfalso
        cases hd <;> cases r <;> rcases h5 with h5 | h5 <;> exact absurd (Option.some.inj h5) (by decide)
    · exact h'.elim
end
end PL
end

section
/-! POps5: zip, enumerate, short words. -/
namespace PL
open PySem PySem.Spec PyProof.Rows L2 RZ

theorem room_64 {A : Around} {k : Nat} (hr : Room k A) : A.units + 64 < cLine := hr.units
theorem room_hu {A : Around} {k : Nat} (hr : Room k A) : A.units + 100 < cLine := by have := hr.un; omega
section
variable {X : Cx}
theorem q_in (hu : X.A.units + 1 < cLine) : Q2 X (WO X (compareOp .In)) (rMem false) := q_mem false hu
theorem q_nin (hu : X.A.units + 1 < cLine) : Q2 X (WO X (compareOp .NotIn)) (rMem true) := q_mem true hu
/-- the name of a built-in class -/
theorem qe_bty {x : Str} {n : String} {pos : Pos} (hg : Gl X x) (hm : X.mg x = none) (hv : bootBuiltins x = some (.type n)) (hn : x ≠ "__name__" := by decide) (hd : (x == ("__debug__" : Str)) = false := by decide) : QE X (.Name x pos) (pC (.ty n)) :=
  qe_c (pe_bltn hg hm hv (v := .ty n) rfl hn hd) fun _ => .ty n
def isNonP : PV → Bool
  | .non => true
  | _ => false
def rIsN (x : PV) (G : GH) (P : PK1) : Prop := P (.bl (isNonP x)) G
def rNotN (x : PV) (G : GH) (P : PK1) : Prop := P (.bl (!isNonP x)) G
theorem isN_eq {K : PySem.W.Frag} {F : Hp} {v : V} {x : PV} (r : Rep K F v x) : decide (v = .non) = isNonP x := by
  cases x with
  | non => cases r; rfl
  | bl _ => cases r; rfl
  | int _ => cases r; rfl
  | str _ => cases r; rfl
  | ref _ => cases r; rfl
  | ty _ => cases r; rfl
  | tup _ => cases r with | tup _ _ => rfl
  | lst _ => cases r with | lst _ _ => rfl
  | scr _ => cases r with | scr _ => rfl
theorem qe_isN {a : Expr} {ta : PTE} {j pos pos'} (ha : QE X a ta) : QE X (.Compare a [.Is] [.Constant .none j pos'] pos) (pUn rIsN ta) := by
  refine ⟨fun W tk F H G σ env P Ex Q hr hv h lq lx => we_of (pe_cmp (pc_isN pe_we)) ?_⟩
  refine ha.run W tk F H G σ env _ Ex _ hr hv h (fun F1 H1 G1 v x s1 r1 rv h1 => ?_) lx
  rw [isN_eq rv]
  exact lq F1 H1 G1 _ _ s1 r1 (.bl _) h1
theorem qe_notN {a : Expr} {ta : PTE} {j pos pos'} (ha : QE X a ta) : QE X (.Compare a [.IsNot] [.Constant .none j pos'] pos) (pUn rNotN ta) := by
  refine ⟨fun W tk F H G σ env P Ex Q hr hv h lq lx => we_of (pe_cmp (pc_notN pe_we)) ?_⟩
  refine ha.run W tk F H G σ env _ Ex _ hr hv h (fun F1 H1 G1 v x s1 r1 rv h1 => ?_) lx
  rw [isN_eq rv]
  exact lq F1 H1 G1 _ _ s1 r1 (.bl _) h1
theorem qt_isN {a : Expr} {ta : PTE} {j pos pos'} (ha : QE X a ta) : QT X (.Compare a [.Is] [.Constant .none j pos'] pos) (pTb (pUn rIsN ta)) := by
  refine ⟨fun W tk F H G σ env P Ex Q hr hv h lq lx => wt_of (pt_cmp (pc_isN pe_we)) ?_⟩
  refine ha.run W tk F H G σ env _ Ex _ hr hv h (fun F1 H1 G1 v x s1 r1 rv h1 => ?_) lx
  rw [isN_eq rv]
  exact ⟨_, rfl, lq F1 H1 G1 _ s1 r1 h1⟩
theorem qt_notN {a : Expr} {ta : PTE} {j pos pos'} (ha : QE X a ta) : QT X (.Compare a [.IsNot] [.Constant .none j pos'] pos) (pTb (pUn rNotN ta)) := by
  refine ⟨fun W tk F H G σ env P Ex Q hr hv h lq lx => wt_of (pt_cmp (pc_notN pe_we)) ?_⟩
  refine ha.run W tk F H G σ env _ Ex _ hr hv h (fun F1 H1 G1 v x s1 r1 rv h1 => ?_) lx
  rw [isN_eq rv]
  exact ⟨_, rfl, lq F1 H1 G1 _ s1 r1 h1⟩

/-! ### zip, enumerate -/
def lstS (G : GH) : PV → Option (List PV)
  | .lst xs => some xs
  | .scr ns => some (ns.map .int)
  | .ref a => ownL G a
  | _ => none
theorem lstS_ok {K : PySem.W.Frag} {F H : Hp} {G : GH} {v : V} {x : PV} {xs : List PV} (hr : Rl K F H G) (r : Rep K F v x) (e : lstS G x = some xs) : ∃ a vs, v = .ref a ∧ SqL K H a vs ∧ RepA K F vs xs := by
  cases x with
  | lst ys =>
    cases e
    cases r with
    | lst h1 h2 => exact ⟨_, _, rfl, .inl (.inl (hr.sub _ _ h1)), h2⟩
  | scr ns =>
    cases e
    cases r with
    | scr h1 => exact ⟨_, _, rfl, hr.sub.seq h1, RepA.of_ints ns⟩
  | ref a =>
    cases r
    obtain ⟨_, vs, h1, h2⟩ := hr.own _ _ (ownL_eq e)
    exact ⟨a, vs, rfl, .inl (.inl h1), h2⟩
  | _ => cases e
def pairP (p q : PV) : PV := .tup [p, q]
def itZ (x y : PV) : PIt := ⟨fun i G z => ∃ xs ys p q, lstS G x = some xs ∧ lstS G y = some ys ∧ xs[i]? = some p ∧ ys[i]? = some q ∧ z = pairP p q, fun i G => ∃ xs ys, lstS G x = some xs ∧ lstS G y = some ys ∧ (xs.length ≤ i ∨ ys.length ≤ i)⟩
theorem rel_zip {K : PySem.W.Frag} {F : Hp} {a b : Addr} {x y : PV} (rx : Rep K F (.ref a) x) (ry : Rep K F (.ref b) y) : ItRel false K F (Itz K a b) (itZ x y) := by
  refine ⟨fun F' H' G' i z s hr e => ?_, fun F' H' G' i s hr e => ?_⟩
  · obtain ⟨xs, ys, p, q, e1, e2, e3, e4, rfl⟩ := e
    obtain ⟨a', vs, ea, h1, r1⟩ := lstS_ok hr (Rep.mono s _ _ rx) e1
    obtain ⟨b', us, eb, h2, r2⟩ := lstS_ok hr (Rep.mono s _ _ ry) e2
    cases ea
    cases eb
    obtain ⟨v, g1, k1⟩ := r1.get e3
    obtain ⟨u, g2, k2⟩ := r2.get e4
    refine ⟨⟨vs, us, v, u, h1, h2, g1, g2⟩, fun w H3 y => ?_⟩
    obtain ⟨T, x1, x2, rfl, nT, rfl, y1, y2⟩ := y
    have n := hr.sub.free nT
    have q1 := y1 vs h1
    have q2 := y2 us h2
    rw [g1] at q1
    rw [g2] at q2
    cases q1
    cases q2
    exact ⟨_, Same.new n, hr.froze nT, .inr ⟨rfl, T, [v, u], [p, q], rfl, rfl, SqT.of upd_same, .cons (Rep.mono (Same.new n) _ _ k1) (.cons (Rep.mono (Same.new n) _ _ k2) .nil)⟩⟩
  · obtain ⟨xs, ys, e1, e2, e3⟩ := e
    obtain ⟨a', vs, ea, h1, r1⟩ := lstS_ok hr (Rep.mono s _ _ rx) e1
    obtain ⟨b', us, eb, h2, r2⟩ := lstS_ok hr (Rep.mono s _ _ ry) e2
    cases ea
    cases eb
    exact ⟨vs, us, h1, h2, by rw [r1.length, r2.length]; exact e3⟩
def zipP (xs ys : List PV) : List PV := List.zipWith pairP xs ys
theorem rel_zipT {K : PySem.W.Frag} {F : Hp} {a b : Addr} {xs ys : List PV} (rx : Rep K F (.ref a) (.tup xs)) (ry : Rep K F (.ref b) (.tup ys)) : ItRel false K F (ItzT K a b) (itL (zipP xs ys)) := by
  cases rx with
  | tup t1 r1 =>
    cases ry with
    | tup t2 r2 =>
      refine ⟨fun F' H' G' i z s hr e => ?_, fun F' H' G' i s hr e => ?_⟩
      · have e' : (List.zipWith pairP xs ys)[i]? = some z := e
        rw [List.getElem?_zipWith] at e'
        cases e3 : xs[i]? with
        | none => rw [e3] at e'; cases e'
        | some p =>
          cases e4 : ys[i]? with
          | none => rw [e3, e4] at e'; cases e'
          | some q =>
            rw [e3, e4] at e'
            cases e'
            have h1 := Same.tupT (s.trans hr.sub) t1.sq
            have h2 := Same.tupT (s.trans hr.sub) t2.sq
            obtain ⟨v, g1, k1⟩ := r1.get e3
            obtain ⟨u, g2, k2⟩ := r2.get e4
            refine ⟨⟨_, _, v, u, h1, h2, g1, g2⟩, fun w H3 y => ?_⟩
            obtain ⟨T, x1, x2, rfl, nT, rfl, y1, y2⟩ := y
            have n := hr.sub.free nT
            have q1 := y1 _ h1
            have q2 := y2 _ h2
            rw [g1] at q1
            rw [g2] at q2
            cases q1
            cases q2
            exact ⟨_, Same.new n, hr.froze nT, .inr ⟨rfl, T, [v, u], [p, q], rfl, rfl, SqT.of upd_same, .cons (Rep.mono (s.trans (Same.new n)) _ _ k1) (.cons (Rep.mono (s.trans (Same.new n)) _ _ k2) .nil)⟩⟩
      · have e' : (List.zipWith pairP xs ys).length ≤ i := e
        rw [List.length_zipWith] at e'
        exact ⟨_, _, Same.tupT (s.trans hr.sub) t1.sq, Same.tupT (s.trans hr.sub) t2.sq, by rw [r1.length, r2.length]; omega⟩
def zipA (x y : PV) (G : GH) (R : PIt → GH → Prop) : Prop := match x, y with
  | .tup xs, .tup ys => R (itL (zipP xs ys)) G
  | x, y => (lstS G x).isSome = true ∧ (lstS G y).isSome = true ∧ R (itZ x y) G
def pZip (t : PTA) (env : PEn) (G : GH) (R : (PIt → GH → Prop)) (Ex : PXK) : Prop := t env G (fun xs G1 => match xs with
  | [x, y] => zipA x y G1 R
  | _ => False) Ex
theorem qi_zip {e e2 : Expr} {ta : PTA} {p pos tpos : Pos} {elts : List Expr} {kk : Nat} (hg : Gl X "zip") (hm : X.mg "zip" = none) (ha : QA X [e, e2] ta)
    (hs : starEach [e, e2] X.env = (false, eval e X.env) :: starEach [e2] X.env := by rfl) (hpl : (backTo pos (starEach [e2] X.env)).any (·.1) = false := by rfl) : QI false X (.Tuple elts kk tpos) (.Call (.Name "zip" p) [e, e2] [] pos) (pZip ta) := by
  refine ⟨fun W tk F H G σ env R Ex R' hr hv h lr lx => wi_of (pi_zipA hg hm pa_wa hs hpl) ?_⟩
  refine ha.run W tk F H G σ env _ Ex _ hr hv h (fun F1 H1 G1 vs xs s1 r1 rvs h1 => ?_) lx
  have gen : ∀ (v u : V) (x y : PV), Rep X.K F1 v x → Rep X.K F1 u y → (lstS G1 x).isSome = true ∧ (lstS G1 y).isSome = true ∧ R (itZ x y) G1 → ∃ a b xs ys, [v, u] = [V.ref a, V.ref b] ∧ ((SqL X.K H1 a xs ∧ SqL X.K H1 b ys ∧ R' (Itz X.K a b) H1) ∨ (SqT X.K H1 a xs ∧ SqT X.K H1 b ys ∧ R' (ItzT X.K a b) H1)) := by
    intro v u x y rx ry h
    obtain ⟨h2, h3, h4⟩ := h
    obtain ⟨xs, ex⟩ := Option.isSome_iff_exists.mp h2
    obtain ⟨ys, ey⟩ := Option.isSome_iff_exists.mp h3
    obtain ⟨a, vs, rfl, q1, _⟩ := lstS_ok r1 rx ex
    obtain ⟨b, us, rfl, q2, _⟩ := lstS_ok r1 ry ey
    exact ⟨a, b, vs, us, rfl, .inl ⟨q1, q2, lr F1 H1 G1 _ _ s1 r1 (rel_zip rx ry) h4⟩⟩
  match xs, rvs, h1 with
  | [x, y], .cons rx (.cons ry .nil), h1 =>
    cases x with
    | tup xs =>
      cases y with
      | tup ys =>
        cases rx with
        | tup t1 r3 =>
          cases ry with
          | tup t2 r4 => exact ⟨_, _, _, _, rfl, .inr ⟨Same.tupT r1.sub t1.sq, Same.tupT r1.sub t2.sq, lr F1 H1 G1 _ _ s1 r1 (rel_zipT (.tup t1 r3) (.tup t2 r4)) h1⟩⟩
      | _ => exact gen _ _ _ _ rx ry h1
    | _ => exact gen _ _ _ _ rx ry (by cases y <;> exact h1)
end
end PL
end

section
/-! PTac: how readings are walked. -/
namespace PL
open PySem PySem.Spec PyProof.Rows L2

/-- the next statement alone: what follows is hidden behind K -/
theorem seq_gen {t u : PTS} {D : PEnds} {env : PEn} {G : GH} (h : ∀ K : PEn → GH → Prop, (∀ env' G', u D env' G' → K env' G') → t { D with nx := K } env G) : pSeq t u D env G := h _ fun _ _ h => h
/-- an if whose ways go on alike -/
theorem if_gen {c : PTT} {t u : PTS} {D : PEnds} {env : PEn} {G : GH} (h : c env G (fun b G1 => (b = true → t D env G1) ∧ (b = false → u D env G1)) D.xs) (hm : ∀ (P Q : Bool → GH → Prop), (∀ b G1, P b G1 → Q b G1) → c env G P D.xs → c env G Q D.xs) : pIf c t u D env G :=
  hm _ _ (fun b G1 h => by cases b; exact h.2 rfl; exact h.1 rfl) h
theorem ite_of {b : Bool} {A B : Prop} (h1 : b = true → A) (h2 : b = false → B) : if b = true then A else B := by
  cases b
  · exact h2 rfl
  · exact h1 rfl
theorem ite_dec {c : Prop} [Decidable c] {A B : Prop} (h1 : c → A) (h2 : ¬ c → B) : if decide c = true then A else B := by
  by_cases h : c
  · rw [decide_eq_true h]; exact h1 h
  · rw [decide_eq_false h]; exact h2 h
theorem ite_ndec {c : Prop} [Decidable c] {A B : Prop} (h1 : ¬ c → A) (h2 : c → B) : if (!decide c) = true then A else B := by
  by_cases h : c
  · rw [decide_eq_true h]; exact h2 h
  · rw [decide_eq_false h]; exact h1 h

/-- a for, its body hidden -/
theorem for_gen {ti : PTI} {g : PTG} {tb : PTS} {D : PEnds} {env : PEn} {G : GH} (h : ∀ (g' : PTG) (tb' : PTS), g' = g → tb' = tb → ti env G (fun J G1 => ∃ (I : Nat → PEn → GH → Prop) (n : Nat), I 0 env G1 ∧ ∀ i env G, i ≤ n → I i env G →
    (J.done i G ∧ D.nx env G) ∨ (i < n ∧ ∃ x, J.item i G x ∧ g' x env G (fun env' G' => tb' { D with nx := I (i + 1), ct := I (i + 1), bk := D.nx } env' G') D.xs)) D.xs) : pFor ti g tb D env G := h g tb rfl rfl
theorem lc_gen {o : Bool} {ti : PTI} {g : PTG} {tt : PTT} {te : PTE} {vs : List Nat} {env : PEn} {G : GH} {P : PK1} {Ex : PXK} (h : ∀ (g' : PTG) (tt' : PTT) (te' : PTE) (P' : PK1), g' = g → tt' = tt → te' = te → P' = P → ti env G (fun J G1 => ∀ D, G1 D = none → ∃ (I : Nat → List PV → GH → Prop) (n : Nat), I 0 [] (gset G1 D (.lst [])) ∧ ∀ i acc G, i ≤ n → I i acc G →
      (J.done i G ∧ G D = some (.lst acc) ∧ (if o = true then P' (.ref D) G else P' (.lst acc) (gdel G D))) ∨
      (i < n ∧ ∃ x, J.item i G x ∧ g' x (wipeE env vs) G (fun env2 G2 => tt' env2 G2 (fun b G3 => if b = true then te' env2 G3 (fun y G4 => G4 D = some (.lst acc) ∧ acc.length < sizeLine ∧ I (i + 1) (acc ++ [y]) (gset G4 D (.lst (acc ++ [y])))) noX else I (i + 1) acc G3) noX) noX)) Ex) : pLc o ti g tt te vs env G P Ex := h g tt te P rfl rfl rfl rfl
/-- for over a list that stays -/
theorem for_l {g : PTG} {tb : PTS} {nx : PEn → GH → Prop} {rt : PK1} {xk : PXK} {xs : List PV} {env : PEn} {G : GH} (I : Nat → PEn → GH → Prop) (h0 : I 0 env G)
    (hs : ∀ i x env G, xs[i]? = some x → I i env G → g x env G (fun env' G' => tb { nx := I (i + 1), rt := rt, bk := nx, ct := I (i + 1), xs := xk } env' G') xk) (he : ∀ env G, I xs.length env G → nx env G) :
    ∃ (I : Nat → PEn → GH → Prop) (n : Nat), I 0 env G ∧ ∀ i env G, i ≤ n → I i env G →
      ((itL xs).done i G ∧ nx env G) ∨ (i < n ∧ ∃ x, (itL xs).item i G x ∧ g x env G (fun env' G' => tb { nx := I (i + 1), rt := rt, bk := nx, ct := I (i + 1), xs := xk } env' G') xk) := by
  refine ⟨I, xs.length, h0, fun i env G hi h => ?_⟩
  by_cases l : i < xs.length
  · exact .inr ⟨l, xs[i], List.getElem?_eq_getElem l, hs i _ env G (List.getElem?_eq_getElem l) h⟩
  · have e : i = xs.length := by omega
    subst e
    exact .inl ⟨Nat.le_refl _, he env G h⟩
theorem for_r {g : PTG} {tb : PTS} {nx : PEn → GH → Prop} {rt : PK1} {xk : PXK} {lo : Int} {n : Nat} {env : PEn} {G : GH} (I : Nat → PEn → GH → Prop) (h0 : I 0 env G)
    (hs : ∀ i env G, i < n → I i env G → g (.int (lo + i)) env G (fun env' G' => tb { nx := I (i + 1), rt := rt, bk := nx, ct := I (i + 1), xs := xk } env' G') xk) (he : ∀ env G, I n env G → nx env G) :
    ∃ (I : Nat → PEn → GH → Prop) (m : Nat), I 0 env G ∧ ∀ i env G, i ≤ m → I i env G →
      ((itR lo n).done i G ∧ nx env G) ∨ (i < m ∧ ∃ x, (itR lo n).item i G x ∧ g x env G (fun env' G' => tb { nx := I (i + 1), rt := rt, bk := nx, ct := I (i + 1), xs := xk } env' G') xk) := by
  refine ⟨I, n, h0, fun i env G hi h => ?_⟩
  by_cases l : i < n
  · exact .inr ⟨l, _, ⟨l, rfl⟩, hs i env G l h⟩
  · have e : i = n := by omega
    subst e
    exact .inl ⟨Nat.le_refl _, he env G h⟩
/-- a for over any source whose items are told -/
theorem for_j {J : PIt} {g : PTG} {tb : PTS} {nx : PEn → GH → Prop} {rt : PK1} {xk : PXK} {n : Nat} {env : PEn} {G : GH} (I : Nat → PEn → GH → Prop) (h0 : I 0 env G)
    (hs : ∀ i env G, i < n → I i env G → ∃ x, J.item i G x ∧ g x env G (fun env' G' => tb { nx := I (i + 1), rt := rt, bk := nx, ct := I (i + 1), xs := xk } env' G') xk) (he : ∀ env G, I n env G → J.done n G ∧ nx env G) :
    ∃ (I : Nat → PEn → GH → Prop) (m : Nat), I 0 env G ∧ ∀ i env G, i ≤ m → I i env G →
      (J.done i G ∧ nx env G) ∨ (i < m ∧ ∃ x, J.item i G x ∧ g x env G (fun env' G' => tb { nx := I (i + 1), rt := rt, bk := nx, ct := I (i + 1), xs := xk } env' G') xk) := by
  refine ⟨I, n, h0, fun i env G hi h => ?_⟩
  by_cases l : i < n
  · exact .inr ⟨l, hs i env G l h⟩
  · have e : i = n := by omega
    subst e
    exact .inl (he env G h)

/-! ### comprehensions -/
/-- a turn of a comprehension, with what it makes told -/
def lcTurn (g : PTG) (tt : PTT) (te : PTE) (x : PV) (env : PEn) (G : GH) (Ky : PK1) (Kn : GH → Prop) : Prop := g x env G (fun env2 G2 => tt env2 G2 (fun b G3 => if b = true then te env2 G3 Ky noX else Kn G3) noX) noX
/-- a comprehension that changes nothing: f tells what is made of an item -/
theorem lc_pure {xs : List PV} {g : PTG} {tt : PTT} {te : PTE} {env : PEn} {G1 : GH} {P : PK1} {D : Addr} (own : Bool) (f : PV → Option PV) (hD : G1 D = none) (hl : xs.length < sizeLine)
    (hs : ∀ x ∈ xs, ∀ (G : GH) (Ky : PK1) (Kn : GH → Prop), Sub G1 G → (∀ y, f x = some y → Ky y G) → (f x = none → Kn G) → lcTurn g tt te x env G Ky Kn)
    (he : if own = true then P (.ref D) (gset G1 D (.lst (xs.filterMap f))) else P (.lst (xs.filterMap f)) G1) :
    ∃ (I : Nat → List PV → GH → Prop) (n : Nat), I 0 [] (gset G1 D (.lst [])) ∧ ∀ i acc G, i ≤ n → I i acc G →
      ((itL xs).done i G ∧ G D = some (.lst acc) ∧ (if own = true then P (.ref D) G else P (.lst acc) (gdel G D))) ∨
      (i < n ∧ ∃ x, (itL xs).item i G x ∧ g x env G (fun env2 G2 => tt env2 G2 (fun b G3 => if b = true then te env2 G3 (fun y G4 => G4 D = some (.lst acc) ∧ acc.length < sizeLine ∧ I (i + 1) (acc ++ [y]) (gset G4 D (.lst (acc ++ [y])))) noX else I (i + 1) acc G3) noX) noX) := by
  refine ⟨fun i acc G => acc = (xs.take i).filterMap f ∧ G = gset G1 D (.lst acc), xs.length, ⟨rfl, rfl⟩, fun i acc G hi h => ?_⟩
  obtain ⟨rfl, rfl⟩ := h
  by_cases l : i < xs.length
  · refine .inr ⟨l, xs[i], List.getElem?_eq_getElem l, ?_⟩
    have ht : xs.take (i + 1) = xs.take i ++ [xs[i]] := by rw [List.take_add_one, List.getElem?_eq_getElem l]; rfl
    refine hs _ (List.getElem_mem l) _ _ _ (Sub.new hD) (fun y e => ⟨gset_same, ?_, ?_, gset_gset⟩) (fun e => ⟨?_, rfl⟩)
    · exact Nat.lt_of_le_of_lt (Nat.le_trans (List.length_filterMap_le _ _) (by rw [List.length_take]; omega)) hl
    · rw [ht, List.filterMap_append, List.filterMap_cons, e]; rfl
    · rw [ht, List.filterMap_append, List.filterMap_cons, e, List.filterMap_nil, List.append_nil]
  · have e : i = xs.length := by omega
    subst e
    rw [List.take_length]
    refine .inl ⟨Nat.le_refl _, gset_same, ?_⟩
    cases own with
    | true => exact he
    | false => rw [gdel_gset hD]; exact he

/-! ### operations by what is known -/
theorem rIx_seq {G : GH} {s : PV} {xs : List PV} {i : Int} {v : PV} {Q : PK1} (hs : seqOf G s = some xs) (hi : atI xs i = some v) (q : Q v G) : PL.rIx s (.int i) G Q := by
  have go : ∀ {ys : List PV}, ys = xs → ixL ys (.int i) G Q := fun {ys} e => by
    subst e
    show (match atI ys i with
      | some v => Q v G
      | none => False)
    rw [hi]
    exact q
  cases s with
  | tup ys => exact go (Option.some.inj hs)
  | lst ys => exact go (Option.some.inj hs)
  | scr ys => exact go (Option.some.inj hs)
  | ref a =>
    have e := ownL_eq (show ownL G a = some xs from hs)
    show (match G a with
      | some (.lst xs) => ixL xs (.int i) G Q
      | some (.dk kvs) => ixD kvs (.int i) G Q
      | _ => False)
    rw [e]
    exact go rfl
  | _ => cases hs
theorem rIx_dict {G : GH} {a : Addr} {kvs : List (Key × PV)} {y : PV} {k : Key} {v : PV} {Q : PK1} (hG : G a = some (.dk kvs)) (hk : pkey y = some k) (hv : valP kvs k = some v) (q : Q v G) : PL.rIx (.ref a) y G Q := by
  show (match G a with
    | some (.lst xs) => ixL xs y G Q
    | some (.dk kvs) => ixD kvs y G Q
    | _ => False)
  rw [hG]
  show (match pkey y with
    | some k => (match valP kvs k with
      | some v => Q v G
      | none => False)
    | none => False)
  rw [hk]
  show (match valP kvs k with
      | some v => Q v G
      | none => False)
  rw [hv]
  exact q
theorem rSet_dict {G : GH} {a : Addr} {kvs : List (Key × PV)} {y x : PV} {k : Key} {Q : GH → Prop} (hG : G a = some (.dk kvs)) (hk : pkey y = some k) (hl : kvs.length < sizeLine) (q : Q (gset G a (.dk (putP kvs k x)))) : rSet (.ref a) y x G Q := by
  show (match G a with
    | some (.lst xs) => setL a xs y x G Q
    | some (.dk kvs) => setD a kvs y x G Q
    | _ => False)
  rw [hG]
  show (match pkey y with
    | some k => kvs.length < sizeLine ∧ Q (gset G a (.dk (putP kvs k x)))
    | none => False)
  rw [hk]
  exact ⟨hl, q⟩
theorem rSet_lst {G : GH} {a : Addr} {xs : List PV} {i : Int} {j : Nat} {x : PV} {Q : GH → Prop} (hG : G a = some (.lst xs)) (hj : ixN xs.length i = some j) (q : Q (gset G a (.lst (xs.set j x)))) : rSet (.ref a) (.int i) x G Q := by
  show (match G a with
    | some (.lst xs) => setL a xs (.int i) x G Q
    | some (.dk kvs) => setD a kvs (.int i) x G Q
    | _ => False)
  rw [hG]
  show (match ixN xs.length i with
    | some j => Q (gset G a (.lst (xs.set j x)))
    | none => False)
  rw [hj]
  exact q
theorem rLen_seq {G : GH} {s : PV} {xs : List PV} {Q : PK1} (hs : seqOf G s = some xs) (q : Q (.int xs.length) G) : rLen [s] G Q := by
  cases s with
  | tup ys => cases hs; exact q
  | lst ys => cases hs; exact q
  | scr ys => cases hs; rw [List.length_map] at q; exact q
  | ref a =>
    have e := ownL_eq (show ownL G a = some xs from hs)
    show (match G a with
      | some (.lst ys) => Q (.int ys.length) G
      | some (.dk kvs) => Q (.int kvs.length) G
      | _ => False)
    rw [e]
    exact q
  | _ => cases hs
theorem rIsi_of {G : GH} {x : PV} {t c : String} {Q : PK1} (ht : tyP G x = some t) (hc : c ∈ ["int", "bool", "str", "tuple", "list", "dict"]) (q : Q (.bl (isI t c)) G) : PL.rIsi [x, .ty c] G Q := by
  show (match tyP G x with
    | some t => c ∈ ["int", "bool", "str", "tuple", "list", "dict"] ∧ Q (.bl (isI t c)) G
    | none => False)
  rw [ht]
  exact ⟨hc, q⟩
def frzSeq : PV → Option (List PV)
  | .lst xs => some xs
  | .tup xs => some xs
  | .scr ns => some (ns.map .int)
  | _ => none
theorem iseq_of {G : GH} {x : PV} {xs : List PV} {R : PIt → GH → Prop} (h : frzSeq x = some xs) (r : R (itL xs) G) : iSeqR x G R := by
  cases x with
  | lst ys => cases h; exact r
  | tup ys => cases h; exact r
  | scr ys => cases h; exact r
  | _ => cases h
theorem rList_of {own : Bool} {G : GH} {s : PV} {xs : List PV} {Q : PK1} (hs : seqOf G s = some xs) (q : if own = true then ∀ p, G p = none → Q (.ref p) (gset G p (.lst xs)) else Q (.lst xs) G) : rList own [s] G Q := by
  show (match seqOf G s with
    | some ys => if own = true then ∀ p, G p = none → Q (.ref p) (gset G p (.lst ys)) else Q (.lst ys) G
    | none => False)
  rw [hs]
  exact q
theorem rTuple_of {G : GH} {s : PV} {xs : List PV} {Q : PK1} (hs : seqOf G s = some xs) (q : Q (.tup xs) G) : rTuple [s] G Q := by
  show (match seqOf G s with
    | some ys => Q (.tup ys) G
    | none => False)
  rw [hs]
  exact q
/-- a method at a list that is owned -/
theorem pBM_of {Ts : List String} {A : String → Prop} {G : GH} {x : PV} {T : String} (ht : tyP G x = some T) (hT : T ∈ Ts) (q : A T) :
    (match tyP G x with
      | some T => T ∈ Ts ∧ A T
      | none => False) := by
  rw [ht]
  exact ⟨hT, q⟩
theorem tyP_own {G : GH} {a : Addr} {xs : List PV} (h : G a = some (.lst xs)) : tyP G (.ref a) = some "list" := by
  show (match G a with
    | some (.lst _) => some "list"
    | some (.dk _) => some "dict"
    | _ => none) = _
  rw [h]
theorem rAppend_of {G : GH} {a : Addr} {xs : List PV} {y : PV} {P : PK1} (h : G a = some (.lst xs)) (hl : xs.length < sizeLine) (q : P .non (gset G a (.lst (xs ++ [y])))) : PL.rAppend (.ref a) [y] G P := by
  show (match G a with
    | some (.lst xs) => xs.length < sizeLine ∧ P .non (gset G a (.lst (xs ++ [y])))
    | _ => False)
  rw [h]
  exact ⟨hl, q⟩
theorem small {n : Nat} (h : n ≤ 10000000) : n ≤ sizeLine := Nat.le_trans h (by rw [sizeLine_eq]; decide)
theorem small' {n : Nat} (h : n ≤ 10000000) : n < sizeLine := Nat.lt_of_le_of_lt h (by rw [sizeLine_eq]; decide)
theorem ixN_in {n : Nat} {i : Int} (h0 : 0 ≤ i) (h : i < n) : ixN n i = some i.toNat := by
  unfold ixN
  rw [if_pos h0, if_pos h]
theorem atI_in {xs : List PV} {i : Int} {v : PV} (h0 : 0 ≤ i) (h : xs[i.toNat]? = some v) : atI xs i = some v := by
  have := atI_nat h
  rw [Int.toNat_of_nonneg h0] at this
  exact this

section
variable {G : GH} {P : PK1} {i j : Int} {a b : Str}
theorem rAdd_ii : rAdd (.int i) (.int j) G P = P (.int (i + j)) G := rfl
theorem rSub_ii : rSub (.int i) (.int j) G P = P (.int (i - j)) G := rfl
theorem rMul_ii : rMul (.int i) (.int j) G P = (CMul2 i j ∧ P (.int (i * j)) G) := rfl
theorem rFdiv_ii : rFdiv (.int i) (.int j) G P = (CDiv2 i j ∧ P (.int (i / j)) G) := rfl
theorem rMod_ii : rMod (.int i) (.int j) G P = (0 < j ∧ P (.int (i % j)) G) := rfl
theorem rPow_ii : rPow (.int i) (.int j) G P = (CPow i j ∧ P (.int (i ^ j.toNat)) G) := rfl
theorem rLt_ii : rLt (.int i) (.int j) G P = P (.bl (decide (i < j))) G := rfl
theorem rLe_ii : rLe (.int i) (.int j) G P = P (.bl (decide (i ≤ j))) G := rfl
theorem rGt_ii : rGt (.int i) (.int j) G P = P (.bl (decide (j < i))) G := rfl
theorem rGe_ii : rGe (.int i) (.int j) G P = P (.bl (decide (j ≤ i))) G := rfl
theorem rEq_ii : PL.rEq (.int i) (.int j) G P = P (.bl (decide (i = j))) G := rfl
theorem rNe_ii : PL.rNe (.int i) (.int j) G P = P (.bl (!decide (i = j))) G := rfl
theorem rEq_ss : PL.rEq (.str a) (.str b) G P = P (.bl (decide (a = b))) G := rfl
theorem rNe_ss : PL.rNe (.str a) (.str b) G P = P (.bl (!decide (a = b))) G := rfl
theorem rNeg_i : rNeg (.int i) G P = P (.int (-i)) G := rfl
theorem rAbs_i : rAbs [.int i] G P = P (.int (if i < 0 then -i else i)) G := rfl
theorem rMin_ii : rMinL [.int i, .int j] G P = P (.int (if j < i then j else i)) G := rfl
theorem rMax_ii : rMaxL [.int i, .int j] G P = P (.int (if j > i then j else i)) G := rfl
theorem rInt_i : rIntB [.int i] G P = P (.int i) G := rfl
theorem rInt_b {c : Bool} : rIntB [.bl c] G P = P (.int (if c = true then 1 else 0)) G := rfl
end
theorem abs_nn (i : Int) : 0 ≤ (if i < 0 then -i else i) := by split <;> omega
end PL
end

section
/-! PData: plain data (no truths, no objects): == is sameness; comprehensions with a state; a def that leaves objects behind. -/
namespace PL
open PySem PySem.Spec PyProof.Rows L2

mutual
def PV.pl : PV → Bool
  | .non => true
  | .int _ => true
  | .str x => PyData.strOk x
  | .tup xs => plA xs
  | .lst xs => plA xs
  | .bl _ => false
  | .ref _ => false
  | .ty _ => false
  | .scr _ => false
def plA : List PV → Bool
  | [] => true
  | x :: xs => PV.pl x && plA xs
end
mutual
def PV.dep : PV → Nat
  | .tup xs => depA xs + 1
  | .lst xs => depA xs + 1
  | _ => 0
def depA : List PV → Nat
  | [] => 0
  | x :: xs => max (PV.dep x) (depA xs)
end
mutual
theorem pl_isD : ∀ x : PV, x.pl = true → x.isD = true
  | .non, _ => rfl
  | .int _, _ => rfl
  | .str _, _ => rfl
  | .tup xs, h => by simp only [PV.isD]; exact plA_isD xs (by simpa only [PV.pl] using h)
  | .lst xs, h => by simp only [PV.isD]; exact plA_isD xs (by simpa only [PV.pl] using h)
  | .bl _, h => by simp only [PV.pl] at h; cases h
  | .ref _, h => by simp only [PV.pl] at h; cases h
  | .ty _, h => by simp only [PV.pl] at h; cases h
  | .scr _, h => by simp only [PV.pl] at h; cases h
theorem plA_isD : ∀ xs : List PV, plA xs = true → isDs xs = true
  | [], _ => rfl
  | x :: xs, h => by
    have h' : x.pl = true ∧ plA xs = true := by simpa only [plA, Bool.and_eq_true] using h
    simp only [isDs, pl_isD x h'.1, plA_isD xs h'.2, Bool.and_self]
end
mutual
theorem pl_lay : ∀ x : PV, x.pl = true → x.dat.canLay0 = true
  | .non, _ => by simp only [PV.dat, PyData.canLay0]
  | .int _, _ => by simp only [PV.dat, PyData.canLay0]
  | .str x, h => by simp only [PV.dat, PyData.canLay0]; simpa only [PV.pl] using h
  | .tup xs, h => by simp only [PV.dat, PyData.canLay0]; exact plA_lay xs (by simpa only [PV.pl] using h)
  | .lst xs, h => by simp only [PV.dat, PyData.canLay0]; exact plA_lay xs (by simpa only [PV.pl] using h)
  | .bl _, h => by simp only [PV.pl] at h; cases h
  | .ref _, h => by simp only [PV.pl] at h; cases h
  | .ty _, h => by simp only [PV.pl] at h; cases h
  | .scr _, h => by simp only [PV.pl] at h; cases h
theorem plA_lay : ∀ xs : List PV, plA xs = true → PyData.canLayAll0 (dats xs) = true
  | [], _ => by simp only [dats, PyData.canLayAll0]
  | x :: xs, h => by
    have h' : x.pl = true ∧ plA xs = true := by simpa only [plA, Bool.and_eq_true] using h
    simp only [dats, PyData.canLayAll0, pl_lay x h'.1, plA_lay xs h'.2, Bool.and_self]
end
mutual
theorem pl_dep : ∀ x : PV, x.pl = true → x.dat.depth = x.dep
  | .non, _ => by simp only [PV.dat, PyData.depth, PV.dep]
  | .int _, _ => by simp only [PV.dat, PyData.depth, PV.dep]
  | .str x, h => by simp only [PV.dat, PyData.depth, PV.dep]
  | .tup xs, h => by simp only [PV.dat, PyData.depth, PV.dep]; rw [plA_dep xs (by simpa only [PV.pl] using h)]
  | .lst xs, h => by simp only [PV.dat, PyData.depth, PV.dep]; rw [plA_dep xs (by simpa only [PV.pl] using h)]
  | .bl _, h => by simp only [PV.pl] at h; cases h
  | .ref _, h => by simp only [PV.pl] at h; cases h
  | .ty _, h => by simp only [PV.pl] at h; cases h
  | .scr _, h => by simp only [PV.pl] at h; cases h
theorem plA_dep : ∀ xs : List PV, plA xs = true → PyData.depthAll (dats xs) = depA xs
  | [], _ => by simp only [dats, PyData.depthAll, depA]
  | x :: xs, h => by
    have h' : x.pl = true ∧ plA xs = true := by simpa only [plA, Bool.and_eq_true] using h
    simp only [dats, PyData.depthAll, depA, pl_dep x h'.1, plA_dep xs h'.2]
end
mutual
theorem pl_eqv : ∀ x y : PV, x.pl = true → y.pl = true → (PyData.eqv x.dat y.dat = true ↔ x = y)
  | .non, y, _, hy => by cases y <;> simp_all [PV.dat, PyData.eqv, PV.pl]
  | .int i, y, _, hy => by cases y <;> simp_all [PV.dat, PyData.eqv, PV.pl]
  | .str x, y, _, hy => by cases y <;> simp_all [PV.dat, PyData.eqv, PV.pl]
  | .tup xs, y, hx, hy => by
    cases y with
    | tup ys =>
      simp only [PV.dat, PyData.eqv, PV.tup.injEq]
      exact plA_eqv xs ys (by simpa only [PV.pl] using hx) (by simpa only [PV.pl] using hy)
    | _ => simp_all [PV.dat, PyData.eqv, PV.pl]
  | .lst xs, y, hx, hy => by
    cases y with
    | lst ys =>
      simp only [PV.dat, PyData.eqv, PV.lst.injEq]
      exact plA_eqv xs ys (by simpa only [PV.pl] using hx) (by simpa only [PV.pl] using hy)
    | _ => simp_all [PV.dat, PyData.eqv, PV.pl]
  | .bl _, _, h, _ => by simp only [PV.pl] at h; cases h
  | .ref _, _, h, _ => by simp only [PV.pl] at h; cases h
  | .ty _, _, h, _ => by simp only [PV.pl] at h; cases h
  | .scr _, _, h, _ => by simp only [PV.pl] at h; cases h
theorem plA_eqv : ∀ xs ys : List PV, plA xs = true → plA ys = true → (PyData.eqvAll (dats xs) (dats ys) = true ↔ xs = ys)
  | [], [], _, _ => by simp only [dats, PyData.eqvAll]
  | [], _ :: _, _, _ => by simp [dats, PyData.eqvAll]
  | _ :: _, [], _, _ => by simp [dats, PyData.eqvAll]
  | x :: xs, y :: ys, hx, hy => by
    have h1 : x.pl = true ∧ plA xs = true := by simpa only [plA, Bool.and_eq_true] using hx
    have h2 : y.pl = true ∧ plA ys = true := by simpa only [plA, Bool.and_eq_true] using hy
    simp only [dats, PyData.eqvAll, Bool.and_eq_true, List.cons.injEq]
    rw [pl_eqv x y h1.1 h2.1, plA_eqv xs ys h1.2 h2.2]
end
theorem plA_map {α : Type} (f : α → PV) (h : ∀ a, (f a).pl = true) : ∀ l : List α, plA (l.map f) = true
  | [] => by simp only [List.map_nil, plA]
  | a :: l => by simp only [List.map_cons, plA, h a, plA_map f h l, Bool.and_self]
theorem depA_le {α : Type} (f : α → PV) (n : Nat) (h : ∀ a, (f a).dep ≤ n) : ∀ l : List α, depA (l.map f) ≤ n
  | [] => by simp only [List.map_nil, depA]; omega
  | a :: l => by
    have h1 := h a
    have h2 := depA_le f n h l
    simp only [List.map_cons, depA]
    omega
theorem plA_mem : ∀ {xs : List PV}, (∀ x ∈ xs, x.pl = true) → plA xs = true
  | [], _ => by simp only [plA]
  | x :: xs, h => by simp only [plA, h x List.mem_cons_self, plA_mem fun y hy => h y (List.mem_cons_of_mem _ hy), Bool.and_self]
theorem depA_mem {n : Nat} : ∀ {xs : List PV}, (∀ x ∈ xs, x.dep ≤ n) → depA xs ≤ n
  | [], _ => by simp only [depA]; omega
  | x :: xs, h => by
    have h1 := h x List.mem_cons_self
    have h2 := depA_mem fun y hy => h y (List.mem_cons_of_mem _ hy)
    simp only [depA]
    omega
theorem datOf_pl {G : GH} {x : PV} (h : x.pl = true) : datOf G x = some x.dat := by
  cases x with
  | ref a => simp only [PV.pl] at h; cases h
  | non => exact if_pos (e := none) (pl_isD _ h)
  | bl _ => exact if_pos (e := none) (pl_isD _ h)
  | int _ => exact if_pos (e := none) (pl_isD _ h)
  | str _ => exact if_pos (e := none) (pl_isD _ h)
  | ty _ => exact if_pos (e := none) (pl_isD _ h)
  | tup _ => exact if_pos (e := none) (pl_isD _ h)
  | lst _ => exact if_pos (e := none) (pl_isD _ h)
  | scr _ => exact if_pos (e := none) (pl_isD _ h)
theorem shaped_pl {x : PV} (h : x.pl = true) (hd : x.dep ≤ 64) : SeqAt.shaped x.dat = true := by
  show (x.dat.canLay0 && decide (x.dat.depth ≤ 64)) = true
  rw [pl_lay x h, pl_dep x h, decide_eq_true hd]
  rfl
theorem datOf_own {G : GH} {a : Addr} {xs : List PV} (e : G a = some (.lst xs)) (h : plA xs = true) : datOf G (.ref a) = some (PV.lst xs).dat := by
  show (match ownL G a with
    | some xs => if isDs xs = true then some (PyData.list (dats xs)) else none
    | none => none) = _
  rw [ownL_of e]
  dsimp only
  rw [if_pos (plA_isD xs h)]
  rfl
/-- x stands for y as data -/
def AsD (G : GH) (x y : PV) : Prop := y.pl = true ∧ y.dep ≤ 64 ∧ (x = y ∨ ∃ a xs, x = .ref a ∧ y = .lst xs ∧ G a = some (.lst xs))
theorem AsD.of {G : GH} {x : PV} (h : x.pl = true) (hd : x.dep ≤ 64) : AsD G x x := ⟨h, hd, .inl rfl⟩
theorem AsD.dat {G : GH} {x y : PV} (h : AsD G x y) : datOf G x = some y.dat := by
  obtain ⟨h1, _, rfl | ⟨a, xs, rfl, rfl, e⟩⟩ := h
  · exact datOf_pl h1
  · exact datOf_own e (by simpa only [PV.pl] using h1)
theorem rEq_d {G : GH} {x y : PV} {P : PK1} {d e : PyData} (hx : datOf G x = some d) (hy : datOf G y = some e) (sd : SeqAt.shaped d = true) (se : SeqAt.shaped e = true) (q : P (.bl (PyData.eqv d e)) G) : PL.rEq x y G P := by
  have gen : (match datOf G x, datOf G y with
    | some d, some e => SeqAt.shaped d = true ∧ SeqAt.shaped e = true ∧ P (.bl (PyData.eqv d e)) G
    | _, _ => False) := by
    rw [hx, hy]
    exact ⟨sd, se, q⟩
  cases x with
  | int i =>
    cases y with
    | int j =>
      cases hx
      cases hy
      show P (.bl (decide (i = j))) G
      rw [show PyData.eqv (PV.int i).dat (PV.int j).dat = decide (i = j) from Bool.beq_eq_decide_eq i j] at q
      exact q
    | _ => exact gen
  | str i =>
    cases y with
    | str j =>
      cases hx
      cases hy
      show P (.bl (decide (i = j))) G
      rw [show PyData.eqv (PV.str i).dat (PV.str j).dat = decide (i = j) from Bool.beq_eq_decide_eq i j] at q
      exact q
    | _ => exact gen
  | _ => cases y <;> exact gen
theorem rNe_d {G : GH} {x y : PV} {P : PK1} {d e : PyData} (hx : datOf G x = some d) (hy : datOf G y = some e) (sd : SeqAt.shaped d = true) (se : SeqAt.shaped e = true) (q : P (.bl (!PyData.eqv d e)) G) : PL.rNe x y G P := by
  have gen : (match datOf G x, datOf G y with
    | some d, some e => SeqAt.shaped d = true ∧ SeqAt.shaped e = true ∧ P (.bl (!PyData.eqv d e)) G
    | _, _ => False) := by
    rw [hx, hy]
    exact ⟨sd, se, q⟩
  cases x with
  | int i =>
    cases y with
    | int j =>
      cases hx
      cases hy
      show P (.bl (!decide (i = j))) G
      rw [show PyData.eqv (PV.int i).dat (PV.int j).dat = decide (i = j) from Bool.beq_eq_decide_eq i j] at q
      exact q
    | _ => exact gen
  | str i =>
    cases y with
    | str j =>
      cases hx
      cases hy
      show P (.bl (!decide (i = j))) G
      rw [show PyData.eqv (PV.str i).dat (PV.str j).dat = decide (i = j) from Bool.beq_eq_decide_eq i j] at q
      exact q
    | _ => exact gen
  | _ => cases y <;> exact gen
theorem rEq_pl {G : GH} {x y x' y' : PV} {P : PK1} (hx : AsD G x x') (hy : AsD G y y') (h1 : x' = y' → P (.bl true) G) (h2 : x' ≠ y' → P (.bl false) G) : PL.rEq x y G P := by
  refine rEq_d hx.dat hy.dat (shaped_pl hx.1 hx.2.1) (shaped_pl hy.1 hy.2.1) ?_
  have e := pl_eqv x' y' hx.1 hy.1
  by_cases h : x' = y'
  · rw [e.mpr h]; exact h1 h
  · rw [show PyData.eqv x'.dat y'.dat = false from Bool.eq_false_iff.mpr fun z => h (e.mp z)]; exact h2 h
theorem rNe_pl {G : GH} {x y x' y' : PV} {P : PK1} (hx : AsD G x x') (hy : AsD G y y') (h1 : x' = y' → P (.bl false) G) (h2 : x' ≠ y' → P (.bl true) G) : PL.rNe x y G P := by
  refine rNe_d hx.dat hy.dat (shaped_pl hx.1 hx.2.1) (shaped_pl hy.1 hy.2.1) ?_
  have e := pl_eqv x' y' hx.1 hy.1
  by_cases h : x' = y'
  · rw [e.mpr h]; exact h1 h
  · rw [show PyData.eqv x'.dat y'.dat = false from Bool.eq_false_iff.mpr fun z => h (e.mp z)]; exact h2 h

/-! ### a comprehension whose turns change one object -/
theorem lc_st {J : PIt} {g : PTG} {tt : PTT} {te : PTE} {env : PEn} {G1 : GH} {P : PK1} {D p : Addr} {o0 : GO} (own : Bool) (n : Nat) (xf : Nat → PV) (S : Nat → GO → Prop) (R : Nat → PV → Prop) (hD : G1 D = none) (hG : G1 p = some o0) (h0 : S 0 o0) (hl : n < sizeLine)
    (hJ : ∀ i G, i < n → J.item i G (xf i)) (hJe : ∀ G, J.done n G)
    (hs : ∀ i (G : GH) (o : GO) (Ky : PK1) (Kn : GH → Prop), i < n → G p = some o → S i o → (∀ a u, a ≠ p → G1 a = some u → G a = some u) → (∀ y o', R i y → S (i + 1) o' → Ky y (gset G p o')) → lcTurn g tt te (xf i) env G Ky Kn)
    (he : ∀ (ys : List PV) (o' : GO), ys.length = n → (∀ i y, ys[i]? = some y → R i y) → S n o' → if own = true then P (.ref D) (gset (gset G1 p o') D (.lst ys)) else P (.lst ys) (gset G1 p o')) :
    ∃ (I : Nat → List PV → GH → Prop) (n : Nat), I 0 [] (gset G1 D (.lst [])) ∧ ∀ i acc G, i ≤ n → I i acc G →
      (J.done i G ∧ G D = some (.lst acc) ∧ (if own = true then P (.ref D) G else P (.lst acc) (gdel G D))) ∨
      (i < n ∧ ∃ x, J.item i G x ∧ g x env G (fun env2 G2 => tt env2 G2 (fun b G3 => if b = true then te env2 G3 (fun y G4 => G4 D = some (.lst acc) ∧ acc.length < sizeLine ∧ I (i + 1) (acc ++ [y]) (gset G4 D (.lst (acc ++ [y])))) noX else I (i + 1) acc G3) noX) noX) := by
  have pD : p ≠ D := gne hG hD
  refine ⟨fun i acc G => ∃ o', acc.length = i ∧ (∀ j y, acc[j]? = some y → R j y) ∧ S i o' ∧ G = gset (gset G1 p o') D (.lst acc), n, ⟨o0, rfl, fun j y e => (by simp at e), h0, by rw [gset_id hG]⟩, fun i acc G hi h => ?_⟩
  obtain ⟨o', rfl, hR, hS, rfl⟩ := h
  have hD' : gset G1 p o' D = none := by rw [gset_ne (Ne.symm pD)]; exact hD
  by_cases l : acc.length < n
  · refine .inr ⟨l, xf acc.length, hJ _ _ l, ?_⟩
    refine hs _ _ o' _ _ l (by rw [gset_ne pD, gset_same]) hS (fun a u ha hu => by rw [gset_ne (gne hu hD), gset_ne ha]; exact hu) fun y o2 hy hS2 => ⟨by rw [gset_ne (Ne.symm pD), gset_same], Nat.lt_trans l hl, o2, by rw [List.length_append]; rfl, fun j z e => ?_, hS2, ?_⟩
    · by_cases hj : j < acc.length
      · rw [List.getElem?_append_left hj] at e
        exact hR j z e
      · rw [List.getElem?_append_right (by omega)] at e
        have ej : j - acc.length = 0 := by
          cases q : j - acc.length with
          | zero => rfl
          | succ k => rw [q] at e; simp at e
        rw [ej] at e
        cases e
        rw [show j = acc.length from by omega]
        exact hy
    · rw [gset_comm (a := D) (b := p) (Ne.symm pD), gset_gset, gset_gset]
  · have e : acc.length = n := by omega
    refine .inl ⟨by rw [e]; exact hJe _, gset_same, ?_⟩
    have q := he acc o' e hR (by rw [← e]; exact hS)
    cases own with
    | true => exact q
    | false => rw [gdel_gset hD']; exact q
theorem itR_item {lo : Int} {n i : Nat} {G : GH} (h : i < n) : (itR lo n).item i G (.int (lo + i)) := ⟨h, rfl⟩

/-! ### a def that leaves objects behind -/
def dropQ (Q : PK1) : PK1 := fun x G' => ∃ G0, Sub G0 G' ∧ Q x G0
theorem dropQ_of {Q : PK1} {x : PV} {G : GH} (h : Q x G) : dropQ Q x G := ⟨G, Sub.refl G, h⟩
theorem LkQ.drop {K : PySem.W.Frag} {F : Hp} {P : PK1} {Q : VK} (h : LkQ K F P Q) : LkQ K F (dropQ P) Q := fun F' H' G' v x s r rv ⟨G0, sb, q⟩ => h F' H' G0 v x s (r.drop sb) rv q
theorem def_byD {P : Program} {w : World} {K : PySem.W.Frag} {mg : Str → Option Value} {base : Heap} {x qual : Str} {st : Stmt} {f : Addr} {fd : FuncData} {N ps : List Str} {k : Nat} {psp : PSp} {t : PTS} (F : Fun K x qual st f fd) (S : FnScope N ps (defScope st))
    (hd : ∀ {cdv : Value} {A : Around} {outer : List Env} {s : Shared} {H : Hp} {E : XK}, A.guards = some [] → Room k (A.deeper (envOfC qual (defScope st) s.heap.objs.size f cdv)) → QB (cxOf (L2.CX P w) P w K mg base N qual (defScope st) f cdv A outer s H E) (defBody st) t)
    (hread : ∀ (xs : List PV) (G : GH) (Q : PK1) (Ex : Value → GH → Prop), psp xs G Q Ex → xs.length = ps.length ∧ t { nx := fun _ G => dropQ Q .non G, rt := dropQ Q, xs := fun c _ G' => ∃ G0, Sub G0 G' ∧ Ex c G0 } (startE N.length xs) G) :
    FnP P w K mg base (k + 1) f fd ps psp := by
  have F2 : FnP P w K mg base (k + 1) f fd ps (fun xs G Q Ex => ∃ Q0 Ex0, psp xs G Q0 Ex0 ∧ Q = dropQ Q0 ∧ Ex = fun c G' => ∃ G0, Sub G0 G' ∧ Ex0 c G0) := by
    refine def_by F S hd fun xs G Q Ex h => ?_
    obtain ⟨Q0, Ex0, h, rfl, rfl⟩ := h
    exact hread xs G Q0 Ex0 h
  have hh : ∀ vs H Q E, spOf K psp vs H Q E → spOf K (fun xs G Q Ex => ∃ Q0 Ex0, psp xs G Q0 Ex0 ∧ Q = dropQ Q0 ∧ Ex = fun c G' => ∃ G0, Sub G0 G' ∧ Ex0 c G0) vs H Q E := fun vs H Q E ⟨F', G, xs, P', Ex, a, b, c, d, e⟩ =>
    ⟨F', G, xs, _, _, a, b, ⟨P', Ex, c, rfl, rfl⟩, d.drop, fun F2 H2 G2 c2 s2 r2 ⟨G0, sb, q⟩ => e F2 H2 G0 c2 s2 (r2.drop sb) q⟩
  exact ⟨fun vs H Q E q => F2.len vs H Q E (hh _ _ _ _ q), fun A outer s H args us vs Q E hg hr he hb hv hs => F2.run A outer s H args us vs Q E hg hr he hb hv (hh _ _ _ _ hs)⟩
theorem Sub.set {G G' : GH} {a : Addr} {o : GO} (h : Sub G G') : Sub (gset G a o) (gset G' a o) := fun b u e => by
  unfold gset at e ⊢
  by_cases z : b = a
  · rw [if_pos z] at e ⊢; exact e
  · rw [if_neg z] at e ⊢; exact h b u e
theorem Sub.del {G G' : GH} {a : Addr} (h : Sub G G') (n : G a = none) : Sub G (gdel G' a) := fun b u e => by
  unfold gdel
  rw [if_neg (gne e n)]
  exact h b u e

/-! ### places -/
theorem findIdx_int (ns : List Int) (k : Int) (h : k ∈ ns) : (ns.map PV.int).findIdx? (fun z => eqP z (.int k)) = some (ns.idxOf k) := by
  induction ns with
  | nil => cases h
  | cons n r ih =>
    rw [List.map_cons, List.findIdx?_cons]
    have e : eqP (.int n) (.int k) = (n == k) := rfl
    rw [e, List.idxOf_cons]
    cases q : n == k with
    | true => rfl
    | false =>
      have hk : k ∈ r := by
        rcases List.mem_cons.mp h with rfl | h
        · simp at q
        · exact h
      rw [ih hk]
      rfl
theorem allFlat_int (ns : List Int) : (ns.map PV.int).all flatP = true := by
  rw [List.all_map]
  exact List.all_eq_true.mpr fun _ _ => rfl
theorem rIdxL_int {G : GH} {x : PV} {ns : List Int} {k : Int} {P : PK1} (h : lstOf G x = some (ns.map .int)) (hk : k ∈ ns) (q : P (.int (ns.idxOf k : Nat)) G) : rIdxL x [.int k] G P := by
  show (match lstOf G x with
    | some ys => flatP (.int k) = true ∧ ys.all flatP = true ∧ (match ys.findIdx? fun z => eqP z (.int k) with
      | some j => P (.int j) G
      | none => False)
    | none => False)
  rw [h]
  refine ⟨rfl, allFlat_int ns, ?_⟩
  rw [findIdx_int ns k hk]
  exact q
theorem rIdxT_int {G : GH} {ns : List Int} {k : Int} {P : PK1} (hk : k ∈ ns) (q : P (.int (ns.idxOf k : Nat)) G) : rIdxT (.tup (ns.map .int)) [.int k] G P := by
  show (match intsP (ns.map .int) with
    | some ns => k ∈ ns ∧ P (.int (ns.idxOf k : Nat)) G
    | none => False)
  rw [intsP_of]
  exact ⟨hk, q⟩
theorem any_int (ns : List Int) (k : Int) : ((ns.map PV.int).any fun z => eqP z (.int k)) = decide (k ∈ ns) := by
  induction ns with
  | nil => rfl
  | cons n r ih =>
    rw [List.map_cons, List.any_cons, ih]
    have e : eqP (.int n) (.int k) = (n == k) := rfl
    rw [e, Bool.beq_eq_decide_eq, ← Bool.decide_or]
    simp only [List.mem_cons, eq_comm]
theorem rMin_int {G : GH} {ns : List Int} {P : PK1} (h : 0 < ns.length) (q : ∀ m, m ∈ ns → (∀ y, y ∈ ns → m ≤ y) → P (.int m) G) : rMinL [.lst (ns.map .int)] G P := by
  show (match intsP (ns.map .int) with
    | some ns => 0 < ns.length ∧ ∀ m, m ∈ ns → (∀ y, y ∈ ns → m ≤ y) → P (.int m) G
    | none => False)
  rw [intsP_of]
  exact ⟨h, q⟩
theorem idxOf_map {l : List Int} {f : Int → Int} {c : Int} : (∀ d ∈ l.takeWhile (fun d => !decide (d = c)), f c < f d) → c ∈ l → l.idxOf c = (l.map f).idxOf (f c) := by
  induction l with
  | nil => intro _ h; cases h
  | cons d r ih =>
    intro h hc
    rw [List.map_cons, List.idxOf_cons, List.idxOf_cons]
    by_cases e : d = c
    · subst e
      simp
    · have ht : (d :: r).takeWhile (fun d => !decide (d = c)) = d :: r.takeWhile (fun d => !decide (d = c)) := by rw [List.takeWhile_cons, decide_eq_false e]; rfl
      rw [ht] at h
      have hd := h d List.mem_cons_self
      have e2 : f d ≠ f c := by omega
      rw [show (d == c) = false from beq_eq_false_iff_ne.mpr e, show (f d == f c) = false from beq_eq_false_iff_ne.mpr e2]
      have hc' : c ∈ r := by
        rcases List.mem_cons.mp hc with rfl | h
        · exact absurd rfl e
        · exact h
      rw [ih (fun x hx => h x (List.mem_cons_of_mem _ hx)) hc']
theorem filterMap_some {α β : Type} (f : α → β) (l : List α) : l.filterMap (fun x => some (f x)) = l.map f := by
  induction l with
  | nil => rfl
  | cons a l ih => rw [List.filterMap_cons, List.map_cons, ih]
theorem lc_pureF {xs : List PV} {g : PTG} {tt : PTT} {te : PTE} {env : PEn} {G1 : GH} {P : PK1} {D : Addr} (f : PV → Option PV) (hD : G1 D = none) (hl : xs.length < sizeLine)
    (hs : ∀ x ∈ xs, ∀ (G : GH) (Ky : PK1) (Kn : GH → Prop), Sub G1 G → (∀ y, f x = some y → Ky y G) → (f x = none → Kn G) → lcTurn g tt te x env G Ky Kn)
    (he : P (.lst (xs.filterMap f)) (G1)) : ∃ (I : Nat → List PV → GH → Prop) (n : Nat), I 0 [] (gset G1 D (.lst [])) ∧ ∀ i acc G, i ≤ n → I i acc G →
      ((itL xs).done i G ∧ G D = some (.lst acc) ∧ (if false = true then P (.ref D) G else P (.lst acc) (gdel G D))) ∨
      (i < n ∧ ∃ x, (itL xs).item i G x ∧ g x env G (fun env2 G2 => tt env2 G2 (fun b G3 => if b = true then te env2 G3 (fun y G4 => G4 D = some (.lst acc) ∧ acc.length < sizeLine ∧ I (i + 1) (acc ++ [y]) (gset G4 D (.lst (acc ++ [y])))) noX else I (i + 1) acc G3) noX) noX) :=
  lc_pure false f hD hl hs (by simpa using he)
/-- the same over told things c z, a kept one giving h z -/
theorem lc_mapF {α : Type} {xs : List PV} {g : PTG} {tt : PTT} {te : PTE} {env : PEn} {G1 : GH} {P : PK1} {D : Addr} (c : α → PV) (keep : α → Bool) (h : α → PV) (zs : List α) (hx : xs = zs.map c) (hD : G1 D = none) (hl : zs.length < sizeLine)
    (hs : ∀ z ∈ zs, ∀ (G : GH) (Ky : PK1) (Kn : GH → Prop), Sub G1 G → (keep z = true → Ky (h z) G) → (keep z = false → Kn G) → lcTurn g tt te (c z) env G Ky Kn)
    (he : P (.lst ((zs.filter keep).map h)) (G1)) : ∃ (I : Nat → List PV → GH → Prop) (n : Nat), I 0 [] (gset G1 D (.lst [])) ∧ ∀ i acc G, i ≤ n → I i acc G →
      ((itL xs).done i G ∧ G D = some (.lst acc) ∧ (if false = true then P (.ref D) G else P (.lst acc) (gdel G D))) ∨
      (i < n ∧ ∃ x, (itL xs).item i G x ∧ g x env G (fun env2 G2 => tt env2 G2 (fun b G3 => if b = true then te env2 G3 (fun y G4 => G4 D = some (.lst acc) ∧ acc.length < sizeLine ∧ I (i + 1) (acc ++ [y]) (gset G4 D (.lst (acc ++ [y])))) noX else I (i + 1) acc G3) noX) noX) := by
  subst hx
  refine ⟨fun i acc G => acc = ((zs.take i).filter keep).map h ∧ G = gset G1 D (.lst acc), zs.length, ⟨rfl, rfl⟩, fun i acc G hi e => ?_⟩
  obtain ⟨rfl, rfl⟩ := e
  by_cases l : i < zs.length
  · refine .inr ⟨l, c zs[i], ?_, ?_⟩
    · show (zs.map c)[i]? = _
      rw [List.getElem?_map, List.getElem?_eq_getElem l]
      rfl
    have ht : zs.take (i + 1) = zs.take i ++ [zs[i]] := by rw [List.take_add_one, List.getElem?_eq_getElem l]; rfl
    refine hs _ (List.getElem_mem l) _ _ _ (Sub.new hD) (fun e => ⟨gset_same, ?_, ?_, gset_gset⟩) (fun e => ⟨?_, rfl⟩)
    · rw [List.length_map]
      exact Nat.lt_of_le_of_lt (Nat.le_trans (List.length_filter_le _ _) (by rw [List.length_take]; omega)) hl
    · rw [ht, List.filter_append, List.filter_cons, e]; simp
    · rw [ht, List.filter_append, List.filter_cons, e]; simp
  · have e : i = zs.length := by omega
    subst e
    rw [List.take_length]
    refine .inl ⟨by show (zs.map c).length ≤ _; rw [List.length_map]; exact Nat.le_refl _, gset_same, ?_⟩
    rw [gdel_gset hD]; simpa using he
theorem lc_stF {J : PIt} {g : PTG} {tt : PTT} {te : PTE} {env : PEn} {G1 : GH} {P : PK1} {D p : Addr} {o0 : GO} (n : Nat) (xf : Nat → PV) (S : Nat → GO → Prop) (R : Nat → PV → Prop) (hD : G1 D = none) (hG : G1 p = some o0) (h0 : S 0 o0) (hl : n < sizeLine)
    (hJ : ∀ i G, i < n → J.item i G (xf i)) (hJe : ∀ G, J.done n G)
    (hs : ∀ i (G : GH) (o : GO) (Ky : PK1) (Kn : GH → Prop), i < n → G p = some o → S i o → (∀ a u, a ≠ p → G1 a = some u → G a = some u) → (∀ y o', R i y → S (i + 1) o' → Ky y (gset G p o')) → lcTurn g tt te (xf i) env G Ky Kn)
    (he : ∀ (ys : List PV) (o' : GO), ys.length = n → (∀ i y, ys[i]? = some y → R i y) → S n o' → P (.lst (ys)) (gset G1 p o')) : ∃ (I : Nat → List PV → GH → Prop) (n : Nat), I 0 [] (gset G1 D (.lst [])) ∧ ∀ i acc G, i ≤ n → I i acc G →
      ((J).done i G ∧ G D = some (.lst acc) ∧ (if false = true then P (.ref D) G else P (.lst acc) (gdel G D))) ∨
      (i < n ∧ ∃ x, (J).item i G x ∧ g x env G (fun env2 G2 => tt env2 G2 (fun b G3 => if b = true then te env2 G3 (fun y G4 => G4 D = some (.lst acc) ∧ acc.length < sizeLine ∧ I (i + 1) (acc ++ [y]) (gset G4 D (.lst (acc ++ [y])))) noX else I (i + 1) acc G3) noX) noX) :=
  lc_st false n xf S R hD hG h0 hl hJ hJe hs (by simpa using he)
theorem lc_pureT {xs : List PV} {g : PTG} {tt : PTT} {te : PTE} {env : PEn} {G1 : GH} {P : PK1} {D : Addr} (f : PV → Option PV) (hD : G1 D = none) (hl : xs.length < sizeLine)
    (hs : ∀ x ∈ xs, ∀ (G : GH) (Ky : PK1) (Kn : GH → Prop), Sub G1 G → (∀ y, f x = some y → Ky y G) → (f x = none → Kn G) → lcTurn g tt te x env G Ky Kn)
    (he : P (.ref D) (gset (G1) D (.lst (xs.filterMap f)))) : ∃ (I : Nat → List PV → GH → Prop) (n : Nat), I 0 [] (gset G1 D (.lst [])) ∧ ∀ i acc G, i ≤ n → I i acc G →
      ((itL xs).done i G ∧ G D = some (.lst acc) ∧ (if true = true then P (.ref D) G else P (.lst acc) (gdel G D))) ∨
      (i < n ∧ ∃ x, (itL xs).item i G x ∧ g x env G (fun env2 G2 => tt env2 G2 (fun b G3 => if b = true then te env2 G3 (fun y G4 => G4 D = some (.lst acc) ∧ acc.length < sizeLine ∧ I (i + 1) (acc ++ [y]) (gset G4 D (.lst (acc ++ [y])))) noX else I (i + 1) acc G3) noX) noX) :=
  lc_pure true f hD hl hs (by simpa using he)
/-- the same over told things c z, a kept one giving h z -/
theorem lc_mapT {α : Type} {xs : List PV} {g : PTG} {tt : PTT} {te : PTE} {env : PEn} {G1 : GH} {P : PK1} {D : Addr} (c : α → PV) (keep : α → Bool) (h : α → PV) (zs : List α) (hx : xs = zs.map c) (hD : G1 D = none) (hl : zs.length < sizeLine)
    (hs : ∀ z ∈ zs, ∀ (G : GH) (Ky : PK1) (Kn : GH → Prop), Sub G1 G → (keep z = true → Ky (h z) G) → (keep z = false → Kn G) → lcTurn g tt te (c z) env G Ky Kn)
    (he : P (.ref D) (gset (G1) D (.lst ((zs.filter keep).map h)))) : ∃ (I : Nat → List PV → GH → Prop) (n : Nat), I 0 [] (gset G1 D (.lst [])) ∧ ∀ i acc G, i ≤ n → I i acc G →
      ((itL xs).done i G ∧ G D = some (.lst acc) ∧ (if true = true then P (.ref D) G else P (.lst acc) (gdel G D))) ∨
      (i < n ∧ ∃ x, (itL xs).item i G x ∧ g x env G (fun env2 G2 => tt env2 G2 (fun b G3 => if b = true then te env2 G3 (fun y G4 => G4 D = some (.lst acc) ∧ acc.length < sizeLine ∧ I (i + 1) (acc ++ [y]) (gset G4 D (.lst (acc ++ [y])))) noX else I (i + 1) acc G3) noX) noX) := by
  subst hx
  refine ⟨fun i acc G => acc = ((zs.take i).filter keep).map h ∧ G = gset G1 D (.lst acc), zs.length, ⟨rfl, rfl⟩, fun i acc G hi e => ?_⟩
  obtain ⟨rfl, rfl⟩ := e
  by_cases l : i < zs.length
  · refine .inr ⟨l, c zs[i], ?_, ?_⟩
    · show (zs.map c)[i]? = _
      rw [List.getElem?_map, List.getElem?_eq_getElem l]
      rfl
    have ht : zs.take (i + 1) = zs.take i ++ [zs[i]] := by rw [List.take_add_one, List.getElem?_eq_getElem l]; rfl
    refine hs _ (List.getElem_mem l) _ _ _ (Sub.new hD) (fun e => ⟨gset_same, ?_, ?_, gset_gset⟩) (fun e => ⟨?_, rfl⟩)
    · rw [List.length_map]
      exact Nat.lt_of_le_of_lt (Nat.le_trans (List.length_filter_le _ _) (by rw [List.length_take]; omega)) hl
    · rw [ht, List.filter_append, List.filter_cons, e]; simp
    · rw [ht, List.filter_append, List.filter_cons, e]; simp
  · have e : i = zs.length := by omega
    subst e
    rw [List.take_length]
    refine .inl ⟨by show (zs.map c).length ≤ _; rw [List.length_map]; exact Nat.le_refl _, gset_same, ?_⟩
    simpa using he
theorem lc_stT {J : PIt} {g : PTG} {tt : PTT} {te : PTE} {env : PEn} {G1 : GH} {P : PK1} {D p : Addr} {o0 : GO} (n : Nat) (xf : Nat → PV) (S : Nat → GO → Prop) (R : Nat → PV → Prop) (hD : G1 D = none) (hG : G1 p = some o0) (h0 : S 0 o0) (hl : n < sizeLine)
    (hJ : ∀ i G, i < n → J.item i G (xf i)) (hJe : ∀ G, J.done n G)
    (hs : ∀ i (G : GH) (o : GO) (Ky : PK1) (Kn : GH → Prop), i < n → G p = some o → S i o → (∀ a u, a ≠ p → G1 a = some u → G a = some u) → (∀ y o', R i y → S (i + 1) o' → Ky y (gset G p o')) → lcTurn g tt te (xf i) env G Ky Kn)
    (he : ∀ (ys : List PV) (o' : GO), ys.length = n → (∀ i y, ys[i]? = some y → R i y) → S n o' → P (.ref D) (gset (gset G1 p o') D (.lst (ys)))) : ∃ (I : Nat → List PV → GH → Prop) (n : Nat), I 0 [] (gset G1 D (.lst [])) ∧ ∀ i acc G, i ≤ n → I i acc G →
      ((J).done i G ∧ G D = some (.lst acc) ∧ (if true = true then P (.ref D) G else P (.lst acc) (gdel G D))) ∨
      (i < n ∧ ∃ x, (J).item i G x ∧ g x env G (fun env2 G2 => tt env2 G2 (fun b G3 => if b = true then te env2 G3 (fun y G4 => G4 D = some (.lst acc) ∧ acc.length < sizeLine ∧ I (i + 1) (acc ++ [y]) (gset G4 D (.lst (acc ++ [y])))) noX else I (i + 1) acc G3) noX) noX) :=
  lc_st true n xf S R hD hG h0 hl hJ hJe hs (by simpa using he)
theorem ints_of : ∀ {ys : List PV}, (∀ y ∈ ys, ∃ z : Int, y = .int z) → ∃ zs : List Int, ys = zs.map .int
  | [], _ => ⟨[], rfl⟩
  | y :: ys, h => by
    obtain ⟨z, rfl⟩ := h y List.mem_cons_self
    obtain ⟨zs, rfl⟩ := ints_of fun y hy => h y (List.mem_cons_of_mem _ hy)
    exact ⟨z :: zs, rfl⟩
theorem lc_allF {α : Type} {xs : List PV} {g : PTG} {tt : PTT} {te : PTE} {env : PEn} {G1 : GH} {P : PK1} {D : Addr} (c : α → PV) (h : α → PV) (zs : List α) (hx : xs = zs.map c) (hD : G1 D = none) (hl : zs.length < sizeLine)
    (hs : ∀ z ∈ zs, ∀ (G : GH) (Ky : PK1) (Kn : GH → Prop), Sub G1 G → Ky (h z) G → lcTurn g tt te (c z) env G Ky Kn)
    (he : P (.lst (zs.map h)) (G1)) : ∃ (I : Nat → List PV → GH → Prop) (n : Nat), I 0 [] (gset G1 D (.lst [])) ∧ ∀ i acc G, i ≤ n → I i acc G →
      ((itL xs).done i G ∧ G D = some (.lst acc) ∧ (if false = true then P (.ref D) G else P (.lst acc) (gdel G D))) ∨
      (i < n ∧ ∃ x, (itL xs).item i G x ∧ g x env G (fun env2 G2 => tt env2 G2 (fun b G3 => if b = true then te env2 G3 (fun y G4 => G4 D = some (.lst acc) ∧ acc.length < sizeLine ∧ I (i + 1) (acc ++ [y]) (gset G4 D (.lst (acc ++ [y])))) noX else I (i + 1) acc G3) noX) noX) :=
  lc_mapF c (fun _ => true) h zs hx hD hl (fun z hz G Ky Kn hg h1 _ => hs z hz G Ky Kn hg (h1 rfl)) (by rw [List.filter_eq_self.mpr fun _ _ => rfl]; exact he)
theorem lc_allT {α : Type} {xs : List PV} {g : PTG} {tt : PTT} {te : PTE} {env : PEn} {G1 : GH} {P : PK1} {D : Addr} (c : α → PV) (h : α → PV) (zs : List α) (hx : xs = zs.map c) (hD : G1 D = none) (hl : zs.length < sizeLine)
    (hs : ∀ z ∈ zs, ∀ (G : GH) (Ky : PK1) (Kn : GH → Prop), Sub G1 G → Ky (h z) G → lcTurn g tt te (c z) env G Ky Kn)
    (he : P (.ref D) (gset (G1) D (.lst (zs.map h)))) : ∃ (I : Nat → List PV → GH → Prop) (n : Nat), I 0 [] (gset G1 D (.lst [])) ∧ ∀ i acc G, i ≤ n → I i acc G →
      ((itL xs).done i G ∧ G D = some (.lst acc) ∧ (if true = true then P (.ref D) G else P (.lst acc) (gdel G D))) ∨
      (i < n ∧ ∃ x, (itL xs).item i G x ∧ g x env G (fun env2 G2 => tt env2 G2 (fun b G3 => if b = true then te env2 G3 (fun y G4 => G4 D = some (.lst acc) ∧ acc.length < sizeLine ∧ I (i + 1) (acc ++ [y]) (gset G4 D (.lst (acc ++ [y])))) noX else I (i + 1) acc G3) noX) noX) :=
  lc_mapT c (fun _ => true) h zs hx hD hl (fun z hz G Ky Kn hg h1 _ => hs z hz G Ky Kn hg (h1 rfl)) (by rw [List.filter_eq_self.mpr fun _ _ => rfl]; exact he)
end PL
end

section
namespace PL
open PySem PySem.Spec PyProof.Rows L2 RZ
/-! ### repr of plain data with small numbers -/
mutual
def PV.sm : PV → Bool
  | .non => true
  | .int i => decide (i.natAbs ≤ 999999999999)
  | .tup xs => smA xs
  | .lst xs => smA xs
  | _ => false
def smA : List PV → Bool
  | [] => true
  | x :: xs => x.sm && smA xs
end
mutual
def PV.wt : PV → Nat
  | .int _ => 40
  | .tup xs => wtA xs
  | .lst xs => wtA xs
  | _ => 0
def wtA : List PV → Nat
  | [] => 0
  | x :: xs => x.wt + 1 + wtA xs
end
theorem log2_small {n : Nat} (h : n ≤ 999999999999) : n.log2 < 40 := by
  by_cases z : n = 0
  · subst z; decide
  · exact (Nat.log2_lt z).mpr (by omega)
mutual
theorem sm_leaf : ∀ x : PV, x.sm = true → x.dat.leavesShort 13 = true ∧ x.dat.showable = true ∧ x.dat.weight ≤ x.wt
  | .non, _ => by simp only [PV.dat, PyData.leavesShort, PyData.showable, PyData.weight, PV.wt]; exact ⟨True.intro, True.intro, Nat.le_refl _⟩
  | .int i, h => by
    have h' : i.natAbs ≤ 999999999999 := by simpa only [PV.sm, decide_eq_true_eq] using h
    have l := log2_small h'
    simp only [PV.dat, PyData.leavesShort, PyData.showable, PyData.weight, PV.wt, decide_eq_true_eq]
    refine ⟨PyData.shown_int_le2 (by omega) (by omega), by omega, ?_⟩
    split <;> omega
  | .tup xs, h => by
    simp only [PV.dat, PyData.leavesShort, PyData.showable, PyData.weight, PV.wt]
    exact smA_leaf xs (by simpa only [PV.sm] using h)
  | .lst xs, h => by
    simp only [PV.dat, PyData.leavesShort, PyData.showable, PyData.weight, PV.wt]
    exact smA_leaf xs (by simpa only [PV.sm] using h)
  | .bl _, h => by simp only [PV.sm] at h; cases h
  | .str _, h => by simp only [PV.sm] at h; cases h
  | .ref _, h => by simp only [PV.sm] at h; cases h
  | .ty _, h => by simp only [PV.sm] at h; cases h
  | .scr _, h => by simp only [PV.sm] at h; cases h
theorem smA_leaf : ∀ xs : List PV, smA xs = true → PyData.leavesShortAll 13 (dats xs) = true ∧ PyData.showableAll (dats xs) = true ∧ PyData.weightAll (dats xs) ≤ wtA xs
  | [], _ => by simp only [dats, PyData.leavesShortAll, PyData.showableAll, PyData.weightAll, wtA]; exact ⟨True.intro, True.intro, Nat.le_refl _⟩
  | x :: xs, h => by
    have h' : x.sm = true ∧ smA xs = true := by simpa only [smA, Bool.and_eq_true] using h
    obtain ⟨a1, a2, a3⟩ := sm_leaf x h'.1
    obtain ⟨b1, b2, b3⟩ := smA_leaf xs h'.2
    simp only [dats, PyData.leavesShortAll, PyData.showableAll, PyData.weightAll, wtA, a1, a2, b1, b2, Bool.and_self]
    exact ⟨True.intro, True.intro, by omega⟩
end
mutual
theorem sm_pl : ∀ x : PV, x.sm = true → x.pl = true
  | .non, _ => by simp only [PV.pl]
  | .int _, _ => by simp only [PV.pl]
  | .tup xs, h => by simp only [PV.pl]; exact smA_pl xs (by simpa only [PV.sm] using h)
  | .lst xs, h => by simp only [PV.pl]; exact smA_pl xs (by simpa only [PV.sm] using h)
  | .bl _, h => by simp only [PV.sm] at h; cases h
  | .str _, h => by simp only [PV.sm] at h; cases h
  | .ref _, h => by simp only [PV.sm] at h; cases h
  | .ty _, h => by simp only [PV.sm] at h; cases h
  | .scr _, h => by simp only [PV.sm] at h; cases h
theorem smA_pl : ∀ xs : List PV, smA xs = true → plA xs = true
  | [], _ => by simp only [plA]
  | x :: xs, h => by
    have h' : x.sm = true ∧ smA xs = true := by simpa only [smA, Bool.and_eq_true] using h
    simp only [plA, sm_pl x h'.1, smA_pl xs h'.2, Bool.and_self]
end
theorem smA_mem : ∀ {xs : List PV}, (∀ x ∈ xs, x.sm = true) → smA xs = true
  | [], _ => by simp only [smA]
  | x :: xs, h => by simp only [smA, h x List.mem_cons_self, smA_mem fun y hy => h y (List.mem_cons_of_mem _ hy), Bool.and_self]
theorem wtA_mem {n : Nat} : ∀ {xs : List PV}, (∀ x ∈ xs, x.wt ≤ n) → wtA xs ≤ xs.length * (n + 1)
  | [], _ => by simp only [wtA, List.length_nil]; omega
  | x :: xs, h => by
    have h1 := h x List.mem_cons_self
    have h2 := wtA_mem fun y hy => h y (List.mem_cons_of_mem _ hy)
    simp only [wtA, List.length_cons, Nat.succ_mul]
    omega
theorem rRepr_pl {G : GH} {x : PV} {P : PK1} (h : x.sm = true) (hd : x.dep ≤ 64) (hw : x.wt ≤ 600000) (ht : tyP G x = some "tuple" ∨ tyP G x = some "list") (q : P (.str x.dat.shown) G) : rRepr [x] G P := by
  have hp := sm_pl x h
  obtain ⟨h1, h2, h3⟩ := sm_leaf x h
  show (match datOf G x with
      | some d => d.canLay0 = true ∧ d.depth ≤ 64 ∧ d.showable = true ∧ d.shown.length ≤ sizeLine ∧ (tyP G x = some "tuple" ∨ tyP G x = some "list") ∧ P (.str d.shown) G
      | none => False)
  rw [datOf_pl hp]
  refine ⟨pl_lay x hp, by rw [pl_dep x hp]; exact hd, h2, ?_, ht, q⟩
  have := PyData.shown_le 13 (by decide) x.dat h1
  refine small ?_
  omega
theorem cutP_take {xs : List PV} {k : Nat} : cutP xs none (some (k : Int)) = xs.take k := by
  unfold cutP
  have e : HT.sIx xs.length xs.length (some (k : Int)) = min k xs.length := HT.sIx_nat _ _ k
  rw [e, HT.sIx_none, List.drop_zero, Nat.sub_zero]
  by_cases h : k ≤ xs.length
  · rw [Nat.min_eq_left h]
  · rw [Nat.min_eq_right (by omega), List.take_of_length_le (Nat.le_refl _), List.take_of_length_le (by omega)]
theorem cutP_drop {xs : List PV} {k : Nat} : cutP xs (some (k : Int)) none = xs.drop k := by
  unfold cutP
  have e : HT.sIx xs.length 0 (some (k : Int)) = min k xs.length := HT.sIx_nat _ _ k
  rw [e, HT.sIx_none]
  by_cases h : k ≤ xs.length
  · rw [Nat.min_eq_left h, List.take_of_length_le (by rw [List.length_drop]; omega)]
  · rw [Nat.min_eq_right (by omega), List.drop_of_length_le (Nat.le_refl _), List.drop_of_length_le (by omega), List.take_nil]
theorem cutP_take_i {xs : List PV} {k : Int} (h : 0 ≤ k) : cutP xs none (some k) = xs.take k.toNat := by
  have := cutP_take (xs := xs) (k := k.toNat)
  rwa [show ((k.toNat : Nat) : Int) = k by omega] at this
theorem cutP_drop_i {xs : List PV} {k : Int} (h : 0 ≤ k) : cutP xs (some k) none = xs.drop k.toNat := by
  have := cutP_drop (xs := xs) (k := k.toNat)
  rwa [show ((k.toNat : Nat) : Int) = k by omega] at this
theorem rIdx_t {x : PV} {vs : List PV} {G : GH} {P : PK1} (h : rIdxT x vs G P) : rIdx "tuple" x vs G P := by unfold rIdx; rw [if_pos rfl]; exact h
theorem rIdx_l {x : PV} {vs : List PV} {G : GH} {P : PK1} (h : rIdxL x vs G P) : rIdx "list" x vs G P := by unfold rIdx; rw [if_neg (by decide)]; exact h
theorem rFrz_of {G : GH} {a : Addr} {xs : List PV} {P : PK1} (h : G a = some (.lst xs)) (q : P (.lst xs) (gdel G a)) : (match (PV.ref a) with
  | .ref a => match G a with
    | some (.lst xs) => P (.lst xs) (gdel G a)
    | _ => False
  | _ => False) := by
  show (match G a with
    | some (.lst xs) => P (.lst xs) (gdel G a)
    | _ => False)
  rw [h]
  exact q
theorem rSl_lst {xs : List PV} {lo hi : Option Int} {G : GH} {P : PK1} (h : P (.lst (cutP xs lo hi)) G) : PL.rSl (.lst xs) lo hi G P := h
theorem rSl_tup {xs : List PV} {lo hi : Option Int} {G : GH} {P : PK1} (h : P (.tup (cutP xs lo hi)) G) : PL.rSl (.tup xs) lo hi G P := h
theorem rSl_own {a : Addr} {xs : List PV} {lo hi : Option Int} {G : GH} {P : PK1} (e : G a = some (.lst xs)) (h : P (.lst (cutP xs lo hi)) G) : PL.rSl (.ref a) lo hi G P := by
  show (match ownL G a with
    | some xs => P (.lst (cutP xs lo hi)) G
    | none => False)
  rw [ownL_of e]
  exact h
/-- two owned objects, each set anew -/
theorem gset_4 {G : GH} {p b : Addr} {x y z u : GO} (h : b ≠ p) : gset (gset (gset (gset G p x) b y) p z) b u = gset (gset G p z) b u := by
  funext c
  unfold gset
  by_cases e : c = b
  · subst e; simp
  · by_cases e2 : c = p
    · subst e2; simp [e]
    · simp [e, e2]
theorem gset_3 {G : GH} {p b : Addr} {x y z : GO} (h : b ≠ p) : gset (gset (gset G p x) b y) p z = gset (gset G p z) b y := by
  funext c
  unfold gset
  by_cases e : c = b
  · subst e; simp [h]
  · by_cases e2 : c = p
    · subst e2; simp [e]
    · simp [e, e2]
theorem ite_f {b : Bool} {A B : Prop} (e : b = false) (h : B) : if b = true then A else B := by rw [e]; exact h
theorem ite_t {b : Bool} {A B : Prop} (e : b = true) (h : A) : if b = true then A else B := by rw [e]; exact h
theorem bools_true {α : Type} : ∀ zs : List α, bools (zs.map fun _ => PV.bl true) = some (zs.map fun _ => true)
  | [] => rfl
  | z :: zs => by show (bools (zs.map fun _ => PV.bl true)).map _ = _; rw [bools_true zs]; rfl
theorem rAll_true {α : Type} {zs : List α} {G : GH} {P : PK1} (q : P (.bl true) G) : rAllB [.lst (zs.map fun _ => .bl true)] G P := by
  show (match bools (zs.map fun _ => PV.bl true) with
    | some bs => P (.bl (bs.all id)) G
    | none => False)
  rw [bools_true]
  have e : (zs.map fun _ => true).all id = true := by rw [List.all_map]; exact List.all_eq_true.mpr fun _ _ => rfl
  show P (.bl ((zs.map fun _ => true).all id)) G
  rw [e]
  exact q
theorem zipA_of {x y : PV} {xs ys : List PV} {G : GH} {R : PIt → GH → Prop} (hx : lstS G x = some xs) (hy : lstS G y = some ys) (r : R (itZ x y) G) : zipA x y G R := by
  cases x <;> first | (cases hx; done) | exact ⟨by rw [hx]; rfl, by rw [hy]; rfl, r⟩
theorem seqOf_lstS {G : GH} {y : PV} {ys : List PV} (h : lstS G y = some ys) : seqOf G y = some ys := by
  cases y <;> first | exact h | cases h
theorem lstS_new {G : GH} {y : PV} {ys : List PV} {a : Addr} {o : GO} (h : lstS G y = some ys) (ha : G a = none) : lstS (gset G a o) y = some ys := by
  cases y with
  | ref b =>
    have e := ownL_eq (show ownL G b = some ys from h)
    have ne : b ≠ a := fun z => by rw [z, ha] at e; cases e
    exact ownL_of (by rw [gset_ne ne]; exact e)
  | _ => exact h
theorem rClear_of {G : GH} {a : Addr} {xs : List PV} {P : PK1} (h : G a = some (.lst xs)) (q : P .non (gset G a (.lst []))) : rClear (.ref a) [] G P := by
  show (match G a with
    | some (.lst xs) => P .non (gset G a (.lst []))
    | _ => False)
  rw [h]
  exact q
/-- a list in a tuple is frozen -/
theorem rFrzT_of {G : GH} {i : Nat} {xs ys : List PV} {a : Addr} {P : PK1} (hi : xs[i]? = some (.ref a)) (h : G a = some (.lst ys)) (q : P (.tup (xs.set i (.lst ys))) (gdel G a)) : (match (PV.tup xs) with
  | .tup xs => (match xs[i]? with
    | some (.ref a) => (match ownL G a with
      | some ys => P (.tup (xs.set i (.lst ys))) (gdel G a)
      | none => False)
    | _ => False)
  | _ => False) := by
  show (match xs[i]? with
    | some (.ref a) => (match ownL G a with
      | some ys => P (.tup (xs.set i (.lst ys))) (gdel G a)
      | none => False)
    | _ => False)
  rw [hi]
  show (match ownL G a with
      | some ys => P (.tup (xs.set i (.lst ys))) (gdel G a)
      | none => False)
  rw [ownL_of h]
  exact q
end PL
end

section
namespace K54
open PySem PySem.Spec PyProof.Rows L2 RZ PL
def topS (i : Nat) : Stmt := PySem.Challenge.pw_emptierbox_k54_balls_by_told_draws.main.body.getD i (.Pass ⟨0, 0, 0, 0⟩)
abbrev s_chosen : Stmt := topS 1
abbrev N_chosen : List Str := ["stand", "draw", "best", "box"]
theorem sc_chosen : FnScope N_chosen ["stand", "draw"] (defScope s_chosen) := ⟨rfl, rfl, rfl, by decide +kernel, rfl, by decide +kernel, by decide +kernel⟩
abbrev s_by_draws : Stmt := topS 2
abbrev N_by_draws : List Str := ["stand", "draws", "numbers", "boxes", "draw", "box"]
theorem sc_by_draws : FnScope N_by_draws ["stand", "draws"] (defScope s_by_draws) := ⟨rfl, rfl, rfl, by decide +kernel, rfl, by decide +kernel, by decide +kernel⟩
abbrev s_l_pen : Stmt := topS 4
abbrev N_l_pen : List Str := ["_law_script"]
theorem sc_l_pen : FnScope N_l_pen ["_law_script"] (defScope s_l_pen) := ⟨rfl, rfl, rfl, by decide +kernel, rfl, by decide +kernel, by decide +kernel⟩
abbrev s_l_draw : Stmt := topS 5
abbrev N_l_draw : List Str := ["_law_pen_here", "_law_many", "_law_at", "_law_cell", "_law_prime", "_law_number", "_law_found"]
theorem sc_l_draw : FnScope N_l_draw ["_law_pen_here", "_law_many"] (defScope s_l_draw) := ⟨rfl, rfl, rfl, by decide +kernel, rfl, by decide +kernel, by decide +kernel⟩
abbrev s_l_is_whole : Stmt := topS 6
abbrev N_l_is_whole : List Str := ["_law_thing"]
theorem sc_l_is_whole : FnScope N_l_is_whole ["_law_thing"] (defScope s_l_is_whole) := ⟨rfl, rfl, rfl, by decide +kernel, rfl, by decide +kernel, by decide +kernel⟩
abbrev s_l_stand : Stmt := topS 7
abbrev N_l_stand : List Str := ["_law_pen_here", "_law_n", "_law_most", "_law_way", "_law_some", "_law_box", "_law_number"]
theorem sc_l_stand : FnScope N_l_stand ["_law_pen_here", "_law_n", "_law_most"] (defScope s_l_stand) := ⟨rfl, rfl, rfl, by decide +kernel, rfl, by decide +kernel, by decide +kernel⟩
abbrev s_l_draws : Stmt := topS 8
abbrev N_l_draws : List Str := ["_law_pen_here", "_law_n", "_law_most", "_law_way", "_law_size", "_law_many", "_law_found", "_law_k", "_law_boxes", "_law_j"]
theorem sc_l_draws : FnScope N_l_draws ["_law_pen_here", "_law_n", "_law_most"] (defScope s_l_draws) := ⟨rfl, rfl, rfl, by decide +kernel, rfl, by decide +kernel, by decide +kernel⟩
abbrev s_l_step_right : Stmt := topS 9
abbrev N_l_step_right : List Str := ["_law_numbers", "_law_draw_here", "_law_box", "_law_counts", "_law_other"]
theorem sc_l_step_right : FnScope N_l_step_right ["_law_numbers", "_law_draw_here", "_law_box"] (defScope s_l_step_right) := ⟨rfl, rfl, rfl, by decide +kernel, rfl, by decide +kernel, by decide +kernel⟩
abbrev s_l_right : Stmt := topS 10
abbrev N_l_right : List Str := ["_law_stand_here", "_law_draws_here", "_law_found", "_law_numbers", "_law_draw_here", "_law_box", "_law_number"]
theorem sc_l_right : FnScope N_l_right ["_law_stand_here", "_law_draws_here", "_law_found"] (defScope s_l_right) := ⟨rfl, rfl, rfl, by decide +kernel, rfl, by decide +kernel, by decide +kernel⟩
abbrev s_law : Stmt := topS 11
abbrev N_law : List Str := ["_law_script", "_law_pen_here", "_law_k", "_law_n", "_law_stand_here", "_law_draws_here", "_law_kept", "_law_found", "_law_cut", "_law_here", "_law_boxes"]
theorem sc_law : FnScope N_law ["_law_script"] (defScope s_law) := ⟨rfl, rfl, rfl, by decide +kernel, rfl, by decide +kernel, by decide +kernel⟩
structure Txt (K : PySem.W.Frag) (mg : Str → Option Value) where
  a_chosen : Addr
  fd_chosen : FuncData
  F_chosen : Fun K "chosen" "chosen" s_chosen a_chosen fd_chosen
  m_chosen : mg "chosen" = some (.ref a_chosen)
  b_chosen : Binds K fd_chosen ["stand", "draw"] []
  a_by_draws : Addr
  fd_by_draws : FuncData
  F_by_draws : Fun K "by_draws" "by_draws" s_by_draws a_by_draws fd_by_draws
  m_by_draws : mg "by_draws" = some (.ref a_by_draws)
  b_by_draws : Binds K fd_by_draws ["stand", "draws"] []
  a_l_pen : Addr
  fd_l_pen : FuncData
  F_l_pen : Fun K "_law_pen" "_law_pen" s_l_pen a_l_pen fd_l_pen
  m_l_pen : mg "_law_pen" = some (.ref a_l_pen)
  b_l_pen : Binds K fd_l_pen ["_law_script"] []
  a_l_draw : Addr
  fd_l_draw : FuncData
  F_l_draw : Fun K "_law_draw" "_law_draw" s_l_draw a_l_draw fd_l_draw
  m_l_draw : mg "_law_draw" = some (.ref a_l_draw)
  b_l_draw : Binds K fd_l_draw ["_law_pen_here", "_law_many"] []
  a_l_is_whole : Addr
  fd_l_is_whole : FuncData
  F_l_is_whole : Fun K "_law_is_whole" "_law_is_whole" s_l_is_whole a_l_is_whole fd_l_is_whole
  m_l_is_whole : mg "_law_is_whole" = some (.ref a_l_is_whole)
  b_l_is_whole : Binds K fd_l_is_whole ["_law_thing"] []
  a_l_stand : Addr
  fd_l_stand : FuncData
  F_l_stand : Fun K "_law_stand" "_law_stand" s_l_stand a_l_stand fd_l_stand
  m_l_stand : mg "_law_stand" = some (.ref a_l_stand)
  b_l_stand : Binds K fd_l_stand ["_law_pen_here", "_law_n", "_law_most"] []
  a_l_draws : Addr
  fd_l_draws : FuncData
  F_l_draws : Fun K "_law_draws" "_law_draws" s_l_draws a_l_draws fd_l_draws
  m_l_draws : mg "_law_draws" = some (.ref a_l_draws)
  b_l_draws : Binds K fd_l_draws ["_law_pen_here", "_law_n", "_law_most"] []
  a_l_step_right : Addr
  fd_l_step_right : FuncData
  F_l_step_right : Fun K "_law_step_right" "_law_step_right" s_l_step_right a_l_step_right fd_l_step_right
  m_l_step_right : mg "_law_step_right" = some (.ref a_l_step_right)
  b_l_step_right : Binds K fd_l_step_right ["_law_numbers", "_law_draw_here", "_law_box"] []
  a_l_right : Addr
  fd_l_right : FuncData
  F_l_right : Fun K "_law_right" "_law_right" s_l_right a_l_right fd_l_right
  m_l_right : mg "_law_right" = some (.ref a_l_right)
  b_l_right : Binds K fd_l_right ["_law_stand_here", "_law_draws_here", "_law_found"] []
  a_law : Addr
  fd_law : FuncData
  F_law : Fun K "law" "law" s_law a_law fd_law
  m_law : mg "law" = some (.ref a_law)
  b_law : Binds K fd_law ["_law_script"] []
  z_abs : mg "abs" = none
  z_all : mg "all" = none
  z_bool : mg "bool" = none
  z_int : mg "int" = none
  z_isinstance : mg "isinstance" = none
  z_len : mg "len" = none
  z_list : mg "list" = none
  z_min : mg "min" = none
  z_range : mg "range" = none
  z_repr : mg "repr" = none
  z_tuple : mg "tuple" = none
  z_zip : mg "zip" = none

/-! ### mirrors -/
def tI (zs : List Int) : PV := .tup (zs.map .int)
def lI (zs : List Int) : PV := .lst (zs.map .int)
def atZ (zs : List Int) (i : Int) : Int := zs.getD i.toNat 0
def chooseGo (zs : List Int) (best : Int) : List Int → Int
  | [] => best
  | d :: r => chooseGo zs (if atZ zs d < atZ zs best then d else best) r
def choose (zs ds : List Int) : Int := chooseGo zs (ds.headD 0) ds
def incAt (zs : List Int) (i : Int) : List Int := zs.set i.toNat (atZ zs i + 1)
def byDraws (zs : List Int) : List (List Int) → List Int × List Int
  | [] => (zs, [])
  | ds :: r => let b := choose zs ds; let q := byDraws (incAt zs b) r; (q.1, b :: q.2)
def InB (n : Nat) (ds : List Int) : Prop := ds ≠ [] ∧ ∀ d ∈ ds, 0 ≤ d ∧ d < (n : Int)
def AllB (n : Nat) (dss : List (List Int)) : Prop := ∀ ds ∈ dss, InB n ds
/-! ### promises -/
def IsPen (n : Int) (o : GO) : Prop := ∃ (cs : List Int) (t l : Int), o = .dk [(.inr "cells", lI cs), (.inr "at", .int t), (.inr "left", .int l)] ∧ cs.length ≤ 63 ∧ 0 ≤ t ∧ t ≤ n ∧ 0 ≤ l
def sp_chosen : PSp := fun xs G Q _ => ∃ (s : PV) (zs ds : List Int), xs = [s, tI ds] ∧ seqOf G s = some (zs.map .int) ∧ InB zs.length ds ∧ Q (.int (choose zs ds)) G
def sp_by_draws : PSp := fun xs G Q _ => ∃ (zs : List Int) (dss : List (List Int)), xs = [tI zs, .lst (dss.map tI)] ∧ AllB zs.length dss ∧ dss.length ≤ 1000 ∧ ∀ b, G b = none → Q (.tup [tI (byDraws zs dss).1, .ref b]) (gset G b (.lst ((byDraws zs dss).2.map .int)))
def sp_l_pen : PSp := fun xs G Q _ => ∃ ns : List Int, xs = [.scr ns] ∧ ∀ p o, G p = none → IsPen 0 o → Q (.ref p) (gset G p o)
def sp_l_draw : PSp := fun xs G Q _ => ∃ (p : Addr) (m n : Int) (o : GO), xs = [.ref p, .int m] ∧ 0 < m ∧ m < 1000000000 ∧ G p = some o ∧ IsPen n o ∧ n ≤ 1000000 ∧ ∀ r o', 0 ≤ r → r < m → IsPen (n + 1) o' → Q (.int r) (gset G p o')
def sp_l_is_whole : PSp := fun xs G Q _ => ∃ (x : PV) (t : String), xs = [x] ∧ tyP G x = some t ∧ Q (.bl (t == "int")) G
def sp_l_stand : PSp := fun xs G Q _ => ∃ (p : Addr) (m n k : Int) (o : GO), xs = [.ref p, .int n, .int m] ∧ 1 ≤ n ∧ n ≤ 6 ∧ 0 ≤ m ∧ m ≤ 6 ∧ G p = some o ∧ IsPen k o ∧ k ≤ 900000 ∧ ∀ (zs : List Int) o', (zs.length : Int) = n → (∀ z ∈ zs, 0 ≤ z ∧ z ≤ 6) → IsPen (k + 7) o' → Q (tI zs) (gset G p o')
def sp_l_draws : PSp := fun xs G Q _ => ∃ (p : Addr) (n k : Int) (o : GO), xs = [.ref p, .int n, .int 60] ∧ 1 ≤ n ∧ n ≤ 6 ∧ G p = some o ∧ IsPen k o ∧ k ≤ 900000 ∧ ∀ (dss : List (List Int)) o', dss.length ≤ 60 → AllB n.toNat dss → (∀ ds ∈ dss, ds.length ≤ 3) → IsPen (k + 300) o' → Q (.lst (dss.map tI)) (gset G p o')
def sp_l_step_right : PSp := fun xs G Q _ => ∃ (s : PV) (zs ds : List Int), xs = [s, tI ds, .int (choose zs ds)] ∧ seqOf G s = some (zs.map .int) ∧ InB zs.length ds ∧ ds.length ≤ 1000 ∧ Q (.bl true) G
def sp_l_right : PSp := fun xs G Q _ => ∃ (zs : List Int) (dss : List (List Int)) (y : PV), xs = [tI zs, .lst (dss.map tI), .tup [tI (byDraws zs dss).1, y]] ∧ lstS G y = some ((byDraws zs dss).2.map .int) ∧ (tyP G y = some "list") ∧ AllB zs.length dss ∧ (∀ ds ∈ dss, ds.length ≤ 3) ∧ dss.length ≤ 1000 ∧ zs.length ≤ 1000 ∧ Q (.bl true) G
def sp_law : PSp := lawSp 63
def t_chosen : PTS :=
    (pSeq (pSet 2 (pOp rIx (pVar 1) (pC (.int 0))))
    (pSeq (pFor (pISeq (pVar 1)) (pgName 3)
    (pIf (pTb (pOp rLt (pOp rIx (pVar 0) (pVar 3)) (pOp rIx (pVar 0) (pVar 2))))
    (pSet 2 (pVar 3))
    pNext))
    (pRet (pVar 2))))
theorem d_chosen {P : Program} {w : World} {K : PySem.W.Frag} {mg : Str → Option Value} {base : Heap} (T : Txt K mg) {cdv : Value} {A : Around} {outer : List Env} {s : Shared} {H : Hp} {E : XK} (hgd : A.guards = some []) (hr : Room 0 (A.deeper (envOfC "chosen" (defScope s_chosen) s.heap.objs.size T.a_chosen cdv))) :
    QB (cxOf (L2.CX P w) P w K mg base N_chosen "chosen" (defScope s_chosen) T.a_chosen cdv A outer s H E) (defBody s_chosen) t_chosen :=
  have hp : PassesOwn (model P w) (cxOf (L2.CX P w) P w K mg base N_chosen "chosen" (defScope s_chosen) T.a_chosen cdv A outer s H E).A (cxOf (L2.CX P w) P w K mg base N_chosen "chosen" (defScope s_chosen) T.a_chosen cdv A outer s H E).env (cxOf (L2.CX P w) P w K mg base N_chosen "chosen" (defScope s_chosen) T.a_chosen cdv A outer s H E).xe := passes_of rfl
  (qb_cons (qs_set (i := 2) sc_chosen.nd rfl (Or.inl rfl) (qe_ix (q_ix (hu_of hr)) (qe_var 1) qe_int))
    (qb_cons (qs_for hp rfl (qi_seq (qe_var 1)) (qg_name (i := 3) (ws := [3]) sc_chosen.nd rfl (by first | exact Or.inl rfl | exact Or.inr rfl))
    (qb_one (qs_if (qt_cmp q_lt (qe_ix (q_ix (hu_of hr)) (qe_var 0) (qe_var 3)) (qe_ix (q_ix (hu_of hr)) (qe_var 0) (qe_var 2)))
    (qb_one (qs_set (i := 2) sc_chosen.nd rfl (Or.inl rfl) (qe_var 3)))
    qb_nil)))
    (qb_one (qs_ret (qe_var 2)))))
abbrev Ok_chosen (P : Program) (w : World) (K : PySem.W.Frag) (mg : Str → Option Value) (base : Heap) (T : Txt K mg) : Prop := FnP P w K mg base 1 T.a_chosen T.fd_chosen ["stand", "draw"] sp_chosen

def t_l_pen : PTS :=
    (pRet (pDict (((pC (.str "cells")), (pSl (pVar 0) pNoPart (pPart (pC (.int 63))))) :: (((pC (.str "at")), (pC (.int 0))) :: (((pC (.str "left")), (pC (.int 0))) :: [])))))
theorem d_l_pen {P : Program} {w : World} {K : PySem.W.Frag} {mg : Str → Option Value} {base : Heap} (T : Txt K mg) {cdv : Value} {A : Around} {outer : List Env} {s : Shared} {H : Hp} {E : XK} (hgd : A.guards = some []) (hr : Room 0 (A.deeper (envOfC "_law_pen" (defScope s_l_pen) s.heap.objs.size T.a_l_pen cdv))) :
    QB (cxOf (L2.CX P w) P w K mg base N_l_pen "_law_pen" (defScope s_l_pen) T.a_l_pen cdv A outer s H E) (defBody s_l_pen) t_l_pen :=
  have hp : PassesOwn (model P w) (cxOf (L2.CX P w) P w K mg base N_l_pen "_law_pen" (defScope s_l_pen) T.a_l_pen cdv A outer s H E).A (cxOf (L2.CX P w) P w K mg base N_l_pen "_law_pen" (defScope s_l_pen) T.a_l_pen cdv A outer s H E).env (cxOf (L2.CX P w) P w K mg base N_l_pen "_law_pen" (defScope s_l_pen) T.a_l_pen cdv A outer s H E).xe := passes_of rfl
  (qb_one (qs_ret (qe_dict (QPs.cons qe_str (qe_sl (qe_var 0) qo_none (qo_some qe_int)) (QPs.cons qe_str qe_int (QPs.cons qe_str qe_int QPs.nil))))))
abbrev Ok_l_pen (P : Program) (w : World) (K : PySem.W.Frag) (mg : Str → Option Value) (base : Heap) (T : Txt K mg) : Prop := FnP P w K mg base 1 T.a_l_pen T.fd_l_pen ["_law_script"] sp_l_pen

def t_l_draw : PTS :=
    (pSeq (pIf (pTb (pOp rGt (pOp rIx (pVar 0) (pC (.str "left"))) (pC (.int 0))))
    (pSeq (pSet 6 (pOp rMod (pOp rIx (pVar 0) (pC (.str "left"))) (pVar 1)))
    (pSeq (pAsg (pOp rFdiv (pOp rIx (pVar 0) (pC (.str "left"))) (pVar 1)) (pgSub rSet (pVar 0) (pC (.str "left"))))
    (pRet (pVar 6))))
    pNext)
    (pSeq (pSet 2 (pOp rIx (pVar 0) (pC (.str "at"))))
    (pSeq (pAsg (pOp rAdd (pVar 2) (pC (.int 1))) (pgSub rSet (pVar 0) (pC (.str "at"))))
    (pSeq (pSet 3 (pOp rAdd (pOp rMul (pC (.int 23)) (pVar 2)) (pC (.int 5))))
    (pSeq (pIf (pTb (pOp rGt (pCB rLen (pCons (pOp rIx (pVar 0) (pC (.str "cells"))) pNil)) (pC (.int 0))))
    (pSet 3 (pOp rIx (pOp rIx (pVar 0) (pC (.str "cells"))) (pOp rMod (pVar 2) (pCB rLen (pCons (pOp rIx (pVar 0) (pC (.str "cells"))) pNil)))))
    pNext)
    (pSeq (pIf (pAnd (pTb (pOp rLt (pVar 2) (pCB rLen (pCons (pOp rIx (pVar 0) (pC (.str "cells"))) pNil)))) (pTb (pOp rGe (pCB rAbs (pCons (pVar 3) pNil)) (pOp rPow (pC (.int 10)) (pC (.int 18))))))
    (pSeq (pAsg (pOp rFdiv (pCB rAbs (pCons (pVar 3) pNil)) (pVar 1)) (pgSub rSet (pVar 0) (pC (.str "left"))))
    (pRet (pOp rMod (pCB rAbs (pCons (pVar 3) pNil)) (pVar 1))))
    pNext)
    (pSeq (pSet 4 (pOp rIx (pTup (pCons (pC (.int 2147483647)) (pCons (pC (.int 2147483629)) (pCons (pC (.int 2147483587)) (pCons (pC (.int 2147483579)) (pCons (pC (.int 2147483563)) (pCons (pC (.int 2147483549)) (pCons (pC (.int 2147483543)) pNil)))))))) (pOp rMod (pVar 2) (pC (.int 7)))))
    (pSeq (pSet 5 (pOp rMod (pOp rPow (pOp rAdd (pOp rAdd (pOp rAdd (pOp rMod (pVar 3) (pC (.int 2147483497))) (pOp rMul (pOp rMul (pC (.int 75329)) (pVar 2)) (pVar 2))) (pOp rMul (pC (.int 30011)) (pVar 2))) (pC (.int 271))) (pC (.int 3))) (pVar 4)))
    (pSeq (pSet 5 (pOp rMod (pOp rPow (pOp rAdd (pOp rAdd (pVar 5) (pOp rMul (pC (.int 11)) (pVar 2))) (pC (.int 5))) (pC (.int 2))) (pC (.int 2147483489))))
    (pRet (pOp rMod (pOp rFdiv (pOp rMod (pOp rMul (pVar 5) (pC (.int 69621))) (pC (.int 2147483477))) (pC (.int 1013))) (pVar 1))))))))))))
theorem d_l_draw {P : Program} {w : World} {K : PySem.W.Frag} {mg : Str → Option Value} {base : Heap} (T : Txt K mg) {cdv : Value} {A : Around} {outer : List Env} {s : Shared} {H : Hp} {E : XK} (hgd : A.guards = some []) (hr : Room 0 (A.deeper (envOfC "_law_draw" (defScope s_l_draw) s.heap.objs.size T.a_l_draw cdv))) :
    QB (cxOf (L2.CX P w) P w K mg base N_l_draw "_law_draw" (defScope s_l_draw) T.a_l_draw cdv A outer s H E) (defBody s_l_draw) t_l_draw :=
  have hp : PassesOwn (model P w) (cxOf (L2.CX P w) P w K mg base N_l_draw "_law_draw" (defScope s_l_draw) T.a_l_draw cdv A outer s H E).A (cxOf (L2.CX P w) P w K mg base N_l_draw "_law_draw" (defScope s_l_draw) T.a_l_draw cdv A outer s H E).env (cxOf (L2.CX P w) P w K mg base N_l_draw "_law_draw" (defScope s_l_draw) T.a_l_draw cdv A outer s H E).xe := passes_of rfl
  (qb_cons (qs_if (qt_cmp q_gt (qe_ix (q_ix (hu_of hr)) (qe_var 0) qe_str) qe_int)
    (qb_cons (qs_set (i := 6) sc_l_draw.nd rfl (Or.inl rfl) (qe_op q_mod (qe_ix (q_ix (hu_of hr)) (qe_var 0) qe_str) (qe_var 1)))
    (qb_cons (qs_asg (qe_op q_fdiv (qe_ix (q_ix (hu_of hr)) (qe_var 0) qe_str) (qe_var 1)) (qg_sub (ws := []) (qe_var 0) qe_str (q_set (hu_of hr))))
    (qb_one (qs_ret (qe_var 6)))))
    qb_nil)
    (qb_cons (qs_set (i := 2) sc_l_draw.nd rfl (Or.inl rfl) (qe_ix (q_ix (hu_of hr)) (qe_var 0) qe_str))
    (qb_cons (qs_asg (qe_op q_add (qe_var 2) qe_int) (qg_sub (ws := []) (qe_var 0) qe_str (q_set (hu_of hr))))
    (qb_cons (qs_set (i := 3) sc_l_draw.nd rfl (Or.inl rfl) (qe_op q_add (qe_op q_mul qe_int (qe_var 2)) qe_int))
    (qb_cons (qs_if (qt_cmp q_gt (qe_callB q_len rfl T.z_len boot_len (qa_cons (qe_ix (q_ix (hu_of hr)) (qe_var 0) qe_str) qa_nil)) qe_int)
    (qb_one (qs_set (i := 3) sc_l_draw.nd rfl (Or.inl rfl) (qe_ix (q_ix (hu_of hr)) (qe_ix (q_ix (hu_of hr)) (qe_var 0) qe_str) (qe_op q_mod (qe_var 2) (qe_callB q_len rfl T.z_len boot_len (qa_cons (qe_ix (q_ix (hu_of hr)) (qe_var 0) qe_str) qa_nil))))))
    qb_nil)
    (qb_cons (qs_if (qt_w (qw_and (qt_cmp q_lt (qe_var 2) (qe_callB q_len rfl T.z_len boot_len (qa_cons (qe_ix (q_ix (hu_of hr)) (qe_var 0) qe_str) qa_nil))) (qw_and1 (qt_cmp q_ge (qe_callB q_abs rfl T.z_abs (by decide +kernel) (qa_cons (qe_var 3) qa_nil)) (qe_op q_pow qe_int qe_int)))))
    (qb_cons (qs_asg (qe_op q_fdiv (qe_callB q_abs rfl T.z_abs (by decide +kernel) (qa_cons (qe_var 3) qa_nil)) (qe_var 1)) (qg_sub (ws := []) (qe_var 0) qe_str (q_set (hu_of hr))))
    (qb_one (qs_ret (qe_op q_mod (qe_callB q_abs rfl T.z_abs (by decide +kernel) (qa_cons (qe_var 3) qa_nil)) (qe_var 1)))))
    qb_nil)
    (qb_cons (qs_set (i := 4) sc_l_draw.nd rfl (Or.inl rfl) (qe_ix (q_ix (hu_of hr)) (qe_tup (qa_cons qe_int (qa_cons qe_int (qa_cons qe_int (qa_cons qe_int (qa_cons qe_int (qa_cons qe_int (qa_cons qe_int qa_nil)))))))) (qe_op q_mod (qe_var 2) qe_int)))
    (qb_cons (qs_set (i := 5) sc_l_draw.nd rfl (Or.inl rfl) (qe_op q_mod (qe_op q_pow (qe_op q_add (qe_op q_add (qe_op q_add (qe_op q_mod (qe_var 3) qe_int) (qe_op q_mul (qe_op q_mul qe_int (qe_var 2)) (qe_var 2))) (qe_op q_mul qe_int (qe_var 2))) qe_int) qe_int) (qe_var 4)))
    (qb_cons (qs_set (i := 5) sc_l_draw.nd rfl (Or.inl rfl) (qe_op q_mod (qe_op q_pow (qe_op q_add (qe_op q_add (qe_var 5) (qe_op q_mul qe_int (qe_var 2))) qe_int) qe_int) qe_int))
    (qb_one (qs_ret (qe_op q_mod (qe_op q_fdiv (qe_op q_mod (qe_op q_mul (qe_var 5) qe_int) qe_int) qe_int) (qe_var 1)))))))))))))
abbrev Ok_l_draw (P : Program) (w : World) (K : PySem.W.Frag) (mg : Str → Option Value) (base : Heap) (T : Txt K mg) : Prop := FnP P w K mg base 1 T.a_l_draw T.fd_l_draw ["_law_pen_here", "_law_many"] sp_l_draw

def t_l_is_whole : PTS :=
    (pRet (pAndV (pCB rIsi (pCons (pVar 0) (pCons (pC (.ty "int")) pNil))) (pNotV (pCB rIsi (pCons (pVar 0) (pCons (pC (.ty "bool")) pNil))))))
theorem d_l_is_whole {P : Program} {w : World} {K : PySem.W.Frag} {mg : Str → Option Value} {base : Heap} (T : Txt K mg) {cdv : Value} {A : Around} {outer : List Env} {s : Shared} {H : Hp} {E : XK} (hgd : A.guards = some []) (hr : Room 0 (A.deeper (envOfC "_law_is_whole" (defScope s_l_is_whole) s.heap.objs.size T.a_l_is_whole cdv))) :
    QB (cxOf (L2.CX P w) P w K mg base N_l_is_whole "_law_is_whole" (defScope s_l_is_whole) T.a_l_is_whole cdv A outer s H E) (defBody s_l_is_whole) t_l_is_whole :=
  have hp : PassesOwn (model P w) (cxOf (L2.CX P w) P w K mg base N_l_is_whole "_law_is_whole" (defScope s_l_is_whole) T.a_l_is_whole cdv A outer s H E).A (cxOf (L2.CX P w) P w K mg base N_l_is_whole "_law_is_whole" (defScope s_l_is_whole) T.a_l_is_whole cdv A outer s H E).env (cxOf (L2.CX P w) P w K mg base N_l_is_whole "_law_is_whole" (defScope s_l_is_whole) T.a_l_is_whole cdv A outer s H E).xe := passes_of rfl
  (qb_one (qs_ret (qe_and (qe_callB q_isi rfl T.z_isinstance boot_isinstance (qa_cons (qe_var 0) (qa_cons (qe_bty rfl T.z_int boot_int) qa_nil))) (qe_one (qe_not (qe_callB q_isi rfl T.z_isinstance boot_isinstance (qa_cons (qe_var 0) (qa_cons (qe_bty rfl T.z_bool boot_bool) qa_nil))))))))
abbrev Ok_l_is_whole (P : Program) (w : World) (K : PySem.W.Frag) (mg : Str → Option Value) (base : Heap) (T : Txt K mg) : Prop := FnP P w K mg base 1 T.a_l_is_whole T.fd_l_is_whole ["_law_thing"] sp_l_is_whole

def t_by_draws : PTS :=
    (pSeq (pSet 2 (pCB (rList true) (pCons (pVar 0) pNil)))
    (pSeq (pSet 3 (pOwn pNil))
    (pSeq (pFor (pISeq (pVar 1)) (pgName 4)
    (pSeq (pSet 5 (pCall sp_chosen (pCons (pVar 2) (pCons (pVar 4) pNil))))
    (pSeq (pAsg (pOp rAdd (pOp rIx (pVar 2) (pVar 5)) (pC (.int 1))) (pgSub rSet (pVar 2) (pVar 5)))
    (pDrop (pBM (fun _ => rAppend) ["list"] (pVar 3) (pCons (pVar 5) pNil))))))
    (pRet (pTup (pCons (pCB rTuple (pCons (pVar 2) pNil)) (pCons (pVar 3) pNil)))))))
theorem d_by_draws {P : Program} {w : World} {K : PySem.W.Frag} {mg : Str → Option Value} {base : Heap} (T : Txt K mg) (C_chosen : FnP P w K mg base 1 T.a_chosen T.fd_chosen ["stand", "draw"] sp_chosen) {cdv : Value} {A : Around} {outer : List Env} {s : Shared} {H : Hp} {E : XK} (hgd : A.guards = some []) (hr : Room 1 (A.deeper (envOfC "by_draws" (defScope s_by_draws) s.heap.objs.size T.a_by_draws cdv))) :
    QB (cxOf (L2.CX P w) P w K mg base N_by_draws "by_draws" (defScope s_by_draws) T.a_by_draws cdv A outer s H E) (defBody s_by_draws) t_by_draws :=
  have hp : PassesOwn (model P w) (cxOf (L2.CX P w) P w K mg base N_by_draws "by_draws" (defScope s_by_draws) T.a_by_draws cdv A outer s H E).A (cxOf (L2.CX P w) P w K mg base N_by_draws "by_draws" (defScope s_by_draws) T.a_by_draws cdv A outer s H E).env (cxOf (L2.CX P w) P w K mg base N_by_draws "by_draws" (defScope s_by_draws) T.a_by_draws cdv A outer s H E).xe := passes_of rfl
  (qb_cons (qs_set (i := 2) sc_by_draws.nd rfl (Or.inl rfl) (qe_callT (q_list true) rfl T.z_list boot_list (qa_cons (qe_var 0) qa_nil)))
    (qb_cons (qs_set (i := 3) sc_by_draws.nd rfl (Or.inl rfl) (qe_own qa_nil))
    (qb_cons (qs_for hp rfl (qi_seq (qe_var 1)) (qg_name (i := 4) (ws := [4]) sc_by_draws.nd rfl (by first | exact Or.inl rfl | exact Or.inr rfl))
    (qb_cons (qs_set (i := 5) sc_by_draws.nd rfl (Or.inl rfl) (qe_call C_chosen hgd (hr.mono (by decide)) rfl T.m_chosen T.F_chosen.kp T.b_chosen (qa_cons (qe_var 2) (qa_cons (qe_var 4) qa_nil))))
    (qb_cons (qs_asg (qe_op q_add (qe_ix (q_ix (hu_of hr)) (qe_var 2) (qe_var 5)) qe_int) (qg_sub (ws := []) (qe_var 2) (qe_var 5) (q_set (hu_of hr))))
    (qb_one (qs_expr (qe_bm (m_one m_append) (qe_var 3) (qa_cons (qe_var 5) qa_nil)))))))
    (qb_one (qs_ret (qe_tup (qa_cons (qe_callT q_tuple rfl T.z_tuple boot_tuple (qa_cons (qe_var 2) qa_nil)) (qa_cons (qe_var 3) qa_nil))))))))
abbrev Ok_by_draws (P : Program) (w : World) (K : PySem.W.Frag) (mg : Str → Option Value) (base : Heap) (T : Txt K mg) : Prop := FnP P w K mg base 2 T.a_by_draws T.fd_by_draws ["stand", "draws"] sp_by_draws

def t_l_stand : PTS :=
    (pSeq (pSet 3 (pCall sp_l_draw (pCons (pVar 0) (pCons (pC (.int 4)) pNil))))
    (pSeq (pSet 4 (pLc false (pRng1 (pCons (pVar 1) pNil)) (pgName 5) pYes (pCall sp_l_draw (pCons (pVar 0) (pCons (pOp rAdd (pVar 2) (pC (.int 1))) pNil))) [5]))
    (pSeq (pIf (pTb (pOp rEq (pVar 3) (pC (.int 0))))
    (pRet (pOp rMul (pTup (pCons (pC (.int 0)) pNil)) (pVar 1)))
    pNext)
    (pSeq (pIf (pTb (pOp rEq (pVar 3) (pC (.int 1))))
    (pRet (pOp rMul (pTup (pCons (pOp rIx (pVar 4) (pC (.int 0))) pNil)) (pVar 1)))
    pNext)
    (pSeq (pIf (pTb (pOp rEq (pVar 3) (pC (.int 2))))
    (pRet (pCB rTuple (pCons (pLc false (pISeq (pVar 4)) (pgName 6) pYes (pOp rMod (pVar 6) (pC (.int 3))) [6]) pNil)))
    pNext)
    (pRet (pCB rTuple (pCons (pVar 4) pNil))))))))
theorem d_l_stand {P : Program} {w : World} {K : PySem.W.Frag} {mg : Str → Option Value} {base : Heap} (T : Txt K mg) (C_l_draw : FnP P w K mg base 1 T.a_l_draw T.fd_l_draw ["_law_pen_here", "_law_many"] sp_l_draw) {cdv : Value} {A : Around} {outer : List Env} {s : Shared} {H : Hp} {E : XK} (hgd : A.guards = some []) (hr : Room 1 (A.deeper (envOfC "_law_stand" (defScope s_l_stand) s.heap.objs.size T.a_l_stand cdv))) :
    QB (cxOf (L2.CX P w) P w K mg base N_l_stand "_law_stand" (defScope s_l_stand) T.a_l_stand cdv A outer s H E) (defBody s_l_stand) t_l_stand :=
  have hp : PassesOwn (model P w) (cxOf (L2.CX P w) P w K mg base N_l_stand "_law_stand" (defScope s_l_stand) T.a_l_stand cdv A outer s H E).A (cxOf (L2.CX P w) P w K mg base N_l_stand "_law_stand" (defScope s_l_stand) T.a_l_stand cdv A outer s H E).env (cxOf (L2.CX P w) P w K mg base N_l_stand "_law_stand" (defScope s_l_stand) T.a_l_stand cdv A outer s H E).xe := passes_of rfl
  (qb_cons (qs_set (i := 3) sc_l_stand.nd rfl (Or.inl rfl) (qe_call C_l_draw hgd (hr.mono (by decide)) rfl T.m_l_draw T.F_l_draw.kp T.b_l_draw (qa_cons (qe_var 0) (qa_cons qe_int qa_nil))))
    (qb_cons (qs_setLc (i := 4) rfl sc_l_stand.nd rfl rfl (sw_true rfl rfl rfl (by kernel_rfl)) (own := [("_law_box", 5)]) (o := false) (qi_rng1 rfl T.z_range (qa_cons (qe_var 1) qa_nil)) (blkOk_by (N := N_l_stand) (by kernel_rfl)) (fun _ _ _ _ _ => (qg_name (i := 5) (ws := [5]) sc_l_stand.nd rfl (by first | exact Or.inl rfl | exact Or.inr rfl))) (fun _ _ _ _ _ => qts_nil) (fun _ _ _ _ _ => (qe_call C_l_draw hgd (hr.mono (by decide)) rfl T.m_l_draw T.F_l_draw.kp T.b_l_draw (qa_cons (qe_var 0) (qa_cons (qe_op q_add (qe_var 2) qe_int) qa_nil)))))
    (qb_cons (qs_if (qt_cmp (q_eq (room_64 hr)) (qe_var 3) qe_int)
    (qb_one (qs_ret (qe_op q_mul (qe_tup (qa_cons qe_int qa_nil)) (qe_var 1))))
    qb_nil)
    (qb_cons (qs_if (qt_cmp (q_eq (room_64 hr)) (qe_var 3) qe_int)
    (qb_one (qs_ret (qe_op q_mul (qe_tup (qa_cons (qe_ix (q_ix (hu_of hr)) (qe_var 4) qe_int) qa_nil)) (qe_var 1))))
    qb_nil)
    (qb_cons (qs_if (qt_cmp (q_eq (room_64 hr)) (qe_var 3) qe_int)
    (qb_one (qs_ret (qe_callT q_tuple rfl T.z_tuple boot_tuple (qa_cons (qe_lc rfl sc_l_stand.nd (own := [("_law_number", 6)]) (o := false) (qi_seq (qe_var 4)) (blkOk_by (N := N_l_stand) (by kernel_rfl)) (fun _ _ _ _ _ => (qg_name (i := 6) (ws := [6]) sc_l_stand.nd rfl (by first | exact Or.inl rfl | exact Or.inr rfl))) (fun _ _ _ _ _ => qts_nil) (fun _ _ _ _ _ => (qe_op q_mod (qe_var 6) qe_int))) qa_nil))))
    qb_nil)
    (qb_one (qs_ret (qe_callT q_tuple rfl T.z_tuple boot_tuple (qa_cons (qe_var 4) qa_nil)))))))))
abbrev Ok_l_stand (P : Program) (w : World) (K : PySem.W.Frag) (mg : Str → Option Value) (base : Heap) (T : Txt K mg) : Prop := FnP P w K mg base 2 T.a_l_stand T.fd_l_stand ["_law_pen_here", "_law_n", "_law_most"] sp_l_stand

def t_l_draws : PTS :=
    (pSeq (pSet 3 (pCall sp_l_draw (pCons (pVar 0) (pCons (pC (.int 5)) pNil))))
    (pSeq (pSet 4 (pCall sp_l_draw (pCons (pVar 0) (pCons (pC (.int 4)) pNil))))
    (pSeq (pSet 5 (pOp rIx (pLst (pCons (pC (.int 0)) (pCons (pC (.int 1)) (pCons (pC (.int 2)) (pCons (pVar 2) (pCons (pCall sp_l_draw (pCons (pVar 0) (pCons (pOp rAdd (pVar 2) (pC (.int 1))) pNil))) pNil)))))) (pVar 3)))
    (pSeq (pSet 6 (pOwn pNil))
    (pSeq (pFor (pRng1 (pCons (pVar 5) pNil)) (pgName 7)
    (pSeq (pSet 8 (pLc false (pRng1 (pCons (pOp rAdd (pC (.int 1)) (pCall sp_l_draw (pCons (pVar 0) (pCons (pC (.int 3)) pNil)))) pNil)) (pgName 9) pYes (pCall sp_l_draw (pCons (pVar 0) (pCons (pVar 1) pNil))) [9]))
    (pSeq (pIf (pTb (pOp rLt (pVar 4) (pC (.int 2))))
    (pSet 8 (pSl (pOp rMul (pVar 8) (pC (.int 3))) pNoPart (pPart (pOp rAdd (pVar 4) (pC (.int 1))))))
    pNext)
    (pDrop (pBM (fun _ => rAppend) ["list"] (pVar 6) (pCons (pCB rTuple (pCons (pVar 8) pNil)) pNil))))))
    (pRet (pFrz (pVar 6))))))))
theorem d_l_draws {P : Program} {w : World} {K : PySem.W.Frag} {mg : Str → Option Value} {base : Heap} (T : Txt K mg) (C_l_draw : FnP P w K mg base 1 T.a_l_draw T.fd_l_draw ["_law_pen_here", "_law_many"] sp_l_draw) {cdv : Value} {A : Around} {outer : List Env} {s : Shared} {H : Hp} {E : XK} (hgd : A.guards = some []) (hr : Room 1 (A.deeper (envOfC "_law_draws" (defScope s_l_draws) s.heap.objs.size T.a_l_draws cdv))) :
    QB (cxOf (L2.CX P w) P w K mg base N_l_draws "_law_draws" (defScope s_l_draws) T.a_l_draws cdv A outer s H E) (defBody s_l_draws) t_l_draws :=
  have hp : PassesOwn (model P w) (cxOf (L2.CX P w) P w K mg base N_l_draws "_law_draws" (defScope s_l_draws) T.a_l_draws cdv A outer s H E).A (cxOf (L2.CX P w) P w K mg base N_l_draws "_law_draws" (defScope s_l_draws) T.a_l_draws cdv A outer s H E).env (cxOf (L2.CX P w) P w K mg base N_l_draws "_law_draws" (defScope s_l_draws) T.a_l_draws cdv A outer s H E).xe := passes_of rfl
  (qb_cons (qs_set (i := 3) sc_l_draws.nd rfl (Or.inl rfl) (qe_call C_l_draw hgd (hr.mono (by decide)) rfl T.m_l_draw T.F_l_draw.kp T.b_l_draw (qa_cons (qe_var 0) (qa_cons qe_int qa_nil))))
    (qb_cons (qs_set (i := 4) sc_l_draws.nd rfl (Or.inl rfl) (qe_call C_l_draw hgd (hr.mono (by decide)) rfl T.m_l_draw T.F_l_draw.kp T.b_l_draw (qa_cons (qe_var 0) (qa_cons qe_int qa_nil))))
    (qb_cons (qs_set (i := 5) sc_l_draws.nd rfl (Or.inl rfl) (qe_ix (q_ix (hu_of hr)) (qe_lst (qa_cons qe_int (qa_cons qe_int (qa_cons qe_int (qa_cons (qe_var 2) (qa_cons (qe_call C_l_draw hgd (hr.mono (by decide)) rfl T.m_l_draw T.F_l_draw.kp T.b_l_draw (qa_cons (qe_var 0) (qa_cons (qe_op q_add (qe_var 2) qe_int) qa_nil))) qa_nil)))))) (qe_var 3)))
    (qb_cons (qs_set (i := 6) sc_l_draws.nd rfl (Or.inl rfl) (qe_own qa_nil))
    (qb_cons (qs_for hp rfl (qi_rng1 rfl T.z_range (qa_cons (qe_var 5) qa_nil)) (qg_name (i := 7) (ws := [7]) sc_l_draws.nd rfl (by first | exact Or.inl rfl | exact Or.inr rfl))
    (qb_cons (qs_setLc (i := 8) rfl sc_l_draws.nd rfl rfl (sw_true rfl rfl rfl (by kernel_rfl)) (own := [("_law_j", 9)]) (o := false) (qi_rng1 rfl T.z_range (qa_cons (qe_op q_add qe_int (qe_call C_l_draw hgd (hr.mono (by decide)) rfl T.m_l_draw T.F_l_draw.kp T.b_l_draw (qa_cons (qe_var 0) (qa_cons qe_int qa_nil)))) qa_nil)) (blkOk_by (N := N_l_draws) (by kernel_rfl)) (fun _ _ _ _ _ => (qg_name (i := 9) (ws := [9]) sc_l_draws.nd rfl (by first | exact Or.inl rfl | exact Or.inr rfl))) (fun _ _ _ _ _ => qts_nil) (fun _ _ _ _ _ => (qe_call C_l_draw hgd (hr.mono (by decide)) rfl T.m_l_draw T.F_l_draw.kp T.b_l_draw (qa_cons (qe_var 0) (qa_cons (qe_var 1) qa_nil)))))
    (qb_cons (qs_if (qt_cmp q_lt (qe_var 4) qe_int)
    (qb_one (qs_set (i := 8) sc_l_draws.nd rfl (Or.inl rfl) (qe_sl (qe_op q_mul (qe_var 8) qe_int) qo_none (qo_some (qe_op q_add (qe_var 4) qe_int)))))
    qb_nil)
    (qb_one (qs_expr (qe_bm (m_one m_append) (qe_var 6) (qa_cons (qe_callT q_tuple rfl T.z_tuple boot_tuple (qa_cons (qe_var 8) qa_nil)) qa_nil)))))))
    (qb_one (qs_ret (qe_frz (qe_var 6)))))))))
abbrev Ok_l_draws (P : Program) (w : World) (K : PySem.W.Frag) (mg : Str → Option Value) (base : Heap) (T : Txt K mg) : Prop := FnP P w K mg base 2 T.a_l_draws T.fd_l_draws ["_law_pen_here", "_law_n", "_law_most"] sp_l_draws

def t_l_step_right : PTS :=
    (pSeq (pIf (pOr (pNot (pTb (pCall sp_l_is_whole (pCons (pVar 2) pNil)))) (pTb (pOp (rMem true) (pVar 2) (pVar 1))))
    (pRet (pC (.bl false)))
    pNext)
    (pSeq (pSet 3 (pLc false (pISeq (pVar 1)) (pgName 4) pYes (pOp rIx (pVar 0) (pVar 4)) [4]))
    (pRet (pOp rEq (pBM rIdx ["list", "tuple"] (pVar 1) (pCons (pVar 2) pNil)) (pBM rIdx ["list", "tuple"] (pVar 3) (pCons (pCB rMinL (pCons (pVar 3) pNil)) pNil))))))
theorem d_l_step_right {P : Program} {w : World} {K : PySem.W.Frag} {mg : Str → Option Value} {base : Heap} (T : Txt K mg) (C_l_is_whole : FnP P w K mg base 1 T.a_l_is_whole T.fd_l_is_whole ["_law_thing"] sp_l_is_whole) {cdv : Value} {A : Around} {outer : List Env} {s : Shared} {H : Hp} {E : XK} (hgd : A.guards = some []) (hr : Room 1 (A.deeper (envOfC "_law_step_right" (defScope s_l_step_right) s.heap.objs.size T.a_l_step_right cdv))) :
    QB (cxOf (L2.CX P w) P w K mg base N_l_step_right "_law_step_right" (defScope s_l_step_right) T.a_l_step_right cdv A outer s H E) (defBody s_l_step_right) t_l_step_right :=
  have hp : PassesOwn (model P w) (cxOf (L2.CX P w) P w K mg base N_l_step_right "_law_step_right" (defScope s_l_step_right) T.a_l_step_right cdv A outer s H E).A (cxOf (L2.CX P w) P w K mg base N_l_step_right "_law_step_right" (defScope s_l_step_right) T.a_l_step_right cdv A outer s H E).env (cxOf (L2.CX P w) P w K mg base N_l_step_right "_law_step_right" (defScope s_l_step_right) T.a_l_step_right cdv A outer s H E).xe := passes_of rfl
  (qb_cons (qs_if (qt_w (qw_or (qt_not (qt_val (qe_call C_l_is_whole hgd (hr.mono (by decide)) rfl T.m_l_is_whole T.F_l_is_whole.kp T.b_l_is_whole (qa_cons (qe_var 2) qa_nil)))) (qw_or1 (qt_cmp (q_nin (hu_of hr)) (qe_var 2) (qe_var 1)))))
    (qb_one (qs_ret qe_bl))
    qb_nil)
    (qb_cons (qs_setLc (i := 3) rfl sc_l_step_right.nd rfl rfl (sw_true rfl rfl rfl (by kernel_rfl)) (own := [("_law_other", 4)]) (o := false) (qi_seq (qe_var 1)) (blkOk_by (N := N_l_step_right) (by kernel_rfl)) (fun _ _ _ _ _ => (qg_name (i := 4) (ws := [4]) sc_l_step_right.nd rfl (by first | exact Or.inl rfl | exact Or.inr rfl))) (fun _ _ _ _ _ => qts_nil) (fun _ _ _ _ _ => (qe_ix (q_ix (hu_of hr)) (qe_var 0) (qe_var 4))))
    (qb_one (qs_ret (qe_cmp (q_eq (room_64 hr)) (qe_bm m_index (qe_var 1) (qa_cons (qe_var 2) qa_nil)) (qe_bm m_index (qe_var 3) (qa_cons (qe_callB (q_min rfl) rfl T.z_min boot_min (qa_cons (qe_var 3) qa_nil)) qa_nil)))))))
abbrev Ok_l_step_right (P : Program) (w : World) (K : PySem.W.Frag) (mg : Str → Option Value) (base : Heap) (T : Txt K mg) : Prop := FnP P w K mg base 2 T.a_l_step_right T.fd_l_step_right ["_law_numbers", "_law_draw_here", "_law_box"] sp_l_step_right

def t_l_right : PTS :=
    (pSeq (pIf (pOr (pNot (pTb (pCB rIsi (pCons (pVar 2) (pCons (pC (.ty "tuple")) pNil))))) (pOr (pTb (pOp rNe (pCB rLen (pCons (pVar 2) pNil)) (pC (.int 2)))) (pNot (pTb (pCB rIsi (pCons (pOp rIx (pVar 2) (pC (.int 1))) (pCons (pC (.ty "list")) pNil)))))))
    (pRet (pC (.bl false)))
    pNext)
    (pSeq (pIf (pOr (pTb (pOp rNe (pCB rLen (pCons (pOp rIx (pVar 2) (pC (.int 1))) pNil)) (pCB rLen (pCons (pVar 1) pNil)))) (pNot (pTb (pCB rIsi (pCons (pOp rIx (pVar 2) (pC (.int 0))) (pCons (pC (.ty "tuple")) pNil))))))
    (pRet (pC (.bl false)))
    pNext)
    (pSeq (pSet 3 (pCB (rList true) (pCons (pVar 0) pNil)))
    (pSeq (pFor (pZip (pCons (pVar 1) (pCons (pOp rIx (pVar 2) (pC (.int 1))) pNil))) (pgTup 2 (pgCons (pgName 4) (pgCons (pgName 5) pgNil)))
    (pSeq (pIf (pNot (pTb (pCall sp_l_step_right (pCons (pVar 3) (pCons (pVar 4) (pCons (pVar 5) pNil))))))
    (pRet (pC (.bl false)))
    pNext)
    (pAsg (pOp rAdd (pOp rIx (pVar 3) (pVar 5)) (pC (.int 1))) (pgSub rSet (pVar 3) (pVar 5)))))
    (pRet (pAndV (pOp rEq (pOp rIx (pVar 2) (pC (.int 0))) (pCB rTuple (pCons (pVar 3) pNil))) (pCB rAllB (pCons (pLc false (pISeq (pOp rIx (pVar 2) (pC (.int 0)))) (pgName 6) pYes (pCall sp_l_is_whole (pCons (pVar 6) pNil)) [6]) pNil))))))))
theorem d_l_right {P : Program} {w : World} {K : PySem.W.Frag} {mg : Str → Option Value} {base : Heap} (T : Txt K mg) (C_l_is_whole : FnP P w K mg base 1 T.a_l_is_whole T.fd_l_is_whole ["_law_thing"] sp_l_is_whole) (C_l_step_right : FnP P w K mg base 2 T.a_l_step_right T.fd_l_step_right ["_law_numbers", "_law_draw_here", "_law_box"] sp_l_step_right) {cdv : Value} {A : Around} {outer : List Env} {s : Shared} {H : Hp} {E : XK} (hgd : A.guards = some []) (hr : Room 2 (A.deeper (envOfC "_law_right" (defScope s_l_right) s.heap.objs.size T.a_l_right cdv))) :
    QB (cxOf (L2.CX P w) P w K mg base N_l_right "_law_right" (defScope s_l_right) T.a_l_right cdv A outer s H E) (defBody s_l_right) t_l_right :=
  have hp : PassesOwn (model P w) (cxOf (L2.CX P w) P w K mg base N_l_right "_law_right" (defScope s_l_right) T.a_l_right cdv A outer s H E).A (cxOf (L2.CX P w) P w K mg base N_l_right "_law_right" (defScope s_l_right) T.a_l_right cdv A outer s H E).env (cxOf (L2.CX P w) P w K mg base N_l_right "_law_right" (defScope s_l_right) T.a_l_right cdv A outer s H E).xe := passes_of rfl
  (qb_cons (qs_if (qt_w (qw_or (qt_not (qt_val (qe_callB q_isi rfl T.z_isinstance boot_isinstance (qa_cons (qe_var 2) (qa_cons (qe_bty rfl T.z_tuple boot_tuple) qa_nil))))) (qw_or (qt_cmp (q_ne (room_64 hr)) (qe_callB q_len rfl T.z_len boot_len (qa_cons (qe_var 2) qa_nil)) qe_int) (qw_or1 (qt_not (qt_val (qe_callB q_isi rfl T.z_isinstance boot_isinstance (qa_cons (qe_ix (q_ix (hu_of hr)) (qe_var 2) qe_int) (qa_cons (qe_bty rfl T.z_list boot_list) qa_nil)))))))))
    (qb_one (qs_ret qe_bl))
    qb_nil)
    (qb_cons (qs_if (qt_w (qw_or (qt_cmp (q_ne (room_64 hr)) (qe_callB q_len rfl T.z_len boot_len (qa_cons (qe_ix (q_ix (hu_of hr)) (qe_var 2) qe_int) qa_nil)) (qe_callB q_len rfl T.z_len boot_len (qa_cons (qe_var 1) qa_nil))) (qw_or1 (qt_not (qt_val (qe_callB q_isi rfl T.z_isinstance boot_isinstance (qa_cons (qe_ix (q_ix (hu_of hr)) (qe_var 2) qe_int) (qa_cons (qe_bty rfl T.z_tuple boot_tuple) qa_nil))))))))
    (qb_one (qs_ret qe_bl))
    qb_nil)
    (qb_cons (qs_set (i := 3) sc_l_right.nd rfl (Or.inl rfl) (qe_callT (q_list true) rfl T.z_list boot_list (qa_cons (qe_var 0) qa_nil)))
    (qb_cons (qs_for hp rfl (qi_zip rfl T.z_zip (qa_cons (qe_var 1) (qa_cons (qe_ix (q_ix (hu_of hr)) (qe_var 2) qe_int) qa_nil))) (qg_tup rfl (qgs_cons (qg_name (i := 4) (ws := [4, 5]) sc_l_right.nd rfl (by first | exact Or.inl rfl | exact Or.inr rfl)) (qgs_cons (qg_name (i := 5) (ws := [4, 5]) sc_l_right.nd rfl (by first | exact Or.inl rfl | exact Or.inr rfl)) (qgs_nil (ws := [4, 5])))))
    (qb_cons (qs_if (qt_not (qt_val (qe_call C_l_step_right hgd (hr.mono (by decide)) rfl T.m_l_step_right T.F_l_step_right.kp T.b_l_step_right (qa_cons (qe_var 3) (qa_cons (qe_var 4) (qa_cons (qe_var 5) qa_nil))))))
    (qb_one (qs_ret qe_bl))
    qb_nil)
    (qb_one (qs_asg (qe_op q_add (qe_ix (q_ix (hu_of hr)) (qe_var 3) (qe_var 5)) qe_int) (qg_sub (ws := []) (qe_var 3) (qe_var 5) (q_set (hu_of hr)))))))
    (qb_one (qs_ret (qe_and (qe_cmp (q_eq (room_64 hr)) (qe_ix (q_ix (hu_of hr)) (qe_var 2) qe_int) (qe_callT q_tuple rfl T.z_tuple boot_tuple (qa_cons (qe_var 3) qa_nil))) (qe_one (qe_callB (q_all rfl) rfl T.z_all (by decide +kernel) (qa_cons (qe_lc rfl sc_l_right.nd (own := [("_law_number", 6)]) (o := false) (qi_seq (qe_ix (q_ix (hu_of hr)) (qe_var 2) qe_int)) (blkOk_by (N := N_l_right) (by kernel_rfl)) (fun _ _ _ _ _ => (qg_name (i := 6) (ws := [6]) sc_l_right.nd rfl (by first | exact Or.inl rfl | exact Or.inr rfl))) (fun _ _ _ _ _ => qts_nil) (fun _ _ _ _ _ => (qe_call C_l_is_whole hgd (hr.mono (by decide)) rfl T.m_l_is_whole T.F_l_is_whole.kp T.b_l_is_whole (qa_cons (qe_var 6) qa_nil)))) qa_nil))))))))))
abbrev Ok_l_right (P : Program) (w : World) (K : PySem.W.Frag) (mg : Str → Option Value) (base : Heap) (T : Txt K mg) : Prop := FnP P w K mg base 3 T.a_l_right T.fd_l_right ["_law_stand_here", "_law_draws_here", "_law_found"] sp_l_right

def t_law : PTS :=
    (pSeq (pSet 1 (pCall sp_l_pen (pCons (pVar 0) pNil)))
    (pSeq (pFor (pRng1 (pCons (pC (.int 4)) pNil)) (pgName 2)
    (pSeq (pSet 3 (pOp rAdd (pC (.int 1)) (pCall sp_l_draw (pCons (pVar 1) (pCons (pC (.int 6)) pNil)))))
    (pSeq (pSet 4 (pCall sp_l_stand (pCons (pVar 1) (pCons (pVar 3) (pCons (pC (.int 6)) pNil)))))
    (pSeq (pSet 5 (pCall sp_l_draws (pCons (pVar 1) (pCons (pVar 3) (pCons (pC (.int 60)) pNil)))))
    (pSeq (pSet 6 (pCB rRepr (pCons (pTup (pCons (pVar 4) (pCons (pVar 5) pNil))) pNil)))
    (pSeq (pSet 7 (pCall sp_by_draws (pCons (pVar 4) (pCons (pVar 5) pNil))))
    (pSeq (pIf (pNot (pTb (pCall sp_l_right (pCons (pVar 4) (pCons (pVar 5) (pCons (pVar 7) pNil))))))
    (pRet (pC (.bl false)))
    pNext)
    (pSeq (pSet 8 (pCall sp_l_draw (pCons (pVar 1) (pCons (pOp rAdd (pCB rLen (pCons (pVar 5) pNil)) (pC (.int 1))) pNil))))
    (pSeq (pAsg (pFrzT 1 (pCall sp_by_draws (pCons (pVar 4) (pCons (pSl (pVar 5) pNoPart (pPart (pVar 8))) pNil)))) (pgTup 2 (pgCons (pgName 9) (pgCons (pgName 10) pgNil))))
    (pSeq (pIf (pOr (pTb (pOp rNe (pVar 10) (pSl (pOp rIx (pVar 7) (pC (.int 1))) pNoPart (pPart (pVar 8))))) (pTb (pOp rNe (pFrzT 1 (pCall sp_by_draws (pCons (pVar 9) (pCons (pSl (pVar 5) (pPart (pVar 8)) pNoPart) pNil)))) (pTup (pCons (pOp rIx (pVar 7) (pC (.int 0))) (pCons (pSl (pOp rIx (pVar 7) (pC (.int 1))) (pPart (pVar 8)) pNoPart) pNil))))))
    (pRet (pC (.bl false)))
    pNext)
    (pSeq (pDrop (pBM (fun _ => rClear) ["list"] (pOp rIx (pVar 7) (pC (.int 1))) pNil))
    (pIf (pOr (pNot (pTb (pCall sp_l_right (pCons (pVar 4) (pCons (pVar 5) (pCons (pFrzT 1 (pCall sp_by_draws (pCons (pVar 4) (pCons (pVar 5) pNil)))) pNil)))))) (pTb (pOp rNe (pCB rRepr (pCons (pTup (pCons (pVar 4) (pCons (pVar 5) pNil))) pNil)) (pVar 6))))
    (pRet (pC (.bl false)))
    pNext))))))))))))
    (pRet (pOp rEq (pFrzT 1 (pCall sp_by_draws (pCons (pTup (pCons (pC (.int 3)) (pCons (pC (.int 3)) pNil))) (pCons (pLst pNil) pNil)))) (pTup (pCons (pTup (pCons (pC (.int 3)) (pCons (pC (.int 3)) pNil))) (pCons (pLst pNil) pNil)))))))
theorem d_law {P : Program} {w : World} {K : PySem.W.Frag} {mg : Str → Option Value} {base : Heap} (T : Txt K mg) (C_by_draws : FnP P w K mg base 2 T.a_by_draws T.fd_by_draws ["stand", "draws"] sp_by_draws) (C_l_pen : FnP P w K mg base 1 T.a_l_pen T.fd_l_pen ["_law_script"] sp_l_pen) (C_l_draw : FnP P w K mg base 1 T.a_l_draw T.fd_l_draw ["_law_pen_here", "_law_many"] sp_l_draw) (C_l_stand : FnP P w K mg base 2 T.a_l_stand T.fd_l_stand ["_law_pen_here", "_law_n", "_law_most"] sp_l_stand) (C_l_draws : FnP P w K mg base 2 T.a_l_draws T.fd_l_draws ["_law_pen_here", "_law_n", "_law_most"] sp_l_draws) (C_l_right : FnP P w K mg base 3 T.a_l_right T.fd_l_right ["_law_stand_here", "_law_draws_here", "_law_found"] sp_l_right) {cdv : Value} {A : Around} {outer : List Env} {s : Shared} {H : Hp} {E : XK} (hgd : A.guards = some []) (hr : Room 3 (A.deeper (envOfC "law" (defScope s_law) s.heap.objs.size T.a_law cdv))) :
    QB (cxOf (L2.CX P w) P w K mg base N_law "law" (defScope s_law) T.a_law cdv A outer s H E) (defBody s_law) t_law :=
  have hp : PassesOwn (model P w) (cxOf (L2.CX P w) P w K mg base N_law "law" (defScope s_law) T.a_law cdv A outer s H E).A (cxOf (L2.CX P w) P w K mg base N_law "law" (defScope s_law) T.a_law cdv A outer s H E).env (cxOf (L2.CX P w) P w K mg base N_law "law" (defScope s_law) T.a_law cdv A outer s H E).xe := passes_of rfl
  (qb_cons (qs_set (i := 1) sc_law.nd rfl (Or.inl rfl) (qe_call C_l_pen hgd (hr.mono (by decide)) rfl T.m_l_pen T.F_l_pen.kp T.b_l_pen (qa_cons (qe_var 0) qa_nil)))
    (qb_cons (qs_for hp rfl (qi_rng1 rfl T.z_range (qa_cons qe_int qa_nil)) (qg_name (i := 2) (ws := [2]) sc_law.nd rfl (by first | exact Or.inl rfl | exact Or.inr rfl))
    (qb_cons (qs_set (i := 3) sc_law.nd rfl (Or.inl rfl) (qe_op q_add qe_int (qe_call C_l_draw hgd (hr.mono (by decide)) rfl T.m_l_draw T.F_l_draw.kp T.b_l_draw (qa_cons (qe_var 1) (qa_cons qe_int qa_nil)))))
    (qb_cons (qs_set (i := 4) sc_law.nd rfl (Or.inl rfl) (qe_call C_l_stand hgd (hr.mono (by decide)) rfl T.m_l_stand T.F_l_stand.kp T.b_l_stand (qa_cons (qe_var 1) (qa_cons (qe_var 3) (qa_cons qe_int qa_nil)))))
    (qb_cons (qs_set (i := 5) sc_law.nd rfl (Or.inl rfl) (qe_call C_l_draws hgd (hr.mono (by decide)) rfl T.m_l_draws T.F_l_draws.kp T.b_l_draws (qa_cons (qe_var 1) (qa_cons (qe_var 3) (qa_cons qe_int qa_nil)))))
    (qb_cons (qs_set (i := 6) sc_law.nd rfl (Or.inl rfl) (qe_callB (q_repr hgd (room_hu hr)) rfl T.z_repr boot_repr (qa_cons (qe_tup (qa_cons (qe_var 4) (qa_cons (qe_var 5) qa_nil))) qa_nil)))
    (qb_cons (qs_set (i := 7) sc_law.nd rfl (Or.inl rfl) (qe_call C_by_draws hgd (hr.mono (by decide)) rfl T.m_by_draws T.F_by_draws.kp T.b_by_draws (qa_cons (qe_var 4) (qa_cons (qe_var 5) qa_nil))))
    (qb_cons (qs_if (qt_not (qt_val (qe_call C_l_right hgd (hr.mono (by decide)) rfl T.m_l_right T.F_l_right.kp T.b_l_right (qa_cons (qe_var 4) (qa_cons (qe_var 5) (qa_cons (qe_var 7) qa_nil))))))
    (qb_one (qs_ret qe_bl))
    qb_nil)
    (qb_cons (qs_set (i := 8) sc_law.nd rfl (Or.inl rfl) (qe_call C_l_draw hgd (hr.mono (by decide)) rfl T.m_l_draw T.F_l_draw.kp T.b_l_draw (qa_cons (qe_var 1) (qa_cons (qe_op q_add (qe_callB q_len rfl T.z_len boot_len (qa_cons (qe_var 5) qa_nil)) qe_int) qa_nil))))
    (qb_cons (qs_asg (qe_frzT 1 (qe_call C_by_draws hgd (hr.mono (by decide)) rfl T.m_by_draws T.F_by_draws.kp T.b_by_draws (qa_cons (qe_var 4) (qa_cons (qe_sl (qe_var 5) qo_none (qo_some (qe_var 8))) qa_nil)))) (qg_tup rfl (qgs_cons (qg_name (i := 9) (ws := [9, 10]) sc_law.nd rfl (by first | exact Or.inl rfl | exact Or.inr rfl)) (qgs_cons (qg_name (i := 10) (ws := [9, 10]) sc_law.nd rfl (by first | exact Or.inl rfl | exact Or.inr rfl)) (qgs_nil (ws := [9, 10]))))))
    (qb_cons (qs_if (qt_w (qw_or (qt_cmp (q_ne (room_64 hr)) (qe_var 10) (qe_sl (qe_ix (q_ix (hu_of hr)) (qe_var 7) qe_int) qo_none (qo_some (qe_var 8)))) (qw_or1 (qt_cmp (q_ne (room_64 hr)) (qe_frzT 1 (qe_call C_by_draws hgd (hr.mono (by decide)) rfl T.m_by_draws T.F_by_draws.kp T.b_by_draws (qa_cons (qe_var 9) (qa_cons (qe_sl (qe_var 5) (qo_some (qe_var 8)) qo_none) qa_nil)))) (qe_tup (qa_cons (qe_ix (q_ix (hu_of hr)) (qe_var 7) qe_int) (qa_cons (qe_sl (qe_ix (q_ix (hu_of hr)) (qe_var 7) qe_int) (qo_some (qe_var 8)) qo_none) qa_nil)))))))
    (qb_one (qs_ret qe_bl))
    qb_nil)
    (qb_cons (qs_expr (qe_bm0 (m_one m_clear) (qe_ix (q_ix (hu_of hr)) (qe_var 7) qe_int)))
    (qb_one (qs_if (qt_w (qw_or (qt_not (qt_val (qe_call C_l_right hgd (hr.mono (by decide)) rfl T.m_l_right T.F_l_right.kp T.b_l_right (qa_cons (qe_var 4) (qa_cons (qe_var 5) (qa_cons (qe_frzT 1 (qe_call C_by_draws hgd (hr.mono (by decide)) rfl T.m_by_draws T.F_by_draws.kp T.b_by_draws (qa_cons (qe_var 4) (qa_cons (qe_var 5) qa_nil)))) qa_nil)))))) (qw_or1 (qt_cmp (q_ne (room_64 hr)) (qe_callB (q_repr hgd (room_hu hr)) rfl T.z_repr boot_repr (qa_cons (qe_tup (qa_cons (qe_var 4) (qa_cons (qe_var 5) qa_nil))) qa_nil)) (qe_var 6)))))
    (qb_one (qs_ret qe_bl))
    qb_nil)))))))))))))
    (qb_one (qs_ret (qe_cmp (q_eq (room_64 hr)) (qe_frzT 1 (qe_call C_by_draws hgd (hr.mono (by decide)) rfl T.m_by_draws T.F_by_draws.kp T.b_by_draws (qa_cons (qe_tup (qa_cons qe_int (qa_cons qe_int qa_nil))) (qa_cons (qe_lst qa_nil) qa_nil)))) (qe_tup (qa_cons (qe_tup (qa_cons qe_int (qa_cons qe_int qa_nil))) (qa_cons (qe_lst qa_nil) qa_nil))))))))
abbrev Ok_law (P : Program) (w : World) (K : PySem.W.Frag) (mg : Str → Option Value) (base : Heap) (T : Txt K mg) : Prop := FnP P w K mg base 4 T.a_law T.fd_law ["_law_script"] sp_law

end K54
end

section
namespace K54
open PySem PL
open L2 (atI ixN atI_nat upd Key)
local macro_rules | `(tactic| walk_at "pv") => `(tactic| dsimp only [pVar, pC, pUn, pOp, pNil, pCons, pCB, pTup, pLst, pOwn, pFrz, pDrop, pRet, pRetN, pIf, pSet, pAsg, pgName, pgNil, pgCons, pgTup, pgSub, pTb, pAnd, pOr, pNot, pAndV, pOrV, pNotV, pIfE, pCall, pNext, pISeq, pRng1, pRng2, pSl, pNoPart, pPart, pBM, pFrzT,
  rAdd_ii, rSub_ii, rMul_ii, rFdiv_ii, rMod_ii, rPow_ii, rLt_ii, rLe_ii, rGt_ii, rGe_ii, rEq_ii, rNe_ii, rEq_ss, rNe_ss, rNeg_i, rAbs_i, rMin_ii, rMax_ii, rInt_i, rInt_b,
  List.getElem?_cons_zero, List.getElem?_cons_succ, List.set_cons_zero, List.set_cons_succ, List.length_cons, List.length_nil])
variable {P : Program} {w : World} {K : PySem.W.Frag} {mg : Str → Option Value} {base : Heap}
theorem atI_map {zs : List Int} {i : Int} (h0 : 0 ≤ i) (h : i < zs.length) : atI (zs.map PV.int) i = some (.int (atZ zs i)) := by
  have e : i.toNat < zs.length := by omega
  refine atI_in h0 ?_
  rw [List.getElem?_map, List.getElem?_eq_getElem e]
  unfold atZ
  rw [List.getD_eq_getElem?_getD, List.getElem?_eq_getElem e]
  rfl
theorem ok_chosen (T : Txt K mg) : Ok_chosen P w K mg base T := by
  refine def_by T.F_chosen sc_chosen (d_chosen T) fun xs G Q Ex h => ?_
  obtain ⟨s, zs, ds, rfl, hs, hb, q⟩ := h
  refine ⟨rfl, ?_⟩
  obtain ⟨d, r, rfl⟩ : ∃ d r, ds = d :: r := by
    cases ds with
    | nil => exact absurd rfl hb.1
    | cons d r => exact ⟨d, r, rfl⟩
  have hd := hb.2 d List.mem_cons_self
  show t_chosen _ [some s, some (tI (d :: r)), none, none] G
  unfold t_chosen
  refine seq_gen fun K1 h1 => ?_
  walk_at "pv"
  refine rIx_seq (xs := (d :: r).map .int) rfl (atI_nat (j := 0) rfl) (h1 _ _ ?_)
  clear h1
  refine seq_gen fun K1 h1 => ?_
  refine for_gen fun g' tb' hg htb => ?_
  walk_at "pv"
  refine iseq_of rfl (for_l (fun i env G' => ∃ b x3, env = [some s, some (tI (d :: r)), some (.int b), x3] ∧ G' = G ∧ (0 ≤ b ∧ b < (zs.length : Int)) ∧ chooseGo zs b ((d :: r).drop i) = choose zs (d :: r)) ⟨d, none, rfl, rfl, hd, rfl⟩ (fun i x env G' hx hI => ?_) fun env G' hI => ?_)
  · obtain ⟨b, x3, rfl, rfl, hb1, he⟩ := hI
    rw [List.getElem?_map] at hx
    obtain ⟨d', hd', rfl⟩ := Option.map_eq_some_iff.mp hx
    have hm := hb.2 d' (List.mem_of_getElem? hd')
    subst hg htb
    walk_at "pv"
    refine rIx_seq hs (atI_map hm.1 hm.2) (rIx_seq hs (atI_map hb1.1 hb1.2) ?_)
    walk_at "pv"
    have hdr : (d :: r).drop i = d' :: (d :: r).drop (i + 1) := by
      obtain ⟨hl, hg⟩ := List.getElem?_eq_some_iff.mp hd'
      rw [List.drop_eq_getElem_cons hl, hg]
    rw [hdr] at he
    refine ite_dec (fun c => ?_) fun c => ?_
    · exact ⟨d', _, rfl, rfl, hm, by unfold chooseGo at he; rw [if_pos c] at he; exact he⟩
    · exact ⟨b, _, rfl, rfl, hb1, by unfold chooseGo at he; rw [if_neg c] at he; exact he⟩
  · obtain ⟨b, x3, rfl, rfl, hb1, he⟩ := hI
    rw [List.length_map, List.drop_length] at he
    refine h1 _ _ ?_
    walk_at "pv"
    rw [show choose zs (d :: r) = b from he.symm] at q
    exact q
theorem isI_whole : ∀ t ∈ tyNames, (isI t "int" = true → (!isI t "bool") = (t == "int")) ∧ (isI t "int" = false → (t == "int") = false) := by decide +kernel
theorem ok_l_is_whole (T : Txt K mg) : Ok_l_is_whole P w K mg base T := by
  refine def_by T.F_l_is_whole sc_l_is_whole (d_l_is_whole T) fun xs G Q Ex h => ?_
  obtain ⟨x, t, rfl, ht, q⟩ := h
  refine ⟨rfl, ?_⟩
  show t_l_is_whole _ [some x] G
  unfold t_l_is_whole
  walk_at "pv"
  obtain ⟨m1, m2⟩ := isI_whole t (tyP_mem ht)
  refine rIsi_of ht (by decide) ?_
  refine ite_of (fun c => rIsi_of ht (by decide) ?_) fun c => ?_
  · show Q (.bl (!isI t "bool")) G
    rw [m1 c]
    exact q
  · rw [m2 c] at q
    exact q
theorem cut63 (ns : List Int) : ∃ cs : List Int, cutP (ns.map .int) none (some 63) = cs.map .int ∧ cs.length ≤ 63 := by
  refine ⟨ns.take 63, ?_, by rw [List.length_take]; omega⟩
  unfold cutP
  have e : HT.sIx (ns.map PV.int).length (ns.map PV.int).length (some 63) = min 63 (ns.map PV.int).length := HT.sIx_nat _ _ 63
  rw [e, HT.sIx_none, List.drop_zero, Nat.sub_zero, List.map_take, List.length_map]
  by_cases h : 63 ≤ ns.length
  · rw [Nat.min_eq_left h]
  · rw [Nat.min_eq_right (by omega), List.take_of_length_le (by simp), List.take_of_length_le (by simp; omega)]
theorem ok_l_pen (T : Txt K mg) : Ok_l_pen P w K mg base T := by
  refine def_by T.F_l_pen sc_l_pen (d_l_pen T) fun xs G Q Ex h => ?_
  obtain ⟨ns, rfl, q⟩ := h
  refine ⟨rfl, ?_⟩
  show t_l_pen _ [some (.scr ns)] G
  unfold t_l_pen pDict
  walk_at "pv"
  intro p hp
  unfold pPairs pPairs pPairs pPairs
  walk_at "pv"
  obtain ⟨cs, e, hl⟩ := cut63 ns
  show (gset G p (.dk [])) p = some (.dk []) ∧ _
  rw [e]
  refine ⟨gset_same, show (3 : Nat) ≤ 15 by decide, ?_⟩
  rw [gset_gset]
  exact q p _ hp ⟨cs, 0, 0, rfl, hl, Int.le_refl _, Int.le_refl _, Int.le_refl _⟩
def pen (cs : List Int) (t l : Int) : List (Key × PV) := [(.inr "cells", lI cs), (.inr "at", .int t), (.inr "left", .int l)]
theorem pen_at {cs : List Int} {t l : Int} : valP (pen cs t l) (.inr "at") = some (.int t) := rfl
theorem pen_left {cs : List Int} {t l : Int} : valP (pen cs t l) (.inr "left") = some (.int l) := rfl
theorem pen_cells {cs : List Int} {t l : Int} : valP (pen cs t l) (.inr "cells") = some (lI cs) := rfl
theorem put_at {cs : List Int} {t l x : Int} : putP (pen cs t l) (.inr "at") (.int x) = pen cs x l := rfl
theorem put_left {cs : List Int} {t l x : Int} : putP (pen cs t l) (.inr "left") (.int x) = pen cs t x := rfl
theorem ok_l_draw (T : Txt K mg) : Ok_l_draw P w K mg base T := by
  refine def_by T.F_l_draw sc_l_draw (d_l_draw T) fun xs G Q Ex h => ?_
  obtain ⟨p, m, n, o, rfl, h1, h2, hG, hP, hn, q⟩ := h
  obtain ⟨cs, t, l, rfl, hl, ht0, ht, hl0⟩ := hP
  have hG : G p = some (.dk (pen cs t l)) := hG
  refine ⟨rfl, ?_⟩
  show t_l_draw _ [some (.ref p), some (.int m), none, none, none, none, none] G
  unfold t_l_draw
  refine seq_gen fun K1 k1 => ?_
  walk_at "pv"
  refine rIx_dict hG rfl pen_left ?_
  walk_at "pv"
  refine ite_dec (fun c => ?_) fun c => ?_
  · clear k1
    refine seq_gen fun K2 k2 => ?_
    walk_at "pv"
    refine rIx_dict hG rfl pen_left ?_
    walk_at "pv"
    refine ⟨h1, k2 _ _ ?_⟩
    clear k2
    refine seq_gen fun K2 k2 => ?_
    walk_at "pv"
    refine rIx_dict hG rfl pen_left ?_
    walk_at "pv"
    refine ⟨.inl ⟨h1, by omega⟩, rSet_dict hG rfl (small' (show 3 ≤ 10000000 by decide)) (k2 _ _ ?_)⟩
    walk_at "pv"
    exact q _ _ (Int.emod_nonneg _ (by omega)) (Int.emod_lt_of_pos _ h1) ⟨cs, t, l / m, rfl, hl, ht0, by omega, Int.ediv_nonneg hl0 (by omega)⟩
  · refine k1 _ _ ?_
    clear k1
    refine seq_gen fun K2 k2 => ?_
    walk_at "pv"
    refine rIx_dict hG rfl pen_at (k2 _ _ ?_)
    clear k2
    refine seq_gen fun K2 k2 => ?_
    walk_at "pv"
    refine rSet_dict hG rfl (small' (show 3 ≤ 10000000 by decide)) (k2 _ _ ?_)
    clear k2
    rw [put_at]
    have hG1 : gset G p (.dk (pen cs (t + 1) l)) p = some (.dk (pen cs (t + 1) l)) := gset_same
    generalize hg1 : gset G p (.dk (pen cs (t + 1) l)) = G1 at hG1
    refine seq_gen fun K2 k2 => ?_
    walk_at "pv"
    refine ⟨.inl (.inl (by omega)), k2 _ _ ?_⟩
    clear k2
    refine seq_gen fun K2 k2 => ?_
    have rest : ∀ c : Int, K2 [some (.ref p), some (.int m), some (.int t), some (.int c), none, none, none] G1 := fun cell => by
      refine k2 _ _ ?_
      clear k2
      have e18 : (10 : Int) ^ (18 : Int).toNat = 1000000000000000000 := by decide
      have qq : ∀ r : Int, 0 ≤ r → r < m → ∀ l', 0 ≤ l' → Q (.int r) (gset G1 p (.dk (pen cs (t + 1) l'))) := fun r r0 r1 l' h' => by
        rw [← hg1, gset_gset]
        exact q _ _ r0 r1 ⟨cs, t + 1, l', rfl, hl, by omega, by omega, h'⟩
      have qq' : ∀ r : Int, 0 ≤ r → r < m → Q (.int r) G1 := fun r r0 r1 => by
        have := qq r r0 r1 l hl0
        rw [gset_id hG1] at this
        exact this
      refine seq_gen fun K3 k3 => ?_
      have last : K3 [some (.ref p), some (.int m), some (.int t), some (.int cell), none, none, none] G1 := by
        refine k3 _ _ ?_
        clear k3
        refine seq_gen fun K4 k4 => ?_
        walk_at "pv"
        refine ⟨small (show 7 ≤ 10000000 by decide), by decide, ?_⟩
        have hm7 := Int.emod_lt_of_pos t (show (0 : Int) < 7 by decide)
        have h07 := Int.emod_nonneg t (show (7 : Int) ≠ 0 by decide)
        have pr : ∃ pr : Int, atI [PV.int 2147483647, .int 2147483629, .int 2147483587, .int 2147483579, .int 2147483563, .int 2147483549, .int 2147483543] (t % 7) = some (.int pr) ∧ 0 < pr ∧ pr < 2147483648 := by
          generalize t % 7 = u at hm7 h07
          have : u = 0 ∨ u = 1 ∨ u = 2 ∨ u = 3 ∨ u = 4 ∨ u = 5 ∨ u = 6 := by omega
          rcases this with rfl | rfl | rfl | rfl | rfl | rfl | rfl <;> exact ⟨_, rfl, by decide, by decide⟩
        obtain ⟨pr, epr, pr0, pr1⟩ := pr
        refine rIx_seq (xs := [.int 2147483647, .int 2147483629, .int 2147483587, .int 2147483579, .int 2147483563, .int 2147483549, .int 2147483543]) rfl epr (k4 _ _ ?_)
        clear k4
        refine seq_gen fun K4 k4 => ?_
        walk_at "pv"
        have b1 := Int.emod_lt_of_pos cell (show (0 : Int) < 2147483497 by decide)
        have b2 := Int.emod_nonneg cell (show (2147483497 : Int) ≠ 0 by decide)
        have tt : 75329 * t * t ≤ 75329 * 1000000 * 1000000 := by
          have a1 : 75329 * t ≤ 75329 * 1000000 := by omega
          have a2 : 75329 * t * t ≤ 75329 * 1000000 * t := Int.mul_le_mul_of_nonneg_right a1 ht0
          have a3 : 75329 * 1000000 * t ≤ 75329 * 1000000 * 1000000 := Int.mul_le_mul_of_nonneg_left (by omega) (by decide)
          omega
        have tt0 : 0 ≤ 75329 * t * t := Int.mul_nonneg (by omega) ht0
        generalize htt : 75329 * t * t = T1 at tt tt0
        refine ⟨by decide, .inl (.inl (by omega)), .inl (.inl (by omega)), .inl (.inl (by omega)), ⟨by decide, by decide, by omega⟩, pr0, ?_⟩
        generalize hx : (cell % 2147483497 + T1 + 30011 * t + 271) ^ (3 : Int).toNat % pr = x
        have x0 : 0 ≤ x := by rw [← hx]; exact Int.emod_nonneg _ (by omega)
        have x1 : x < pr := by rw [← hx]; exact Int.emod_lt_of_pos _ pr0
        refine k4 _ _ ?_
        clear k4
        refine seq_gen fun K4 k4 => ?_
        walk_at "pv"
        refine ⟨.inl (.inl (by omega)), ⟨by decide, by decide, by omega⟩, by decide, k4 _ _ ?_⟩
        generalize hy : (x + 11 * t + 5) ^ (2 : Int).toNat % 2147483489 = y
        have y0 : 0 ≤ y := by rw [← hy]; exact Int.emod_nonneg _ (by decide)
        have y1 : y < 2147483489 := by rw [← hy]; exact Int.emod_lt_of_pos _ (by decide)
        walk_at "pv"
        refine ⟨.inl (.inl (by omega)), by decide, .inl ⟨by decide, by decide⟩, h1, qq' _ (Int.emod_nonneg _ (by omega)) (Int.emod_lt_of_pos _ h1)⟩
      walk_at "pv"
      refine rIx_dict hG1 rfl pen_cells (rLen_seq rfl ?_)
      walk_at "pv"
      refine ite_dec (fun c2 => ?_) fun c2 => last
      refine ⟨⟨by decide, by decide, by decide⟩, ?_⟩
      rw [e18]
      refine ite_dec (fun c3 => ?_) fun c3 => last
      have an := abs_nn cell
      generalize habs : (if cell < 0 then -cell else cell) = ab at an c3
      refine seq_gen fun K4 k4 => ?_
      walk_at "pv"
      rw [habs]
      refine ⟨.inl ⟨h1, by omega⟩, rSet_dict hG1 rfl (small' (show 3 ≤ 10000000 by decide)) (k4 _ _ ?_)⟩
      walk_at "pv"
      rw [habs, put_left]
      exact ⟨h1, qq _ (Int.emod_nonneg _ (by omega)) (Int.emod_lt_of_pos _ h1) _ (Int.ediv_nonneg an (by omega))⟩
    walk_at "pv"
    refine rIx_dict hG1 rfl pen_cells (rLen_seq rfl ?_)
    walk_at "pv"
    refine ite_dec (fun c1 => ?_) fun c1 => rest _
    refine rIx_dict hG1 rfl pen_cells (rIx_dict hG1 rfl pen_cells (rLen_seq rfl ?_))
    walk_at "pv"
    refine ⟨c1, ?_⟩
    rw [List.length_map] at c1 ⊢
    exact rIx_seq rfl (atI_map (Int.emod_nonneg _ (by omega)) (Int.emod_lt_of_pos _ c1)) (rest _)
end K54
end

section
namespace K54
open PySem PL
open L2 (atI ixN atI_nat upd Key)
local macro_rules | `(tactic| walk_at "pv") => `(tactic| dsimp only [pVar, pC, pUn, pOp, pNil, pCons, pCB, pTup, pLst, pOwn, pFrz, pDrop, pRet, pRetN, pIf, pSet, pAsg, pgName, pgNil, pgCons, pgTup, pgSub, pTb, pAnd, pOr, pNot, pAndV, pOrV, pNotV, pIfE, pCall, pNext, pISeq, pRng1, pRng2, pSl, pNoPart, pPart, pBM, pFrzT, pYes, wipeE,
  rAdd_ii, rSub_ii, rMul_ii, rFdiv_ii, rMod_ii, rPow_ii, rLt_ii, rLe_ii, rGt_ii, rGe_ii, rEq_ii, rNe_ii, rEq_ss, rNe_ss, rNeg_i, rAbs_i, rMin_ii, rMax_ii, rInt_i, rInt_b,
  List.getElem?_cons_zero, List.getElem?_cons_succ, List.set_cons_zero, List.set_cons_succ, List.length_cons, List.length_nil])
variable {P : Program} {w : World} {K : PySem.W.Frag} {mg : Str → Option Value} {base : Heap}
theorem choose_in : ∀ (zs : List Int) (b : Int) (ds : List Int) (n : Nat), (0 ≤ b ∧ b < (n : Int)) → (∀ d ∈ ds, 0 ≤ d ∧ d < (n : Int)) → 0 ≤ chooseGo zs b ds ∧ chooseGo zs b ds < n
  | zs, b, [], n, hb, _ => hb
  | zs, b, d :: r, n, hb, h => by
    unfold chooseGo
    split
    · exact choose_in zs d r n (h d List.mem_cons_self) fun x hx => h x (List.mem_cons_of_mem _ hx)
    · exact choose_in zs b r n hb fun x hx => h x (List.mem_cons_of_mem _ hx)
theorem choose_lt {zs ds : List Int} {n : Nat} (h : InB n ds) : 0 ≤ choose zs ds ∧ choose zs ds < n := by
  obtain ⟨h1, h2⟩ := h
  cases ds with
  | nil => exact absurd rfl h1
  | cons d r => exact choose_in zs d (d :: r) n (h2 d List.mem_cons_self) h2
theorem incAt_len (zs : List Int) (i : Int) : (incAt zs i).length = zs.length := by unfold incAt; rw [List.length_set]
theorem own_ab {G : GH} {a b : Addr} {x y : GO} (ha : G a = none) (hb : gset G a x b = none) : b ≠ a := fun e => by
  subst e
  rw [gset_same] at hb
  cases hb
theorem none_of_set {G : GH} {a b : Addr} {x : GO} (h : gset G a x b = none) : G b = none := by
  unfold gset at h
  split at h
  · cases h
  · exact h
theorem ok_by_draws (T : Txt K mg) (C1 : Ok_chosen P w K mg base T) : Ok_by_draws P w K mg base T := by
  refine def_byD T.F_by_draws sc_by_draws (d_by_draws T C1) fun xs G Q Ex h => ?_
  obtain ⟨zs, dss, rfl, hb, hl, q⟩ := h
  refine ⟨rfl, ?_⟩
  show t_by_draws _ [some (tI zs), some (.lst (dss.map tI)), none, none, none, none] G
  unfold t_by_draws
  refine seq_gen fun K1 k1 => ?_
  walk_at "pv"
  refine rList_of (xs := zs.map .int) rfl fun a ha => k1 _ _ ?_
  clear k1
  refine seq_gen fun K1 k1 => ?_
  walk_at "pv"
  refine ⟨Nat.zero_le _, fun b hb' => k1 _ _ ?_⟩
  clear k1
  have nb := none_of_set hb'
  have nba : b ≠ a := own_ab (y := .lst []) ha hb'
  refine seq_gen fun K1 k1 => ?_
  refine for_gen fun g' tb' hg htb => ?_
  walk_at "pv"
  refine iseq_of rfl (for_l (fun i env G' => ∃ zc bx x4 x5, env = [some (tI zs), some (.lst (dss.map tI)), some (.ref a), some (.ref b), x4, x5] ∧ G' = gset (gset G a (.lst (zc.map .int))) b (.lst (bx.map .int)) ∧ zc.length = zs.length ∧ bx.length = i ∧
    byDraws zs dss = ((byDraws zc (dss.drop i)).1, bx ++ (byDraws zc (dss.drop i)).2)) ⟨zs, [], none, none, rfl, rfl, rfl, rfl, rfl⟩ (fun i x env G' hx hI => ?_) fun env G' hI => ?_)
  · obtain ⟨zc, bx, x4, x5, rfl, rfl, hz, hbl, he⟩ := hI
    rw [List.getElem?_map] at hx
    obtain ⟨ds, hds, rfl⟩ := Option.map_eq_some_iff.mp hx
    have hi := hb ds (List.mem_of_getElem? hds)
    have hdr : dss.drop i = ds :: dss.drop (i + 1) := by
      obtain ⟨hl, hg⟩ := List.getElem?_eq_some_iff.mp hds
      rw [List.drop_eq_getElem_cons hl, hg]
    rw [hdr] at he
    have hc := choose_lt (zs := zc) hi
    have Ga : gset (gset G a (.lst (zc.map .int))) b (.lst (bx.map .int)) a = some (.lst (zc.map .int)) := by rw [gset_ne (Ne.symm nba), gset_same]
    have Gb : ∀ o, gset (gset G a o) b (.lst (bx.map .int)) b = some (.lst (bx.map .int)) := fun o => gset_same
    have il : i < dss.length := (List.getElem?_eq_some_iff.mp hds).1
    subst hg htb
    walk_at "pv"
    refine seq_gen fun K2 k2 => ?_
    walk_at "pv"
    refine ⟨.ref a, zc, ds, rfl, ownL_of Ga, by rw [hz]; exact hi, k2 _ _ ?_⟩
    clear k2
    refine seq_gen fun K2 k2 => ?_
    walk_at "pv"
    refine rIx_seq (ownL_of Ga) (atI_map hc.1 (by rw [hz]; exact hc.2)) ?_
    walk_at "pv"
    refine rSet_lst Ga (ixN_in hc.1 (by rw [List.length_map, hz]; exact hc.2)) (k2 _ _ ?_)
    clear k2
    have eG : gset (gset (gset G a (.lst (zc.map .int))) b (.lst (bx.map .int))) a (.lst ((zc.map .int).set (choose zc ds).toNat (.int (atZ zc (choose zc ds) + 1)))) = gset (gset G a (.lst ((incAt zc (choose zc ds)).map .int))) b (.lst (bx.map .int)) := by
      rw [gset_comm nba, gset_gset]
      unfold incAt
      rw [List.map_set]
    rw [eG]
    walk_at "pv"
    refine pBM_of (tyP_own (Gb _)) List.mem_cons_self ?_
    refine rAppend_of (Gb _) (small' (by rw [List.length_map]; omega)) ?_
    refine ⟨incAt zc (choose zc ds), bx ++ [choose zc ds], _, _, rfl, ?_, by rw [incAt_len, hz], by rw [List.length_append, hbl]; rfl, ?_⟩
    · rw [gset_gset, List.map_append]
      rfl
    · rw [he]
      show ((byDraws (incAt zc (choose zc ds)) (dss.drop (i + 1))).1, bx ++ (choose zc ds :: _)) = _
      rw [List.append_cons]
  · obtain ⟨zc, bx, x4, x5, rfl, rfl, hz, hbl, he⟩ := hI
    rw [List.length_map, List.drop_length] at he
    have e1 : (byDraws zs dss).1 = zc := by rw [he]; rfl
    have e2 : (byDraws zs dss).2 = bx := by rw [he]; exact List.append_nil _
    have Ga : gset (gset G a (.lst (zc.map .int))) b (.lst (bx.map .int)) a = some (.lst (zc.map .int)) := by rw [gset_ne (Ne.symm nba), gset_same]
    refine k1 _ _ ?_
    clear k1
    walk_at "pv"
    refine rTuple_of (ownL_of Ga) ⟨small (show 2 ≤ 10000000 by decide), gset G b (.lst (bx.map .int)), Sub.set (Sub.new ha), ?_⟩
    have := q b nb
    rw [e1, e2] at this
    exact this
theorem tI_pl (zs : List Int) : (tI zs).pl = true := by
  unfold tI
  simp only [PV.pl]
  exact plA_map _ (fun i => by simp only [PV.pl]) zs
theorem ints_pl (zs : List Int) : plA (zs.map .int) = true := plA_map _ (fun i => by simp only [PV.pl]) zs
theorem ints_dep (zs : List Int) : depA (zs.map .int) ≤ 0 := depA_le _ 0 (fun i => by simp only [PV.dep]; omega) zs
theorem tI_dep (zs : List Int) : (tI zs).dep ≤ 1 := by
  unfold tI
  simp only [PV.dep]
  have := ints_dep zs
  omega
theorem chooseGo_mem : ∀ (zs : List Int) (b : Int) (ds : List Int), chooseGo zs b ds = b ∨ chooseGo zs b ds ∈ ds
  | zs, b, [] => .inl rfl
  | zs, b, d :: r => by
    unfold chooseGo
    split
    · rcases chooseGo_mem zs d r with h | h
      · rw [h]; exact .inr List.mem_cons_self
      · exact .inr (List.mem_cons_of_mem _ h)
    · rcases chooseGo_mem zs b r with h | h
      · exact .inl h
      · exact .inr (List.mem_cons_of_mem _ h)
theorem choose_mem {zs ds : List Int} (h : ds ≠ []) : choose zs ds ∈ ds := by
  cases ds with
  | nil => exact absurd rfl h
  | cons d r =>
    rcases chooseGo_mem zs d (d :: r) with h | h
    · rw [show choose zs (d :: r) = d from h]; exact List.mem_cons_self
    · exact h
/-- the first place of the least -/
theorem chooseGo_le : ∀ (zs : List Int) (b : Int) (ds : List Int), atZ zs (chooseGo zs b ds) ≤ atZ zs b ∧ ∀ d ∈ ds, atZ zs (chooseGo zs b ds) ≤ atZ zs d
  | zs, b, [] => ⟨Int.le_refl _, fun d h => (by cases h)⟩
  | zs, b, d :: r => by
    unfold chooseGo
    split
    · rename_i c
      obtain ⟨h1, h2⟩ := chooseGo_le zs d r
      refine ⟨by omega, fun x hx => ?_⟩
      rcases List.mem_cons.mp hx with rfl | hx
      · exact h1
      · exact h2 x hx
    · rename_i c
      obtain ⟨h1, h2⟩ := chooseGo_le zs b r
      refine ⟨h1, fun x hx => ?_⟩
      rcases List.mem_cons.mp hx with rfl | hx
      · omega
      · exact h2 x hx
/-- ahead of its own place all are greater -/
theorem chooseGo_first : ∀ (zs : List Int) (b : Int) (ds : List Int), (∀ d ∈ ds.takeWhile (fun d => !decide (d = chooseGo zs b ds)), atZ zs (chooseGo zs b ds) < atZ zs d) ∨ (chooseGo zs b ds = b ∧ ∀ d ∈ ds, atZ zs b ≤ atZ zs d)
  | zs, b, [] => .inr ⟨rfl, fun d h => (by cases h)⟩
  | zs, b, d :: r => by
    unfold chooseGo
    by_cases c : atZ zs d < atZ zs b
    · rw [if_pos c]
      rcases chooseGo_first zs d r with h | ⟨h1, h2⟩
      · by_cases e : d = chooseGo zs d r
        · refine .inl fun x hx => ?_
          rw [List.takeWhile_cons, ← e] at hx
          simp at hx
        · refine .inl fun x hx => ?_
          rw [List.takeWhile_cons, decide_eq_false e] at hx
          rcases List.mem_cons.mp (by simpa using hx) with rfl | hx
          · have hle := (chooseGo_le zs x r).1
            by_cases ee : atZ zs (chooseGo zs x r) = atZ zs x
            · -- then x itself would have been kept
              exact absurd (keep zs x r ee) (fun z => e z.symm)
            · omega
          · exact h x (by simpa using hx)
      · refine .inl fun x hx => ?_
        rw [List.takeWhile_cons, h1] at hx
        simp at hx
    · rw [if_neg c]
      rcases chooseGo_first zs b r with h | ⟨h1, h2⟩
      · by_cases ek : chooseGo zs b r = b
        · by_cases hall : ∀ x ∈ r, atZ zs b ≤ atZ zs x
          · exact .inr ⟨ek, fun x hx => by
              rcases List.mem_cons.mp hx with rfl | hx
              · omega
              · exact hall x hx⟩
          · exfalso
            apply hall
            intro x hx
            have := (chooseGo_le zs b r).2 x hx
            rw [ek] at this
            exact this
        · have hlt : atZ zs (chooseGo zs b r) < atZ zs b := by
            have hle := (chooseGo_le zs b r).1
            by_cases ee : atZ zs (chooseGo zs b r) = atZ zs b
            · exact absurd (keep zs b r ee) ek
            · omega
          refine .inl fun x hx => ?_
          by_cases e : d = chooseGo zs b r
          · rw [List.takeWhile_cons, decide_eq_true e] at hx
            simp at hx
          · rw [List.takeWhile_cons, decide_eq_false e] at hx
            rcases List.mem_cons.mp (by simpa using hx) with rfl | hx
            · omega
            · exact h x (by simpa using hx)
      · exact .inr ⟨h1, fun x hx => by
          rcases List.mem_cons.mp hx with rfl | hx
          · omega
          · exact h2 x hx⟩
where keep : ∀ (zs : List Int) (b : Int) (ds : List Int), atZ zs (chooseGo zs b ds) = atZ zs b → chooseGo zs b ds = b
  | zs, b, [], _ => rfl
  | zs, b, d :: r, e => by
    unfold chooseGo at e ⊢
    by_cases c : atZ zs d < atZ zs b
    · rw [if_pos c] at e
      have := (chooseGo_le zs d r).1
      omega
    · rw [if_neg c] at e ⊢
      exact keep zs b r e
end K54
end

section
namespace K54
open PySem PL
open L2 (atI ixN atI_nat upd Key)
local macro_rules | `(tactic| walk_at "pv") => `(tactic| dsimp only [pVar, pC, pUn, pOp, pNil, pCons, pCB, pTup, pLst, pOwn, pFrz, pDrop, pRet, pRetN, pIf, pSet, pAsg, pgName, pgNil, pgCons, pgTup, pgSub, pTb, pAnd, pOr, pNot, pAndV, pOrV, pNotV, pIfE, pCall, pNext, pISeq, pRng1, pRng2, pSl, pNoPart, pPart, pBM, pFrzT, pYes, wipeE,
  rAdd_ii, rSub_ii, rMul_ii, rFdiv_ii, rMod_ii, rPow_ii, rLt_ii, rLe_ii, rGt_ii, rGe_ii, rEq_ii, rNe_ii, rEq_ss, rNe_ss, rNeg_i, rAbs_i, rMin_ii, rMax_ii, rInt_i, rInt_b,
  List.getElem?_cons_zero, List.getElem?_cons_succ, List.set_cons_zero, List.set_cons_succ, List.length_cons, List.length_nil])
variable {P : Program} {w : World} {K : PySem.W.Frag} {mg : Str → Option Value} {base : Heap}
theorem choose_idx {zs ds : List Int} (h : ds ≠ []) : ds.idxOf (choose zs ds) = (ds.map (atZ zs)).idxOf (atZ zs (choose zs ds)) := by
  cases ds with
  | nil => exact absurd rfl h
  | cons d r =>
    rcases chooseGo_first zs d (d :: r) with h | ⟨h1, h2⟩
    · exact idxOf_map h (choose_mem (List.cons_ne_nil d r))
    · have e : choose zs (d :: r) = d := h1
      rw [e, List.map_cons, List.idxOf_cons, List.idxOf_cons]
      simp
theorem seq_map {G : GH} {s : PV} {zs : List Int} (hs : seqOf G s = some (zs.map .int)) : ∀ G', Sub G G' → seqOf G' s = some (zs.map .int) := fun G' hg => by
  cases s with
  | ref a => exact ownL_of (hg _ _ (ownL_eq (show ownL G a = _ from hs)))
  | tup _ => exact hs
  | lst _ => exact hs
  | scr _ => exact hs
  | _ => exact hs
theorem ok_l_step_right (T : Txt K mg) (C : Ok_l_is_whole P w K mg base T) : Ok_l_step_right P w K mg base T := by
  refine def_by T.F_l_step_right sc_l_step_right (d_l_step_right T C) fun xs G Q Ex h => ?_
  obtain ⟨s, zs, ds, rfl, hs, hb, hl, q⟩ := h
  refine ⟨rfl, ?_⟩
  have hm := choose_mem (zs := zs) hb.1
  show t_l_step_right _ [some s, some (tI ds), some (.int (choose zs ds)), none, none] G
  unfold t_l_step_right
  refine seq_gen fun K1 k1 => ?_
  walk_at "pv"
  refine ⟨.int (choose zs ds), "int", rfl, rfl, ?_⟩
  walk_at "pv"
  refine ⟨rfl, allFlat_int ds, ?_⟩
  rw [any_int ds, decide_eq_true hm]
  refine k1 _ _ ?_
  clear k1
  refine seq_gen fun K1 k1 => ?_
  unfold pSet
  refine lc_gen fun g' tt' te' P' hg htt hte hP => ?_
  walk_at "pv"
  refine iseq_of rfl fun D hD => ?_
  refine lc_allF .int (fun d => .int (atZ zs d)) ds rfl hD (small' (by omega)) (fun d hd G2 Ky Kn hsub h1 => ?_) ?_
  · subst hg htt hte
    unfold lcTurn
    walk_at "pv"
    exact rIx_seq (seq_map hs G2 hsub) (atI_map (hb.2 d hd).1 (hb.2 d hd).2) h1
  · subst hP
    refine k1 _ _ ?_
    clear k1
    rw [show ds.map (fun d => PV.int (atZ zs d)) = (ds.map (atZ zs)).map .int by rw [List.map_map]; rfl]
    walk_at "pv"
    show _ ∧ _
    refine ⟨List.mem_cons_of_mem _ List.mem_cons_self, ?_⟩
    refine rIdx_t (rIdxT_int hm ?_)
    show _ ∧ _
    refine ⟨List.mem_cons_self, ?_⟩
    refine rMin_int (by rw [List.length_map]; exact List.length_pos_iff.mpr hb.1) fun m h1 h2 => ?_
    have em : m = atZ zs (choose zs ds) := by
      obtain ⟨d, hd, rfl⟩ := List.mem_map.mp h1
      have a1 := h2 _ (List.mem_map.mpr ⟨_, hm, rfl⟩)
      have a2 : atZ zs (choose zs ds) ≤ atZ zs d := by
        cases ds with
        | nil => cases hd
        | cons x r => exact (chooseGo_le zs x (x :: r)).2 d hd
      omega
    refine rIdx_l (rIdxL_int rfl h1 ?_)
    walk_at "pv"
    rw [em, ← choose_idx hb.1, decide_eq_true rfl]
    exact q
theorem IsPen.mono {n m : Int} {o : GO} (h : IsPen n o) (l : n ≤ m) : IsPen m o := by
  obtain ⟨cs, t, x, e, h1, h2, h3, h4⟩ := h
  exact ⟨cs, t, x, e, h1, h2, by omega, h4⟩
theorem ok_l_stand (T : Txt K mg) (C : Ok_l_draw P w K mg base T) : Ok_l_stand P w K mg base T := by
  refine def_by T.F_l_stand sc_l_stand (d_l_stand T C) fun xs G Q Ex h => ?_
  obtain ⟨p, m, n, k, o, rfl, n1, n6, m0, m6, hG, hP, hk, q⟩ := h
  refine ⟨rfl, ?_⟩
  show t_l_stand _ [some (.ref p), some (.int n), some (.int m), none, none, none, none] G
  unfold t_l_stand
  refine seq_gen fun K1 k1 => ?_
  walk_at "pv"
  refine ⟨p, 4, k, o, rfl, by decide, by decide, hG, hP, by omega, fun way o1 w0 w4 hP1 => k1 _ _ ?_⟩
  clear k1
  have hG1 : gset G p o1 p = some o1 := gset_same
  refine seq_gen fun K1 k1 => ?_
  unfold pSet
  refine lc_gen fun g' tt' te' P' hg htt hte hP => ?_
  walk_at "pv"
  refine ⟨by omega, by omega, fun D hD => ?_⟩
  have pD : p ≠ D := gne hG1 hD
  refine lc_stF n.toNat (fun i => .int (0 + (i : Nat))) (fun i o => IsPen (k + 1 + i) o) (fun _ y => ∃ z : Int, y = .int z ∧ 0 ≤ z ∧ z ≤ m) hD hG1 (by simpa using hP1) (small' (by omega)) (fun i G hi => itR_item hi) (fun G => Nat.le_refl _) (fun i G2 o2 Ky Kn hi hG2 hS hoth hky => ?_) (fun ys o2 hyl hyR hS => ?_)
  · subst hg htt hte
    unfold lcTurn
    walk_at "pv"
    refine ⟨p, m + 1, k + 1 + i, o2, rfl, by omega, by omega, hG2, hS, by omega, fun r o3 r0 r1 hP3 => hky _ _ ⟨r, rfl, r0, by omega⟩ ?_⟩
    exact hP3.mono (by omega)
  · subst hP
    refine k1 _ _ ?_
    clear k1
    rw [gset_gset]
    obtain ⟨zs, rfl⟩ : ∃ zs : List Int, ys = zs.map .int := ints_of fun y hy => by
      obtain ⟨i, hi⟩ := List.getElem?_of_mem hy
      obtain ⟨z, e, _⟩ := hyR i y hi
      exact ⟨z, e⟩
    have hzR : ∀ z ∈ zs, 0 ≤ z ∧ z ≤ m := fun z hz => by
      obtain ⟨i, hi⟩ := List.getElem?_of_mem hz
      obtain ⟨z', e, h⟩ := hyR i (.int z) (by rw [List.getElem?_map, hi]; rfl)
      cases e
      exact h
    rw [List.length_map] at hyl
    have hzl : (zs.length : Int) = n := by omega
    have fin : ∀ zs' : List Int, zs'.length = zs.length → (∀ z ∈ zs', 0 ≤ z ∧ z ≤ 6) → Q (tI zs') (gset G p o2) := fun zs' h1 h2 => q zs' o2 (by omega) h2 (hS.mono (by omega))
    obtain ⟨z0, zr, rfl⟩ : ∃ z0 zr, zs = z0 :: zr := by
      cases zs with
      | nil => simp at hzl; omega
      | cons a b => exact ⟨a, b, rfl⟩
    have hz0 := hzR z0 List.mem_cons_self
    have rep : ∀ z : Int, (List.replicate n.toNat [PV.int z]).flatten = (List.replicate n.toNat z).map .int := fun z => by
      generalize n.toNat = j
      induction j with
      | zero => rfl
      | succ j ih => rw [List.replicate_succ, List.flatten_cons, ih, List.replicate_succ]; rfl
    have rest : ∀ K2 : PEn → GH → Prop, True := fun _ => trivial
    refine seq_gen fun K1 k1 => ?_
    walk_at "pv"
    refine ite_dec (fun c => ?_) fun c => k1 _ _ ?_
    · refine ⟨small (show 1 ≤ 10000000 by decide), ?_⟩
      refine ⟨List.cons_ne_nil _ _, n1, by omega, (by decide : 1 ≤ 1000), ?_⟩
      rw [rep]
      exact fin _ (by rw [List.length_replicate]; omega) fun z hz => by rw [(List.mem_replicate.mp hz).2]; decide
    clear k1
    refine seq_gen fun K1 k1 => ?_
    walk_at "pv"
    refine ite_dec (fun c => ?_) fun c => k1 _ _ ?_
    · refine rIx_seq (xs := (z0 :: zr).map .int) rfl (atI_nat (j := 0) rfl) ⟨small (show 1 ≤ 10000000 by decide), List.cons_ne_nil _ _, n1, by omega, (by decide : 1 ≤ 1000), ?_⟩
      rw [rep]
      exact fin _ (by rw [List.length_replicate]; omega) fun z hz => by rw [(List.mem_replicate.mp hz).2]; omega
    clear k1
    refine seq_gen fun K1 k1 => ?_
    walk_at "pv"
    refine ite_dec (fun c => ?_) fun c => k1 _ _ ?_
    · refine lc_gen fun g' tt' te' P' hg htt hte hP => ?_
      walk_at "pv"
      refine iseq_of rfl fun D hD => ?_
      refine lc_allF .int (fun d => .int (d % 3)) (z0 :: zr) rfl hD (small' (by omega)) (fun d hd G2 Ky Kn hsub h1 => ?_) ?_
      · subst hg htt hte
        unfold lcTurn
        walk_at "pv"
        exact ⟨by decide, h1⟩
      · subst hP
        rw [show (z0 :: zr).map (fun d => PV.int (d % 3)) = ((z0 :: zr).map (· % 3)).map .int by rw [List.map_map]; rfl]
        refine rTuple_of rfl (fin _ (by rw [List.length_map]) fun z hz => ?_)
        obtain ⟨d, _, rfl⟩ := List.mem_map.mp hz
        omega
    clear k1
    walk_at "pv"
    exact rTuple_of rfl (fin _ rfl fun z hz => by have := hzR z hz; omega)
end K54
end

section
namespace K54
open PySem PL
open L2 (atI ixN atI_nat upd Key)
local macro_rules | `(tactic| walk_at "pv") => `(tactic| dsimp only [pVar, pC, pUn, pOp, pNil, pCons, pCB, pTup, pLst, pOwn, pFrz, pDrop, pRet, pRetN, pIf, pSet, pAsg, pgName, pgNil, pgCons, pgTup, pgSub, pTb, pAnd, pOr, pNot, pAndV, pOrV, pNotV, pIfE, pCall, pNext, pISeq, pRng1, pRng2, pSl, pNoPart, pPart, pBM, pFrzT, pYes, wipeE,
  rAdd_ii, rSub_ii, rMul_ii, rFdiv_ii, rMod_ii, rPow_ii, rLt_ii, rLe_ii, rGt_ii, rGe_ii, rEq_ii, rNe_ii, rEq_ss, rNe_ss, rNeg_i, rAbs_i, rMin_ii, rMax_ii, rInt_i, rInt_b,
  List.getElem?_cons_zero, List.getElem?_cons_succ, List.set_cons_zero, List.set_cons_succ, List.length_cons, List.length_nil])
variable {P : Program} {w : World} {K : PySem.W.Frag} {mg : Str → Option Value} {base : Heap}
theorem own_ab' {G : GH} {a b : Addr} {x : GO} (ha : G a = some x) (hb : G b = none) : b ≠ a := fun e => by
  subst e
  rw [ha] at hb
  cases hb
theorem ok_l_draws (T : Txt K mg) (C : Ok_l_draw P w K mg base T) : Ok_l_draws P w K mg base T := by
  refine def_by T.F_l_draws sc_l_draws (d_l_draws T C) fun xs G Q Ex h => ?_
  obtain ⟨p, n, k, o, rfl, n1, n6, hG, hP, hk, q⟩ := h
  refine ⟨rfl, ?_⟩
  show t_l_draws _ [some (.ref p), some (.int n), some (.int 60), none, none, none, none, none, none, none] G
  unfold t_l_draws
  refine seq_gen fun K1 k1 => ?_
  walk_at "pv"
  refine ⟨p, 5, k, o, rfl, by decide, by decide, hG, hP, by omega, fun way o1 w0 w5 hP1 => k1 _ _ ?_⟩
  clear k1
  refine seq_gen fun K1 k1 => ?_
  walk_at "pv"
  refine ⟨p, 4, k + 1, o1, rfl, by decide, by decide, gset_same, hP1, by omega, fun size o2 s0 s4 hP2 => k1 _ _ ?_⟩
  clear k1
  rw [gset_gset]
  refine seq_gen fun K1 k1 => ?_
  walk_at "pv"
  refine ⟨p, 61, k + 2, o2, rfl, by decide, by decide, gset_same, by rw [show k + 2 = k + 1 + 1 by omega]; exact hP2, by omega, fun many o3 m0 m61 hP3 => ?_⟩
  rw [gset_gset]
  refine ⟨small (show 5 ≤ 10000000 by decide), ?_⟩
  obtain ⟨mm, em, mm0, mm60⟩ : ∃ mm : Int, atI [PV.int 0, .int 1, .int 2, .int 60, .int many] way = some (.int mm) ∧ 0 ≤ mm ∧ mm ≤ 60 := by
    have : way = 0 ∨ way = 1 ∨ way = 2 ∨ way = 3 ∨ way = 4 := by omega
    rcases this with rfl | rfl | rfl | rfl | rfl
    · exact ⟨0, rfl, by decide, by decide⟩
    · exact ⟨1, rfl, by decide, by decide⟩
    · exact ⟨2, rfl, by decide, by decide⟩
    · exact ⟨60, rfl, by decide, by decide⟩
    · exact ⟨many, rfl, m0, by omega⟩
  refine rIx_seq (xs := [.int 0, .int 1, .int 2, .int 60, .int many]) rfl em (k1 _ _ ?_)
  clear k1
  refine seq_gen fun K1 k1 => ?_
  walk_at "pv"
  refine ⟨Nat.zero_le _, fun b hb => k1 _ _ ?_⟩
  clear k1
  have nb := none_of_set hb
  have bp : b ≠ p := own_ab' hG nb
  refine seq_gen fun K1 k1 => ?_
  refine for_gen fun g' tb' hg htb => ?_
  walk_at "pv"
  refine ⟨by omega, by omega, ?_⟩
  refine for_r (fun i env G' => ∃ (dss : List (List Int)) (o' : GO) (x7 x8 x9 : Option PV), env = [some (.ref p), some (.int n), some (.int 60), some (.int way), some (.int size), some (.int mm), some (.ref b), x7, x8, x9] ∧ G' = gset (gset G p o') b (.lst (dss.map tI)) ∧ dss.length = i ∧ AllB n.toNat dss ∧ (∀ ds ∈ dss, ds.length ≤ 3) ∧ IsPen (k + 3 + 4 * i) o') ⟨[], o3, none, none, none, rfl, rfl, rfl, fun _ h => (by cases h), fun _ h => (by cases h), ?_⟩ (fun i env G' hi hI => ?_) fun env G' hI => ?_
  · rw [show k + 3 + 4 * ((0 : Nat) : Int) = k + 2 + 1 by omega]
    exact hP3
  · obtain ⟨dss, o', x7, x8, x9, rfl, rfl, hl, ha, h3, hP'⟩ := hI
    subst hg htb
    walk_at "pv"
    have Gp : gset (gset G p o') b (.lst (dss.map tI)) p = some o' := by rw [gset_ne (Ne.symm bp), gset_same]
    refine seq_gen fun K2 k2 => ?_
    unfold pSet
    refine lc_gen fun g' tt' te' P' hg htt hte hP => ?_
    walk_at "pv"
    refine ⟨p, 3, _, o', rfl, by decide, by decide, Gp, hP', by omega, fun r oa r0 r3 hPa => ?_⟩
    refine ⟨by omega, by omega, fun D hD => ?_⟩
    have Gp2 : gset (gset (gset G p o') b (.lst (dss.map tI))) p oa p = some oa := gset_same
    refine lc_stF (1 + r).toNat (fun i => .int (0 + (i : Nat))) (fun j o => IsPen (k + 3 + 4 * i + 1 + j) o) (fun _ y => ∃ z : Int, y = .int z ∧ 0 ≤ z ∧ z < n) hD Gp2 (by simpa using hPa) (small' (by omega)) (fun i G hi => itR_item hi) (fun G => Nat.le_refl _) (fun j G2 ob Ky Kn hj hG2 hS hoth hky => ?_) (fun ys ob hyl hyR hS => ?_)
    · subst hg htt hte
      unfold lcTurn
      walk_at "pv"
      refine ⟨p, n, k + 3 + 4 * i + 1 + j, ob, rfl, by omega, by omega, hG2, hS, by omega, fun r oc r0 r1 hP3 => hky _ _ ⟨r, rfl, r0, by omega⟩ ?_⟩
      exact hP3.mono (by omega)
    · subst hP
      refine k2 _ _ ?_
      clear k2
      rw [gset_gset]
      obtain ⟨ds, rfl⟩ : ∃ zs : List Int, ys = zs.map .int := ints_of fun y hy => by
        obtain ⟨i, hi⟩ := List.getElem?_of_mem hy
        obtain ⟨z, e, _⟩ := hyR i y hi
        exact ⟨z, e⟩
      have hzR : ∀ z ∈ ds, 0 ≤ z ∧ z < n := fun z hz => by
        obtain ⟨i, hi⟩ := List.getElem?_of_mem hz
        obtain ⟨z', e, h⟩ := hyR i (.int z) (by rw [List.getElem?_map, hi]; rfl)
        cases e
        exact h
      rw [List.length_map] at hyl
      have Gb : gset (gset (gset G p o') b (.lst (dss.map tI))) p ob b = some (.lst (dss.map tI)) := by rw [gset_ne bp, gset_same]
      refine seq_gen fun K3 k3 => ?_
      have fin : ∀ es : List Int, es ≠ [] → es.length ≤ 3 → (∀ z ∈ es, 0 ≤ z ∧ z < n) → ∀ x9', K3 [some (.ref p), some (.int n), some (.int 60), some (.int way), some (.int size), some (.int mm), some (.ref b), some (.int (0 + (i : Nat))), some (.lst (es.map .int)), x9'] (gset (gset (gset G p o') b (.lst (dss.map tI))) p ob) := fun es e1 e2 e3 x9' => by
        refine k3 _ _ ?_
        clear k3
        walk_at "pv"
        refine pBM_of (tyP_own Gb) List.mem_cons_self ?_
        refine rTuple_of rfl ?_
        refine rAppend_of Gb (small' (by rw [List.length_map]; omega)) ?_
        refine ⟨dss ++ [es], ob, _, _, _, rfl, ?_, by rw [List.length_append, hl]; rfl, ?_, ?_, ?_⟩
        · rw [gset_4 bp, List.map_append]
          rfl
        · intro ds' hd
          rcases List.mem_append.mp hd with h | h
          · exact ha _ h
          · rw [List.mem_singleton.mp h]
            exact ⟨e1, fun d hd => ⟨(e3 d hd).1, by have := (e3 d hd).2; omega⟩⟩
        · intro ds' hd
          rcases List.mem_append.mp hd with h | h
          · exact h3 _ h
          · rw [List.mem_singleton.mp h]
            exact e2
        · refine hS.mono ?_
          omega
      walk_at "pv"
      refine ite_dec (fun c => ?_) fun c => fin ds (fun e => by rw [e] at hyl; simp at hyl; omega) (by omega) hzR _
      refine ⟨by decide, by decide, small ?_, ?_⟩
      · rw [List.length_map]
        show ds.length * 3 ≤ _
        omega
      have e : (List.replicate (3 : Int).toNat (ds.map PV.int)).flatten = (ds ++ ds ++ ds).map .int := by
        show ((ds.map PV.int) ++ ((ds.map PV.int) ++ ((ds.map PV.int) ++ []))) = _
        simp
      rw [e]
      refine rSl_lst ?_
      rw [cutP_take_i (by omega), ← List.map_take]
      refine fin _ (fun e => ?_) (by rw [List.length_take]; omega) (fun z hz => ?_) _
      · have : ((ds ++ ds ++ ds).take (size + 1).toNat).length = 0 := by rw [e]; rfl
        rw [List.length_take, List.length_append, List.length_append] at this
        omega
      · have := List.mem_of_mem_take hz
        rcases List.mem_append.mp this with h | h
        · rcases List.mem_append.mp h with h | h
          · exact hzR z h
          · exact hzR z h
        · exact hzR z h
  · obtain ⟨dss, o', x7, x8, x9, rfl, rfl, hl, ha, h3, hP'⟩ := hI
    refine k1 _ _ ?_
    walk_at "pv"
    refine rFrz_of gset_same ?_
    rw [gdel_gset (by rw [gset_ne bp]; exact nb)]
    exact q dss o' (by omega) ha h3 (hP'.mono (by omega))
end K54
end

section
namespace K54
open PySem PL
open L2 (atI ixN atI_nat upd Key)
local macro_rules | `(tactic| walk_at "pv") => `(tactic| dsimp only [pVar, pC, pUn, pOp, pNil, pCons, pCB, pTup, pLst, pOwn, pFrz, pDrop, pRet, pRetN, pIf, pSet, pAsg, pgName, pgNil, pgCons, pgTup, pgSub, pTb, pAnd, pOr, pNot, pAndV, pOrV, pNotV, pIfE, pCall, pNext, pISeq, pRng1, pRng2, pSl, pNoPart, pPart, pBM, pFrzT, pYes, wipeE, pgTup, pairP, pZip,
  rAdd_ii, rSub_ii, rMul_ii, rFdiv_ii, rMod_ii, rPow_ii, rLt_ii, rLe_ii, rGt_ii, rGe_ii, rEq_ii, rNe_ii, rEq_ss, rNe_ss, rNeg_i, rAbs_i, rMin_ii, rMax_ii, rInt_i, rInt_b,
  List.getElem?_cons_zero, List.getElem?_cons_succ, List.set_cons_zero, List.set_cons_succ, List.length_cons, List.length_nil])
variable {P : Program} {w : World} {K : PySem.W.Frag} {mg : Str → Option Value} {base : Heap}
theorem byDraws_app : ∀ (a b : List (List Int)) (zs : List Int), byDraws zs (a ++ b) = ((byDraws (byDraws zs a).1 b).1, (byDraws zs a).2 ++ (byDraws (byDraws zs a).1 b).2)
  | [], b, zs => rfl
  | d :: a, b, zs => by
    show ((byDraws _ (a ++ b)).1, _ :: (byDraws _ (a ++ b)).2) = _
    rw [byDraws_app a b]
    rfl
theorem byDraws_len : ∀ (a : List (List Int)) (zs : List Int), (byDraws zs a).2.length = a.length ∧ (byDraws zs a).1.length = zs.length
  | [], zs => ⟨rfl, rfl⟩
  | d :: a, zs => by
    obtain ⟨h1, h2⟩ := byDraws_len a (incAt zs (choose zs d))
    exact ⟨congrArg (· + 1) h1, by show (byDraws _ a).1.length = _; rw [h2, incAt_len]⟩
theorem ok_l_right (T : Txt K mg) (C1 : Ok_l_is_whole P w K mg base T) (C2 : Ok_l_step_right P w K mg base T) : Ok_l_right P w K mg base T := by
  refine def_byD T.F_l_right sc_l_right (d_l_right T C1 C2) fun xs G Q Ex h => ?_
  obtain ⟨zs, dss, y, rfl, hy, hty, ha, h3, hl, hzl, q⟩ := h
  refine ⟨rfl, ?_⟩
  obtain ⟨bl, zl⟩ := byDraws_len dss zs
  show t_l_right _ [some (tI zs), some (.lst (dss.map tI)), some (.tup [tI (byDraws zs dss).1, y]), none, none, none, none] G
  unfold t_l_right
  refine seq_gen fun K1 k1 => ?_
  walk_at "pv"
  refine rIsi_of (t := "tuple") rfl (by decide) ?_
  refine ite_f (by decide) ?_
  refine rLen_seq (xs := [tI (byDraws zs dss).1, y]) rfl ?_
  walk_at "pv"
  refine ite_f (by decide) ?_
  refine rIx_seq (xs := [tI (byDraws zs dss).1, y]) rfl (atI_nat (j := 1) rfl) (rIsi_of hty (by decide) ?_)
  refine ite_f (by decide) (k1 _ _ ?_)
  clear k1
  refine seq_gen fun K1 k1 => ?_
  walk_at "pv"
  refine rIx_seq (xs := [tI (byDraws zs dss).1, y]) rfl (atI_nat (j := 1) rfl) (rLen_seq (seqOf_lstS hy) (rLen_seq (xs := dss.map tI) rfl ?_))
  walk_at "pv"
  refine ite_f (by rw [List.length_map, List.length_map, bl]; simp) ?_
  refine rIx_seq (xs := [tI (byDraws zs dss).1, y]) rfl (atI_nat (j := 0) rfl) (rIsi_of (t := "tuple") rfl (by decide) ?_)
  refine ite_f (by decide) (k1 _ _ ?_)
  clear k1
  refine seq_gen fun K1 k1 => ?_
  walk_at "pv"
  refine rList_of (xs := zs.map .int) rfl fun a haa => k1 _ _ ?_
  clear k1
  refine seq_gen fun K1 k1 => ?_
  refine for_gen fun g' tb' hg htb => ?_
  walk_at "pv"
  refine rIx_seq (xs := [tI (byDraws zs dss).1, y]) rfl (atI_nat (j := 1) rfl) (zipA_of rfl (lstS_new hy haa) ?_)
  refine for_j (n := dss.length) (fun i env G' => ∃ (zc bx : List Int) (x4 x5 x6 : Option PV), env = [some (tI zs), some (.lst (dss.map tI)), some (.tup [tI (byDraws zs dss).1, y]), some (.ref a), x4, x5, x6] ∧ G' = gset G a (.lst (zc.map .int)) ∧ zc.length = zs.length ∧ bx.length = i ∧
    byDraws zs dss = ((byDraws zc (dss.drop i)).1, bx ++ (byDraws zc (dss.drop i)).2)) ⟨zs, [], none, none, none, rfl, rfl, rfl, rfl, rfl⟩ (fun i env G' hi hI => ?_) fun env G' hI => ?_
  · obtain ⟨zc, bx, x4, x5, x6, rfl, rfl, hz, hbx, he⟩ := hI
    have hdr : dss.drop i = dss[i] :: dss.drop (i + 1) := List.drop_eq_getElem_cons hi
    generalize hds : dss[i] = ds at hdr
    have hmem : ds ∈ dss := by rw [← hds]; exact List.getElem_mem hi
    have hb := ha ds hmem
    rw [← hz] at hb
    rw [hdr] at he
    have hc := choose_lt (zs := zc) hb
    have ebx : (byDraws zs dss).2[i]? = some (choose zc ds) := by
      rw [he]
      show (bx ++ (choose zc ds :: _))[i]? = _
      rw [List.getElem?_append_right (by omega), hbx, Nat.sub_self]
      rfl
    refine ⟨pairP (tI ds) (.int (choose zc ds)), ⟨_, _, _, _, rfl, lstS_new hy haa, ?_, ?_, rfl⟩, ?_⟩
    · rw [List.getElem?_map, List.getElem?_eq_getElem hi, hds]
      rfl
    · rw [List.getElem?_map, ebx]
      rfl
    subst hg htb
    walk_at "pv"
    refine ⟨rfl, ?_⟩
    refine seq_gen fun K2 k2 => ?_
    walk_at "pv"
    refine ⟨.ref a, zc, ds, rfl, ownL_of gset_same, hb, by have := h3 ds hmem; omega, ?_⟩
    walk_at "pv"
    refine ite_f (by decide) (k2 _ _ ?_)
    clear k2
    walk_at "pv"
    refine rIx_seq (ownL_of gset_same) (atI_map hc.1 hc.2) ?_
    walk_at "pv"
    refine rSet_lst gset_same (ixN_in hc.1 (by rw [List.length_map]; exact hc.2)) ?_
    refine ⟨incAt zc (choose zc ds), bx ++ [choose zc ds], _, _, _, rfl, ?_, by rw [incAt_len, hz], by rw [List.length_append, hbx]; rfl, ?_⟩
    · rw [gset_gset]
      unfold incAt
      rw [List.map_set]
    · rw [he]
      show ((byDraws (incAt zc (choose zc ds)) (dss.drop (i + 1))).1, bx ++ (choose zc ds :: _)) = _
      rw [List.append_cons]
  · obtain ⟨zc, bx, x4, x5, x6, rfl, rfl, hz, hbx, he⟩ := hI
    refine ⟨⟨_, _, rfl, lstS_new hy haa, .inl (by rw [List.length_map]; exact Nat.le_refl _)⟩, k1 _ _ ?_⟩
    clear k1
    rw [List.drop_length] at he
    have e1 : (byDraws zs dss).1 = zc := by rw [he]; rfl
    walk_at "pv"
    refine rIx_seq (xs := [tI (byDraws zs dss).1, y]) rfl (atI_nat (j := 0) rfl) (rTuple_of (ownL_of gset_same) ?_)
    rw [e1]
    refine rEq_pl (x' := tI zc) (y' := tI zc) (AsD.of (tI_pl _) (Nat.le_trans (tI_dep _) (by decide))) (AsD.of (tI_pl _) (Nat.le_trans (tI_dep _) (by decide))) (fun _ => ?_) fun h => absurd rfl h
    walk_at "pv"
    refine ite_t rfl ?_
    refine lc_gen fun g' tt' te' P' hg htt hte hP => ?_
    walk_at "pv"
    refine rIx_seq (xs := [tI zc, y]) rfl (atI_nat (j := 0) rfl) (iseq_of (xs := zc.map .int) rfl fun D hD => ?_)
    refine lc_allF .int (fun _ => .bl true) zc rfl hD (small' (by omega)) (fun d hd G2 Ky Kn hsub h1 => ?_) ?_
    · subst hg htt hte
      unfold lcTurn
      walk_at "pv"
      exact ⟨.int d, "int", rfl, rfl, h1⟩
    · subst hP
      refine rAll_true ?_
      exact ⟨G, Sub.new haa, q⟩
end K54
end

section
namespace K54
open PySem PL
open L2 (atI ixN atI_nat upd Key)
local macro_rules | `(tactic| walk_at "pv") => `(tactic| dsimp only [pVar, pC, pUn, pOp, pNil, pCons, pCB, pTup, pLst, pOwn, pFrz, pDrop, pRet, pRetN, pIf, pSet, pAsg, pgName, pgNil, pgCons, pgTup, pgSub, pTb, pAnd, pOr, pNot, pAndV, pOrV, pNotV, pIfE, pCall, pNext, pISeq, pRng1, pRng2, pSl, pNoPart, pPart, pBM, pFrzT, pYes, wipeE, pgTup, pairP, pZip,
  rAdd_ii, rSub_ii, rMul_ii, rFdiv_ii, rMod_ii, rPow_ii, rLt_ii, rLe_ii, rGt_ii, rGe_ii, rEq_ii, rNe_ii, rEq_ss, rNe_ss, rNeg_i, rAbs_i, rMin_ii, rMax_ii, rInt_i, rInt_b,
  List.getElem?_cons_zero, List.getElem?_cons_succ, List.set_cons_zero, List.set_cons_succ, List.length_cons, List.length_nil])
variable {P : Program} {w : World} {K : PySem.W.Frag} {mg : Str → Option Value} {base : Heap}
theorem stand_sm {zs : List Int} (h : ∀ z ∈ zs, 0 ≤ z ∧ z ≤ 6) : (tI zs).sm = true := by
  unfold tI
  simp only [PV.sm]
  refine smA_mem fun x hx => ?_
  obtain ⟨z, hz, rfl⟩ := List.mem_map.mp hx
  have := h z hz
  simp only [PV.sm, decide_eq_true_eq]
  omega
theorem tI_wt (zs : List Int) : (tI zs).wt ≤ zs.length * 41 := by
  unfold tI
  simp only [PV.wt]
  have := wtA_mem (n := 40) (xs := zs.map PV.int) fun x hx => by
    obtain ⟨z, hz, rfl⟩ := List.mem_map.mp hx
    simp only [PV.wt]; omega
  rwa [List.length_map] at this
theorem dss_pl (dss : List (List Int)) : (PV.lst (dss.map tI)).pl = true := by
  simp only [PV.pl]
  exact plA_map _ tI_pl dss
theorem dss_dep (dss : List (List Int)) : (PV.lst (dss.map tI)).dep ≤ 2 := by
  simp only [PV.dep]
  have := depA_le tI 1 tI_dep dss
  omega
theorem pair_facts {zs : List Int} {dss : List (List Int)} (h : ∀ z ∈ zs, 0 ≤ z ∧ z ≤ 6) (hz : zs.length ≤ 6) (h2 : AllB 6 dss) (h3 : ∀ ds ∈ dss, ds.length ≤ 3) (hl : dss.length ≤ 60) :
    (PV.tup [tI zs, .lst (dss.map tI)]).sm = true ∧ (PV.tup [tI zs, .lst (dss.map tI)]).dep ≤ 64 ∧ (PV.tup [tI zs, .lst (dss.map tI)]).wt ≤ 600000 := by
  refine ⟨?_, ?_, ?_⟩
  · have e : (PV.lst (dss.map tI)).sm = true := by
      simp only [PV.sm]
      refine smA_mem fun x hx => ?_
      obtain ⟨ds, hd, rfl⟩ := List.mem_map.mp hx
      exact stand_sm fun z hz => by have := (h2 ds hd).2 z hz; omega
    simp only [PV.sm, smA, stand_sm h]
    simpa only [PV.sm, Bool.true_and, Bool.and_true] using e
  · have h1 := tI_dep zs
    have h2 := dss_dep dss
    show PV.dep (.tup _) ≤ 64
    simp only [PV.dep, depA] at h2 ⊢
    omega
  · have h1 := tI_wt zs
    have e : (PV.lst (dss.map tI)).wt ≤ dss.length * (123 + 1) := by
      simp only [PV.wt]
      have := wtA_mem (n := 123) (xs := dss.map tI) fun x hx => by
        obtain ⟨ds, hd, rfl⟩ := List.mem_map.mp hx
        have := tI_wt ds
        have := h3 ds hd
        omega
      rwa [List.length_map] at this
    have e2 : (PV.tup [tI zs, .lst (dss.map tI)]).wt = (tI zs).wt + 1 + ((PV.lst (dss.map tI)).wt + 1 + 0) := by
      show PV.wt (.tup _) = _
      simp only [PV.wt, wtA]
    rw [e2]
    omega
theorem pairR_pl (zs bs : List Int) : (PV.tup [tI zs, .lst (bs.map .int)]).pl = true := by
  simp only [PV.pl, plA, tI_pl, ints_pl, Bool.and_self]
theorem pairR_dep (zs bs : List Int) : (PV.tup [tI zs, .lst (bs.map .int)]).dep ≤ 64 := by
  have h1 := tI_dep zs
  have h2 := ints_dep bs
  simp only [PV.dep, depA]
  omega
theorem lI_as {G : GH} (bs : List Int) : AsD G (.lst (bs.map .int)) (.lst (bs.map .int)) := AsD.of (by simp only [PV.pl, ints_pl]) (by have := ints_dep bs; simp only [PV.dep]; omega)
theorem ok_law (T : Txt K mg) (C1 : Ok_by_draws P w K mg base T) (C2 : Ok_l_pen P w K mg base T) (C3 : Ok_l_draw P w K mg base T) (C4 : Ok_l_stand P w K mg base T) (C5 : Ok_l_draws P w K mg base T) (C6 : Ok_l_right P w K mg base T) : Ok_law P w K mg base T := by
  refine def_by T.F_law sc_law (d_law T C1 C2 C3 C4 C5 C6) fun xs G Q Ex h => ?_
  obtain ⟨ns, rfl, hn, q⟩ := h
  refine ⟨rfl, ?_⟩
  show t_law _ [some (.scr ns), none, none, none, none, none, none, none, none, none, none] G
  unfold t_law
  refine seq_gen fun K1 k1 => ?_
  walk_at "pv"
  refine ⟨ns, rfl, fun p o hp hP => k1 _ _ ?_⟩
  clear k1
  refine seq_gen fun K1 k1 => ?_
  refine for_gen fun g' tb' hg htb => ?_
  walk_at "pv"
  refine ⟨by decide, by decide, ?_⟩
  refine for_r (fun i env G' => ∃ (o' : GO) (x2 x3 x4 x5 x6 x7 x8 x9 x10 : Option PV), env = [some (.scr ns), some (.ref p), x2, x3, x4, x5, x6, x7, x8, x9, x10] ∧ G' p = some o' ∧ IsPen (309 * i) o') ⟨o, none, none, none, none, none, none, none, none, none, rfl, gset_same, by simpa using hP⟩ (fun i env G' hi hI => ?_) fun env G' hI => ?_
  · obtain ⟨o', x2, x3, x4, x5, x6, x7, x8, x9, x10, rfl, hG, hP'⟩ := hI
    have hi4 : i < 4 := hi
    subst hg htb
    walk_at "pv"
    refine seq_gen fun K1 k1 => ?_
    walk_at "pv"
    refine ⟨p, 6, _, o', rfl, by decide, by decide, hG, hP', by omega, fun r oa r0 r6 hPa => k1 _ _ ?_⟩
    clear k1
    refine seq_gen fun K1 k1 => ?_
    walk_at "pv"
    refine ⟨p, 6, 1 + r, _, oa, rfl, by omega, by omega, by decide, by decide, gset_same, hPa, by omega, fun zs ob hzl hz hPb => k1 _ _ ?_⟩
    clear k1
    rw [gset_gset]
    refine seq_gen fun K1 k1 => ?_
    walk_at "pv"
    refine ⟨p, 1 + r, _, ob, rfl, by omega, by omega, gset_same, hPb, by omega, fun dss oc hdl hda hd3 hPc => k1 _ _ ?_⟩
    clear k1
    rw [gset_gset]
    have hGc : gset G' p oc p = some oc := gset_same
    generalize gset G' p oc = G1 at hGc
    have hda1 : AllB zs.length dss := by rw [show zs.length = (1 + r).toNat by omega]; exact hda
    have hda6 : AllB 6 dss := fun ds hd => ⟨(hda ds hd).1, fun z hz => ⟨((hda ds hd).2 z hz).1, by have := ((hda ds hd).2 z hz).2; omega⟩⟩
    obtain ⟨f1, f2, f3⟩ := pair_facts hz (by omega) hda6 hd3 hdl
    refine seq_gen fun K1 k1 => ?_
    walk_at "pv"
    refine ⟨small (show 2 ≤ 10000000 by decide), rRepr_pl f1 f2 f3 (.inl rfl) (k1 _ _ ?_)⟩
    clear k1
    refine seq_gen fun K1 k1 => ?_
    walk_at "pv"
    refine ⟨zs, dss, rfl, hda1, by omega, fun b hb => k1 _ _ ?_⟩
    clear k1
    have bp : b ≠ p := own_ab' hGc hb
    have hGb : gset G1 b (.lst ((byDraws zs dss).2.map .int)) p = some oc := by rw [gset_ne (Ne.symm bp)]; exact hGc
    have hbb : gset G1 b (.lst ((byDraws zs dss).2.map .int)) b = some (.lst ((byDraws zs dss).2.map .int)) := gset_same
    generalize gset G1 b (.lst ((byDraws zs dss).2.map .int)) = G2 at hGb hbb
    refine seq_gen fun K1 k1 => ?_
    walk_at "pv"
    refine ⟨zs, dss, .ref b, rfl, ownL_of hbb, tyP_own hbb, hda1, hd3, by omega, by omega, ?_⟩
    walk_at "pv"
    refine ite_f (by decide) (k1 _ _ ?_)
    clear k1
    refine seq_gen fun K1 k1 => ?_
    walk_at "pv"
    refine rLen_seq (xs := dss.map tI) rfl ?_
    walk_at "pv"
    refine ⟨p, _, _, oc, rfl, by omega, by rw [List.length_map]; omega, hGb, hPc, by omega, fun c od c0 c1 hPd => k1 _ _ ?_⟩
    clear k1
    rw [List.length_map] at c1
    have hG3 : gset G2 p od p = some od := gset_same
    have hb3 : gset G2 p od b = some (.lst ((byDraws zs dss).2.map .int)) := by rw [gset_ne bp]; exact hbb
    generalize gset G2 p od = G3 at hG3 hb3
    have hsp : dss.take c.toNat ++ dss.drop c.toNat = dss := List.take_append_drop ..
    have happ := byDraws_app (dss.take c.toNat) (dss.drop c.toNat) zs
    rw [hsp] at happ
    obtain ⟨l2, l1⟩ := byDraws_len (dss.take c.toNat) zs
    rw [List.length_take, Nat.min_eq_left (by omega)] at l2
    generalize hA : byDraws zs (dss.take c.toNat) = A at happ l1 l2
    generalize hB : byDraws A.1 (dss.drop c.toNat) = B at happ
    have e1 : (byDraws zs dss).1 = B.1 := by rw [happ]
    have e2 : (byDraws zs dss).2 = A.2 ++ B.2 := by rw [happ]
    have et : (byDraws zs dss).2.take c.toNat = A.2 := by rw [e2, List.take_append_of_le_length (by omega), List.take_of_length_le (by omega)]
    have ed : (byDraws zs dss).2.drop c.toNat = B.2 := by rw [e2, List.drop_append_of_le_length (by omega), List.drop_of_length_le (by omega)]; rfl
    refine seq_gen fun K1 k1 => ?_
    walk_at "pv"
    refine rSl_lst ?_
    rw [cutP_take_i c0, ← List.map_take]
    refine ⟨zs, dss.take c.toNat, rfl, fun ds hd => hda1 ds (List.mem_of_mem_take hd), by rw [List.length_take]; omega, fun b2 hb2 => ?_⟩
    rw [hA]
    walk_at "pv"
    rw [ownL_of gset_same, gdel_gset hb2]
    walk_at "pv"
    refine ⟨rfl, ?_⟩
    refine k1 _ _ ?_
    clear k1
    refine seq_gen fun K1 k1 => ?_
    walk_at "pv"
    refine rIx_seq (xs := [tI (byDraws zs dss).1, .ref b]) rfl (atI_nat (j := 1) rfl) (rSl_own hb3 ?_)
    rw [cutP_take_i c0, ← List.map_take, et]
    refine rNe_pl (lI_as A.2) (lI_as A.2) (fun _ => ?_) fun h => absurd rfl h
    walk_at "pv"
    refine ite_f rfl ?_
    refine rSl_lst ?_
    rw [cutP_drop_i c0, ← List.map_drop]
    refine ⟨A.1, dss.drop c.toNat, rfl, fun ds hd => by rw [l1]; exact hda1 ds (List.mem_of_mem_drop hd), by rw [List.length_drop]; omega, fun b2 hb2 => ?_⟩
    rw [hB]
    walk_at "pv"
    rw [ownL_of gset_same, gdel_gset hb2]
    walk_at "pv"
    refine rIx_seq (xs := [tI (byDraws zs dss).1, .ref b]) rfl (atI_nat (j := 0) rfl) ?_
    refine rIx_seq (xs := [tI (byDraws zs dss).1, .ref b]) rfl (atI_nat (j := 1) rfl) (rSl_own hb3 ?_)
    rw [cutP_drop_i c0, ← List.map_drop, ed, e1]
    refine ⟨small (show 2 ≤ 10000000 by decide), ?_⟩
    refine rNe_pl (x' := .tup [tI B.1, .lst (B.2.map .int)]) (y' := .tup [tI B.1, .lst (B.2.map .int)]) (AsD.of (pairR_pl _ _) (pairR_dep _ _)) (AsD.of (pairR_pl _ _) (pairR_dep _ _)) (fun _ => ?_) fun h => absurd rfl h
    walk_at "pv"
    refine ite_f rfl (k1 _ _ ?_)
    clear k1
    refine seq_gen fun K1 k1 => ?_
    walk_at "pv"
    refine rIx_seq (xs := [tI B.1, .ref b]) rfl (atI_nat (j := 1) rfl) ?_
    refine pBM_of (tyP_own hb3) List.mem_cons_self ?_
    refine rClear_of hb3 (k1 _ _ ?_)
    clear k1
    have hG4 : gset G3 b (.lst []) p = some od := by rw [gset_ne (Ne.symm bp)]; exact hG3
    generalize gset G3 b (.lst []) = G4 at hG4
    walk_at "pv"
    refine ⟨zs, dss, rfl, hda1, by omega, fun b2 hb2 => ?_⟩
    walk_at "pv"
    rw [ownL_of gset_same, gdel_gset hb2]
    walk_at "pv"
    refine ⟨zs, dss, .lst ((byDraws zs dss).2.map .int), rfl, rfl, rfl, hda1, hd3, by omega, by omega, ?_⟩
    walk_at "pv"
    refine ite_f (by decide) ?_
    refine ⟨small (show 2 ≤ 10000000 by decide), rRepr_pl f1 f2 f3 (.inl rfl) ?_⟩
    walk_at "pv"
    refine ite_f (by rw [decide_eq_true rfl]; rfl) ?_
    refine ⟨od, _, _, _, _, _, _, _, _, _, rfl, hG4, hPd.mono ?_⟩
    omega
  · obtain ⟨o', x2, x3, x4, x5, x6, x7, x8, x9, x10, rfl, hG, hP'⟩ := hI
    refine k1 _ _ ?_
    walk_at "pv"
    refine ⟨small (show 2 ≤ 10000000 by decide), small (show 0 ≤ 10000000 by decide), ?_⟩
    refine ⟨[3, 3], [], rfl, fun _ h => (by cases h), by decide, fun b2 hb2 => ?_⟩
    walk_at "pv"
    rw [ownL_of gset_same, gdel_gset hb2]
    walk_at "pv"
    refine ⟨small (show 2 ≤ 10000000 by decide), small (show 0 ≤ 10000000 by decide), small (show 2 ≤ 10000000 by decide), ?_⟩
    have pp : (PV.tup [.tup [.int 3, .int 3], .lst []]).pl = true := pairR_pl [3, 3] []
    have pd : (PV.tup [.tup [.int 3, .int 3], .lst []]).dep ≤ 64 := pairR_dep [3, 3] []
    exact rEq_pl (AsD.of pp pd) (AsD.of pp pd) (fun _ => q _) fun h => absurd rfl h
end K54
end
namespace K54
open PySem PySem.Spec PyProof.Rows L2 RZ PL
theorem all_mk {K : PySem.W.Frag} {h : Heap} {mg : Str → Option Value} (X : K.In h) (G : h.Ns mainGlobals mg) {Goal : Prop} (k : ∀ T : Txt K mg, (∀ (s : Shared) (v : Value), BindsTo s T.fd_law ⟨[v], []⟩ [("_law_script", v)]) → Goal)
    {f0 : Addr} {od0 an0 : Option Addr} {sl0 : Array (Option Value)} {oc0 kV0 dc0 pm0 cd0 ct0 : Value} (a0 : PySem.W.nsIn K mainGlobals "chosen" = some (some (.ref f0))) (l0 : K.lookup f0 = some ⟨oc0, od0, .func (PySem.W.fnOf "chosen" "chosen" (defArgs s_chosen) (defBody s_chosen) (defScope s_chosen) .none kV0 dc0 pm0 an0 cd0 ct0), sl0⟩) (c0 : PySem.W.codeIn K cd0 "chosen" = true) (k0 : PySem.W.keepIn K (.ref f0) = true)
    {f1 : Addr} {od1 an1 : Option Addr} {sl1 : Array (Option Value)} {oc1 kV1 dc1 pm1 cd1 ct1 : Value} (a1 : PySem.W.nsIn K mainGlobals "by_draws" = some (some (.ref f1))) (l1 : K.lookup f1 = some ⟨oc1, od1, .func (PySem.W.fnOf "by_draws" "by_draws" (defArgs s_by_draws) (defBody s_by_draws) (defScope s_by_draws) .none kV1 dc1 pm1 an1 cd1 ct1), sl1⟩) (c1 : PySem.W.codeIn K cd1 "by_draws" = true) (k1 : PySem.W.keepIn K (.ref f1) = true)
    {f2 : Addr} {od2 an2 : Option Addr} {sl2 : Array (Option Value)} {oc2 kV2 dc2 pm2 cd2 ct2 : Value} (a2 : PySem.W.nsIn K mainGlobals "_law_pen" = some (some (.ref f2))) (l2 : K.lookup f2 = some ⟨oc2, od2, .func (PySem.W.fnOf "_law_pen" "_law_pen" (defArgs s_l_pen) (defBody s_l_pen) (defScope s_l_pen) .none kV2 dc2 pm2 an2 cd2 ct2), sl2⟩) (c2 : PySem.W.codeIn K cd2 "_law_pen" = true) (k2 : PySem.W.keepIn K (.ref f2) = true)
    {f3 : Addr} {od3 an3 : Option Addr} {sl3 : Array (Option Value)} {oc3 kV3 dc3 pm3 cd3 ct3 : Value} (a3 : PySem.W.nsIn K mainGlobals "_law_draw" = some (some (.ref f3))) (l3 : K.lookup f3 = some ⟨oc3, od3, .func (PySem.W.fnOf "_law_draw" "_law_draw" (defArgs s_l_draw) (defBody s_l_draw) (defScope s_l_draw) .none kV3 dc3 pm3 an3 cd3 ct3), sl3⟩) (c3 : PySem.W.codeIn K cd3 "_law_draw" = true) (k3 : PySem.W.keepIn K (.ref f3) = true)
    {f4 : Addr} {od4 an4 : Option Addr} {sl4 : Array (Option Value)} {oc4 kV4 dc4 pm4 cd4 ct4 : Value} (a4 : PySem.W.nsIn K mainGlobals "_law_is_whole" = some (some (.ref f4))) (l4 : K.lookup f4 = some ⟨oc4, od4, .func (PySem.W.fnOf "_law_is_whole" "_law_is_whole" (defArgs s_l_is_whole) (defBody s_l_is_whole) (defScope s_l_is_whole) .none kV4 dc4 pm4 an4 cd4 ct4), sl4⟩) (c4 : PySem.W.codeIn K cd4 "_law_is_whole" = true) (k4 : PySem.W.keepIn K (.ref f4) = true)
    {f5 : Addr} {od5 an5 : Option Addr} {sl5 : Array (Option Value)} {oc5 kV5 dc5 pm5 cd5 ct5 : Value} (a5 : PySem.W.nsIn K mainGlobals "_law_stand" = some (some (.ref f5))) (l5 : K.lookup f5 = some ⟨oc5, od5, .func (PySem.W.fnOf "_law_stand" "_law_stand" (defArgs s_l_stand) (defBody s_l_stand) (defScope s_l_stand) .none kV5 dc5 pm5 an5 cd5 ct5), sl5⟩) (c5 : PySem.W.codeIn K cd5 "_law_stand" = true) (k5 : PySem.W.keepIn K (.ref f5) = true)
    {f6 : Addr} {od6 an6 : Option Addr} {sl6 : Array (Option Value)} {oc6 kV6 dc6 pm6 cd6 ct6 : Value} (a6 : PySem.W.nsIn K mainGlobals "_law_draws" = some (some (.ref f6))) (l6 : K.lookup f6 = some ⟨oc6, od6, .func (PySem.W.fnOf "_law_draws" "_law_draws" (defArgs s_l_draws) (defBody s_l_draws) (defScope s_l_draws) .none kV6 dc6 pm6 an6 cd6 ct6), sl6⟩) (c6 : PySem.W.codeIn K cd6 "_law_draws" = true) (k6 : PySem.W.keepIn K (.ref f6) = true)
    {f7 : Addr} {od7 an7 : Option Addr} {sl7 : Array (Option Value)} {oc7 kV7 dc7 pm7 cd7 ct7 : Value} (a7 : PySem.W.nsIn K mainGlobals "_law_step_right" = some (some (.ref f7))) (l7 : K.lookup f7 = some ⟨oc7, od7, .func (PySem.W.fnOf "_law_step_right" "_law_step_right" (defArgs s_l_step_right) (defBody s_l_step_right) (defScope s_l_step_right) .none kV7 dc7 pm7 an7 cd7 ct7), sl7⟩) (c7 : PySem.W.codeIn K cd7 "_law_step_right" = true) (k7 : PySem.W.keepIn K (.ref f7) = true)
    {f8 : Addr} {od8 an8 : Option Addr} {sl8 : Array (Option Value)} {oc8 kV8 dc8 pm8 cd8 ct8 : Value} (a8 : PySem.W.nsIn K mainGlobals "_law_right" = some (some (.ref f8))) (l8 : K.lookup f8 = some ⟨oc8, od8, .func (PySem.W.fnOf "_law_right" "_law_right" (defArgs s_l_right) (defBody s_l_right) (defScope s_l_right) .none kV8 dc8 pm8 an8 cd8 ct8), sl8⟩) (c8 : PySem.W.codeIn K cd8 "_law_right" = true) (k8 : PySem.W.keepIn K (.ref f8) = true)
    {f9 : Addr} {od9 an9 : Option Addr} {sl9 : Array (Option Value)} {oc9 kV9 dc9 pm9 cd9 ct9 : Value} (a9 : PySem.W.nsIn K mainGlobals "law" = some (some (.ref f9))) (l9 : K.lookup f9 = some ⟨oc9, od9, .func (PySem.W.fnOf "law" "law" (defArgs s_law) (defBody s_law) (defScope s_law) .none kV9 dc9 pm9 an9 cd9 ct9), sl9⟩) (c9 : PySem.W.codeIn K cd9 "law" = true) (k9 : PySem.W.keepIn K (.ref f9) = true)
    (z_abs : PySem.W.nsIn K mainGlobals "abs" = some none)
    (z_all : PySem.W.nsIn K mainGlobals "all" = some none)
    (z_bool : PySem.W.nsIn K mainGlobals "bool" = some none)
    (z_int : PySem.W.nsIn K mainGlobals "int" = some none)
    (z_isinstance : PySem.W.nsIn K mainGlobals "isinstance" = some none)
    (z_len : PySem.W.nsIn K mainGlobals "len" = some none)
    (z_list : PySem.W.nsIn K mainGlobals "list" = some none)
    (z_min : PySem.W.nsIn K mainGlobals "min" = some none)
    (z_range : PySem.W.nsIn K mainGlobals "range" = some none)
    (z_repr : PySem.W.nsIn K mainGlobals "repr" = some none)
    (z_tuple : PySem.W.nsIn K mainGlobals "tuple" = some none)
    (z_zip : PySem.W.nsIn K mainGlobals "zip" = some none)
    : Goal :=
  k {
    a_chosen := f0, fd_chosen := _, F_chosen := fun_mk l0 c0 k0, m_chosen := PySem.W.mg_of X G a0, b_chosen := (fun_mk (st := s_chosen) l0 c0 k0).binds (ps := ["stand", "draw"]) fun _ _ _ _ _ _ us hl => match us, hl with | [_, _], _ => rfl,
    a_by_draws := f1, fd_by_draws := _, F_by_draws := fun_mk l1 c1 k1, m_by_draws := PySem.W.mg_of X G a1, b_by_draws := (fun_mk (st := s_by_draws) l1 c1 k1).binds (ps := ["stand", "draws"]) fun _ _ _ _ _ _ us hl => match us, hl with | [_, _], _ => rfl,
    a_l_pen := f2, fd_l_pen := _, F_l_pen := fun_mk l2 c2 k2, m_l_pen := PySem.W.mg_of X G a2, b_l_pen := (fun_mk (st := s_l_pen) l2 c2 k2).binds (ps := ["_law_script"]) fun _ _ _ _ _ _ us hl => match us, hl with | [_], _ => rfl,
    a_l_draw := f3, fd_l_draw := _, F_l_draw := fun_mk l3 c3 k3, m_l_draw := PySem.W.mg_of X G a3, b_l_draw := (fun_mk (st := s_l_draw) l3 c3 k3).binds (ps := ["_law_pen_here", "_law_many"]) fun _ _ _ _ _ _ us hl => match us, hl with | [_, _], _ => rfl,
    a_l_is_whole := f4, fd_l_is_whole := _, F_l_is_whole := fun_mk l4 c4 k4, m_l_is_whole := PySem.W.mg_of X G a4, b_l_is_whole := (fun_mk (st := s_l_is_whole) l4 c4 k4).binds (ps := ["_law_thing"]) fun _ _ _ _ _ _ us hl => match us, hl with | [_], _ => rfl,
    a_l_stand := f5, fd_l_stand := _, F_l_stand := fun_mk l5 c5 k5, m_l_stand := PySem.W.mg_of X G a5, b_l_stand := (fun_mk (st := s_l_stand) l5 c5 k5).binds (ps := ["_law_pen_here", "_law_n", "_law_most"]) fun _ _ _ _ _ _ us hl => match us, hl with | [_, _, _], _ => rfl,
    a_l_draws := f6, fd_l_draws := _, F_l_draws := fun_mk l6 c6 k6, m_l_draws := PySem.W.mg_of X G a6, b_l_draws := (fun_mk (st := s_l_draws) l6 c6 k6).binds (ps := ["_law_pen_here", "_law_n", "_law_most"]) fun _ _ _ _ _ _ us hl => match us, hl with | [_, _, _], _ => rfl,
    a_l_step_right := f7, fd_l_step_right := _, F_l_step_right := fun_mk l7 c7 k7, m_l_step_right := PySem.W.mg_of X G a7, b_l_step_right := (fun_mk (st := s_l_step_right) l7 c7 k7).binds (ps := ["_law_numbers", "_law_draw_here", "_law_box"]) fun _ _ _ _ _ _ us hl => match us, hl with | [_, _, _], _ => rfl,
    a_l_right := f8, fd_l_right := _, F_l_right := fun_mk l8 c8 k8, m_l_right := PySem.W.mg_of X G a8, b_l_right := (fun_mk (st := s_l_right) l8 c8 k8).binds (ps := ["_law_stand_here", "_law_draws_here", "_law_found"]) fun _ _ _ _ _ _ us hl => match us, hl with | [_, _, _], _ => rfl,
    a_law := f9, fd_law := _, F_law := fun_mk l9 c9 k9, m_law := PySem.W.mg_of X G a9, b_law := (fun_mk (st := s_law) l9 c9 k9).binds (ps := ["_law_script"]) fun _ _ _ _ _ _ us hl => match us, hl with | [_], _ => rfl,
    z_abs := PySem.W.mg_none_of X G z_abs,
    z_all := PySem.W.mg_none_of X G z_all,
    z_bool := PySem.W.mg_none_of X G z_bool,
    z_int := PySem.W.mg_none_of X G z_int,
    z_isinstance := PySem.W.mg_none_of X G z_isinstance,
    z_len := PySem.W.mg_none_of X G z_len,
    z_list := PySem.W.mg_none_of X G z_list,
    z_min := PySem.W.mg_none_of X G z_min,
    z_range := PySem.W.mg_none_of X G z_range,
    z_repr := PySem.W.mg_none_of X G z_repr,
    z_tuple := PySem.W.mg_none_of X G z_tuple,
    z_zip := PySem.W.mg_none_of X G z_zip } fun s v => .of_eq rfl

theorem fin {P : Program} {w : World} {K : PySem.W.Frag} {mg : Str → Option Value} {base : Heap} (T : Txt K mg) : Ok_law P w K mg base T :=
  have h_chosen : Ok_chosen P w K mg base T := ok_chosen T
  have h_l_pen : Ok_l_pen P w K mg base T := ok_l_pen T
  have h_l_draw : Ok_l_draw P w K mg base T := ok_l_draw T
  have h_l_is_whole : Ok_l_is_whole P w K mg base T := ok_l_is_whole T
  have h_by_draws : Ok_by_draws P w K mg base T := ok_by_draws T h_chosen
  have h_l_stand : Ok_l_stand P w K mg base T := ok_l_stand T h_l_draw
  have h_l_draws : Ok_l_draws P w K mg base T := ok_l_draws T h_l_draw
  have h_l_step_right : Ok_l_step_right P w K mg base T := ok_l_step_right T h_l_is_whole
  have h_l_right : Ok_l_right P w K mg base T := ok_l_right T h_l_is_whole h_l_step_right
  have h_law : Ok_law P w K mg base T := ok_law T h_by_draws h_l_pen h_l_draw h_l_stand h_l_draws h_l_right
  h_law

end K54
set_option maxHeartbeats 0 in
theorem PySem.Challenge.cw_emptierbox_k54_balls_by_told_draws_holds : PySem.Challenge.rw_emptierbox_k54_balls_by_told_draws.Holds := by
  w_on; o_law; k_head; (case hw => w_witness2)
  k_fill
  refine PL.walk_ofG (l := PySem.Challenge.rw_emptierbox_k54_balls_by_told_draws) (n := 63) (k := 4) (x := "_law_script") rfl (by decide) rfl ⟨rfl, by decide, by decide⟩ (fun w h Y => PySem.W.kIn_of Y) ?F
  case F =>
    intro w mg fa h KX G hmg
    refine' K54.all_mk KX G (fun T hb => ?fin) ?a0 ?l0 ?c0 ?k0 ?a1 ?l1 ?c1 ?k1 ?a2 ?l2 ?c2 ?k2 ?a3 ?l3 ?c3 ?k3 ?a4 ?l4 ?c4 ?k4 ?a5 ?l5 ?c5 ?k5 ?a6 ?l6 ?c6 ?k6 ?a7 ?l7 ?c7 ?k7 ?a8 ?l8 ?c8 ?k8 ?a9 ?l9 ?c9 ?k9 ?z_abs ?z_all ?z_bool ?z_int ?z_isinstance ?z_len ?z_list ?z_min ?z_range ?z_repr ?z_tuple ?z_zip
    (case fin =>
      have e2 := T.m_law.symm.trans hmg
      cases e2
      exact ⟨T.fd_law, hb, fun base KB GB => K54.fin T⟩)
    (case a0 => k_is); (case l0 => k_is); (case c0 => k_is); (case k0 => k_is); (case a1 => k_is); (case l1 => k_is); (case c1 => k_is); (case k1 => k_is); (case a2 => k_is); (case l2 => k_is); (case c2 => k_is); (case k2 => k_is); (case a3 => k_is); (case l3 => k_is); (case c3 => k_is); (case k3 => k_is); (case a4 => k_is); (case l4 => k_is); (case c4 => k_is); (case k4 => k_is); (case a5 => k_is); (case l5 => k_is); (case c5 => k_is); (case k5 => k_is); (case a6 => k_is); (case l6 => k_is); (case c6 => k_is); (case k6 => k_is); (case a7 => k_is); (case l7 => k_is); (case c7 => k_is); (case k7 => k_is); (case a8 => k_is); (case l8 => k_is); (case c8 => k_is); (case k8 => k_is); (case a9 => k_is); (case l9 => k_is); (case c9 => k_is); (case k9 => k_is); (case z_abs => k_is); (case z_all => k_is); (case z_bool => k_is); (case z_int => k_is); (case z_isinstance => k_is); (case z_len => k_is); (case z_list => k_is); (case z_min => k_is); (case z_range => k_is); (case z_repr => k_is); (case z_tuple => k_is); (case z_zip => k_is)

