import PyProof.Rows.All
import Wide.All
import OpenK.AllK
import Wide.FinOn
import HandS.ForMost
import HandS.ForExc
import HandS.TupAny
import HandS.TupMul
import HandS.Zip
import HandS.Wide
import HandS.IsInst
import HandS.Deep
import HandS.Conv
import KE.KIndexOf
import PyProof.StrHeap
import PyProof.ReprReads
import PyProof.P3Eq
import HandS.Style
import HandS.SortKw
import KE.OsSorts
import PyProof.TupleOfSeq
import KE.KRevSl
import PySem.Challenge.RW_emptierbox_k58_whole_rooms_and_draws
set_option Elab.async false
set_option linter.all false
set_option maxRecDepth 100000
section
/-! PCore: the pure layer over the hand layer: values PV without a heap, a store G of owned objects, readings over both. -/
namespace PL
open PySem PySem.Spec PyProof.Rows L2

/-- a value as pure data; ref: an owned object, a def, a class -/
inductive PV where
  | non | bl (b : Bool) | int (i : Int) | str (x : Str) | ref (a : Addr) | ty (n : String) | tup (xs : List PV) | lst (xs : List PV) | scr (ns : List Int)
/-- an owned object -/
inductive GO where
  | lst (xs : List PV)
  | dk (kvs : List (Key × PV))
  | fdk (od : Obj) (vs : List (Key × V)) (kvs : List (Key × PV))
  | ins (C : Addr) (fs : List (Str × PV))
abbrev GH := Addr → Option GO
def gset (G : GH) (a : Addr) (o : GO) : GH := fun b => if b = a then some o else G b
def gdel (G : GH) (a : Addr) : GH := fun b => if b = a then none else G b
theorem gset_same {G : GH} {a : Addr} {o : GO} : gset G a o a = some o := by unfold gset; rw [if_pos rfl]
theorem gset_ne {G : GH} {a b : Addr} {o : GO} (h : b ≠ a) : gset G a o b = G b := by unfold gset; rw [if_neg h]
theorem gset_gset {G : GH} {a : Addr} {o u : GO} : gset (gset G a o) a u = gset G a u := by
  funext b; unfold gset; split <;> rfl
theorem gset_comm {G : GH} {a b : Addr} {o u : GO} (h : a ≠ b) : gset (gset G a o) b u = gset (gset G b u) a o := by
  funext c; unfold gset
  by_cases h1 : c = b
  · by_cases h2 : c = a
    · exact absurd (h2.symm.trans h1) h
    · rw [if_pos h1, if_neg h2, if_pos h1]
  · by_cases h2 : c = a
    · rw [if_neg h1, if_pos h2, if_pos h2]
    · rw [if_neg h1, if_neg h2, if_neg h2, if_neg h1]
theorem gdel_gset {G : GH} {a : Addr} {o : GO} (h : G a = none) : gdel (gset G a o) a = G := by
  funext b; unfold gdel gset; by_cases e : b = a
  · rw [if_pos e, e, h]
  · rw [if_neg e, if_neg e]
theorem gset_id {G : GH} {a : Addr} {o : GO} (h : G a = some o) : gset G a o = G := by
  funext b; unfold gset; by_cases e : b = a
  · rw [if_pos e, e, h]
  · rw [if_neg e]
/-- a part of a store -/
def Sub (G G' : GH) : Prop := ∀ a o, G a = some o → G' a = some o
theorem Sub.refl (G : GH) : Sub G G := fun _ _ h => h
theorem Sub.trans {G G1 G2 : GH} (a : Sub G G1) (b : Sub G1 G2) : Sub G G2 := fun c o h => b c o (a c o h)
theorem Sub.new {G : GH} {a : Addr} {o : GO} (h : G a = none) : Sub G (gset G a o) := fun b u e => by
  unfold gset; by_cases z : b = a
  · rw [z, h] at e; cases e
  · rw [if_neg z]; exact e
theorem gne {G : GH} {a b : Addr} {o : GO} (h : G a = some o) (h' : G b = none) : a ≠ b := by
  intro e; rw [e, h'] at h; cases h

/-! ### what stands for what -/
/-- a tuple without attributes of its own -/
def TupOk (K : PySem.W.Frag) (F : Hp) (a : Addr) (vs : List V) : Prop :=
  (∃ o : Obj, F a = some (.frz o (.tup vs)) ∧ o.dict = none) ∨
    ∃ (o : Obj) (its : Array Value) (n : Nat), K.lookup a = some o ∧ o.cls = .type "tuple" ∧ o.dict = none ∧ o.data = .seq its n ∧ its.size ≤ sizeLine ∧ Vals vs its.toList
theorem TupOk.sq {K : PySem.W.Frag} {F : Hp} {a : Addr} {vs : List V} (h : TupOk K F a vs) : SqT K F a vs := by
  rcases h with ⟨o, h, _⟩ | ⟨o, its, n, h1, h2, _, h3, h4, h5⟩
  · exact .inl (.inr ⟨o, h⟩)
  · exact .inr ⟨o, its, n, h1, h2, h3, h4, h5⟩
theorem TupOk.mono {K : PySem.W.Frag} {F F' : Hp} {a : Addr} {vs : List V} (s : Same F F') (h : TupOk K F a vs) : TupOk K F' a vs := by
  rcases h with ⟨o, h, z⟩ | h
  · exact .inl ⟨o, s _ _ h, z⟩
  · exact .inr h
theorem TupOk.new {K : PySem.W.Frag} {F : Hp} {a : Addr} {vs : List V} {o : Obj} (h : o.dict = none) : TupOk K (upd F a (.frz o (.tup vs))) a vs := .inl ⟨o, upd_same, h⟩
mutual
inductive Rep (K : PySem.W.Frag) (F : Hp) : V → PV → Prop
  | non : Rep K F .non .non
  | bl (b : Bool) : Rep K F (.bl b) (.bl b)
  | int (i : Int) : Rep K F (.int i) (.int i)
  | str (x : Str) : Rep K F (.str x) (.str x)
  | ref (a : Addr) : Rep K F (.ref a) (.ref a)
  | ty (n : String) : Rep K F (.ty n) (.ty n)
  | tup {a : Addr} {vs : List V} {xs : List PV} : TupOk K F a vs → RepA K F vs xs → Rep K F (.ref a) (.tup xs)
  | lst {a : Addr} {vs : List V} {xs : List PV} : F a = some (.lst vs) → RepA K F vs xs → Rep K F (.ref a) (.lst xs)
  | scr {a : Addr} {ns : List Int} : SqL K F a (ns.map V.int) → Rep K F (.ref a) (.scr ns)
inductive RepA (K : PySem.W.Frag) (F : Hp) : List V → List PV → Prop
  | nil : RepA K F [] []
  | cons {v : V} {vs : List V} {x : PV} {xs : List PV} : Rep K F v x → RepA K F vs xs → RepA K F (v :: vs) (x :: xs)
end
section
variable {K : PySem.W.Frag} {F F' H H' : Hp} {G G' : GH}
theorem Same.tupT {a : Addr} {xs : List V} (e : Same F F') (h : SqT K F a xs) : SqT K F' a xs := by
  rcases h with (h | ⟨o, h⟩) | h
  · exact .inl (.inl (e _ _ h))
  · exact .inl (.inr ⟨o, e _ _ h⟩)
  · exact .inr h
mutual
theorem Rep.mono (s : Same F F') : ∀ (x : PV) (v : V), Rep K F v x → Rep K F' v x
  | .non, _, h => by cases h; exact .non
  | .bl b, _, h => by cases h; exact .bl b
  | .int b, _, h => by cases h; exact .int b
  | .str b, _, h => by cases h; exact .str b
  | .ref b, _, h => by cases h; exact .ref b
  | .ty b, _, h => by cases h; exact .ty b
  | .tup xs, _, h => by
    cases h with
    | tup h1 h2 => exact .tup (h1.mono s) (RepA.mono s xs _ h2)
  | .lst xs, _, h => by
    cases h with
    | lst h1 h2 => exact .lst (s _ _ h1) (RepA.mono s xs _ h2)
  | .scr ns, _, h => by
    cases h with
    | scr h1 => exact .scr (s.seq h1)
theorem RepA.mono (s : Same F F') : ∀ (xs : List PV) (vs : List V), RepA K F vs xs → RepA K F' vs xs
  | [], _, h => by cases h; exact .nil
  | x :: xs, _, h => by
    cases h with
    | cons h1 h2 => exact .cons (Rep.mono s x _ h1) (RepA.mono s xs _ h2)
end
theorem RepA.length : ∀ {vs : List V} {xs : List PV}, RepA K F vs xs → vs.length = xs.length
  | _, _, .nil => rfl
  | _, _, .cons _ t => by rw [List.length_cons, List.length_cons, RepA.length t]
theorem RepA.get : ∀ {vs : List V} {xs : List PV} {i : Nat} {x : PV}, RepA K F vs xs → xs[i]? = some x → ∃ v, vs[i]? = some v ∧ Rep K F v x
  | _, _, _, _, .nil, e => by simp at e
  | _, _, 0, _, .cons h _, e => by simp at e; subst e; exact ⟨_, rfl, h⟩
  | _, _, i + 1, x, .cons _ t, e => by
    obtain ⟨v, h1, h2⟩ := RepA.get (i := i) (x := x) t (by simpa using e)
    exact ⟨v, by simpa using h1, h2⟩
theorem RepA.getV : ∀ {vs : List V} {xs : List PV} {i : Nat} {v : V}, RepA K F vs xs → vs[i]? = some v → ∃ x, xs[i]? = some x ∧ Rep K F v x
  | _, _, _, _, .nil, e => by simp at e
  | _, _, 0, _, .cons h _, e => by simp at e; subst e; exact ⟨_, rfl, h⟩
  | _, _, i + 1, v, .cons _ t, e => by
    obtain ⟨x, h1, h2⟩ := RepA.getV (i := i) (v := v) t (by simpa using e)
    exact ⟨x, by simpa using h1, h2⟩
theorem RepA.append : ∀ {vs ws : List V} {xs ys : List PV}, RepA K F vs xs → RepA K F ws ys → RepA K F (vs ++ ws) (xs ++ ys)
  | _, _, _, _, .nil, h => h
  | _, _, _, _, .cons a t, h => .cons a (RepA.append t h)
theorem RepA.take : ∀ {vs : List V} {xs : List PV} (n : Nat), RepA K F vs xs → RepA K F (vs.take n) (xs.take n)
  | _, _, 0, _ => .nil
  | _, _, _ + 1, .nil => .nil
  | _, _, n + 1, .cons a t => .cons a (RepA.take n t)
theorem RepA.drop : ∀ {vs : List V} {xs : List PV} (n : Nat), RepA K F vs xs → RepA K F (vs.drop n) (xs.drop n)
  | _, _, 0, h => h
  | _, _, _ + 1, .nil => .nil
  | _, _, n + 1, .cons _ t => RepA.drop n t
theorem RepA.set {v : V} {x : PV} (h : Rep K F v x) : ∀ {vs : List V} {xs : List PV} (i : Nat), RepA K F vs xs → RepA K F (vs.set i v) (xs.set i x)
  | _, _, _, .nil => .nil
  | _, _, 0, .cons _ t => .cons h t
  | _, _, i + 1, .cons a t => .cons a (RepA.set h i t)
theorem RepA.reverse : ∀ {vs : List V} {xs : List PV}, RepA K F vs xs → RepA K F vs.reverse xs.reverse
  | _, _, .nil => .nil
  | _, _, .cons a t => by rw [List.reverse_cons, List.reverse_cons]; exact RepA.append (RepA.reverse t) (.cons a .nil)
theorem RepA.ints : ∀ {vs : List V} {ns : List Int}, RepA K F vs (ns.map PV.int) → vs = ns.map V.int
  | _, [], h => by cases h; rfl
  | _, n :: ns, h => by
    cases h with
    | cons h1 h2 => cases h1; rw [RepA.ints h2]; rfl
theorem RepA.of_ints : ∀ (ns : List Int), RepA K F (ns.map V.int) (ns.map PV.int)
  | [] => .nil
  | n :: ns => .cons (.int n) (RepA.of_ints ns)
theorem RepA.bls : ∀ {vs : List V} {ns : List Bool}, RepA K F vs (ns.map PV.bl) → vs = ns.map V.bl
  | _, [], h => by cases h; rfl
  | _, n :: ns, h => by
    cases h with
    | cons h1 h2 => cases h1; rw [RepA.bls h2]; rfl

def RepD {κ : Type} (K : PySem.W.Frag) (F : Hp) (vs : List (κ × V)) (xs : List (κ × PV)) : Prop := vs.map (·.1) = xs.map (·.1) ∧ RepA K F (vs.map (·.2)) (xs.map (·.2))
theorem RepD.mono {κ : Type} {vs : List (κ × V)} {xs : List (κ × PV)} (s : Same F F') (h : RepD K F vs xs) : RepD K F' vs xs := ⟨h.1, RepA.mono s _ _ h.2⟩

/-- an owned object as the heap holds it -/
def GoOk (K : PySem.W.Frag) (F H : Hp) (a : Addr) : GO → Prop
  | .lst xs => ∃ vs, H a = some (.lst vs) ∧ RepA K F vs xs
  | .dk kvs => ∃ vs, H a = some (.dK vs) ∧ RepD K F vs kvs
  | .fdk od vs kvs => H a = some (.frz od (.dK vs)) ∧ RepD K F vs kvs
  | .ins C fs => ∃ dx vs, H a = some (.ins C dx vs) ∧ RepD K F vs fs
theorem GoOk.mono {a : Addr} {o : GO} (s : Same F F') (e : ∀ u, H a = some u → H' a = some u) (h : GoOk K F H a o) : GoOk K F' H' a o := by
  cases o with
  | lst xs => obtain ⟨vs, h1, h2⟩ := h; exact ⟨vs, e _ h1, RepA.mono s _ _ h2⟩
  | dk kvs => obtain ⟨vs, h1, h2⟩ := h; exact ⟨vs, e _ h1, h2.mono s⟩
  | fdk od vs kvs => obtain ⟨h1, h2⟩ := h; exact ⟨e _ h1, h2.mono s⟩
  | ins C fs => obtain ⟨dx, vs, h1, h2⟩ := h; exact ⟨dx, vs, e _ h1, h2.mono s⟩

/-- F: what never changes; G: what is owned; both within H -/
structure Rl (K : PySem.W.Frag) (F H : Hp) (G : GH) : Prop where
  sub : Same F H
  own : ∀ a o, G a = some o → F a = none ∧ GoOk K F H a o
theorem GoOk.there {a : Addr} {o : GO} (h : GoOk K F H a o) (n : H a = none) : False := by
  cases o with
  | lst xs => obtain ⟨vs, h1, h2⟩ := h; rw [n] at h1; cases h1
  | dk kvs => obtain ⟨vs, h1, h2⟩ := h; rw [n] at h1; cases h1
  | fdk od vs kvs => obtain ⟨h1, h2⟩ := h; rw [n] at h1; cases h1
  | ins C fs => obtain ⟨dx, vs, h1, h2⟩ := h; rw [n] at h1; cases h1
theorem Rl.free {p : Addr} (r : Rl K F H G) (n : H p = none) : G p = none := by
  cases e : G p with
  | none => rfl
  | some o => exact ((r.own p o e).2.there n).elim
/-- a smaller store -/
theorem Rl.drop (r : Rl K F H G) (s : Sub G' G) : Rl K F H G' := ⟨r.sub, fun a o e => r.own a o (s a o e)⟩
theorem Same.new {p : Addr} {o : HO} (n : F p = none) : Same F (upd F p o) := fun b u e => by
  by_cases z : b = p
  · rw [z, n] at e; cases e
  · rw [upd_ne z]; exact e
/-- a new object, frozen -/
theorem Rl.froze {p : Addr} {o : HO} (r : Rl K F H G) (n : H p = none) : Rl K (upd F p o) (upd H p o) G := by
  refine ⟨fun b u e => ?_, fun b u e => ?_⟩
  · by_cases z : b = p
    · subst z; rw [upd_same] at e ⊢; exact e
    · rw [upd_ne z] at e ⊢; exact r.sub b u e
  · have z : b ≠ p := gne e (r.free n)
    obtain ⟨h1, h2⟩ := r.own b u e
    exact ⟨by rw [upd_ne z]; exact h1, h2.mono (Same.new (r.sub.free n)) fun u q => by rw [upd_ne z]; exact q⟩
/-- a new object, owned; or an owned one changed -/
theorem Rl.owned {p : Addr} {o : HO} {g : GO} (r : Rl K F H G) (n : F p = none) (h : GoOk K F (upd H p o) p g) : Rl K F (upd H p o) (gset G p g) := by
  refine ⟨fun b u e => ?_, fun b u e => ?_⟩
  · have z : b ≠ p := ne_of_none e n
    rw [upd_ne z]; exact r.sub b u e
  · by_cases z : b = p
    · subst z; rw [gset_same] at e; cases e; exact ⟨n, h⟩
    · rw [gset_ne z] at e
      obtain ⟨h1, h2⟩ := r.own b u e
      exact ⟨h1, h2.mono (Same.refl F) fun u q => by rw [upd_ne z]; exact q⟩
/-- an owned list becomes frozen -/
theorem Rl.freeze {p : Addr} {xs : List PV} (r : Rl K F H G) (e : G p = some (.lst xs)) : ∃ F', Same F F' ∧ Rl K F' H (gdel G p) ∧ Rep K F' (.ref p) (.lst xs) := by
  obtain ⟨n, vs, h1, h2⟩ := r.own p _ e
  refine ⟨upd F p (.lst vs), Same.new n, ⟨fun b u q => ?_, fun b u q => ?_⟩, .lst upd_same (RepA.mono (Same.new n) _ _ h2)⟩
  · by_cases z : b = p
    · subst z; rw [upd_same] at q; cases q; exact h1
    · rw [upd_ne z] at q; exact r.sub b u q
  · unfold gdel at q
    by_cases z : b = p
    · rw [if_pos z] at q; cases q
    · rw [if_neg z] at q
      obtain ⟨h3, h4⟩ := r.own b u q
      exact ⟨by rw [upd_ne z]; exact h3, h4.mono (Same.new n) fun u q => q⟩
end

/-! ### slots -/
abbrev PEn := List (Option PV)
structure Vs (K : PySem.W.Frag) (F : Hp) (σ : List (Option V)) (env : PEn) : Prop where
  len : σ.length = env.length
  get : ∀ (i : Nat) (x : PV), env[i]? = some (some x) → ∃ v, σ[i]? = some (some v) ∧ Rep K F v x
section
variable {K : PySem.W.Frag} {F F' H H' : Hp} {σ : List (Option V)} {env : PEn}
theorem Vs.mono (s : Same F F') (h : Vs K F σ env) : Vs K F' σ env := ⟨h.len, fun i x e => by
  obtain ⟨v, h1, h2⟩ := h.get i x e
  exact ⟨v, h1, Rep.mono s _ _ h2⟩⟩
theorem Vs.set {i : Nat} {v : V} {x : PV} (h : Vs K F σ env) (r : Rep K F v x) : Vs K F (σ.set i (some v)) (env.set i (some x)) := by
  refine ⟨by rw [List.length_set, List.length_set, h.len], fun j y e => ?_⟩
  by_cases z : i = j
  · subst z
    by_cases l : i < env.length
    · rw [List.getElem?_set_self l] at e
      cases e
      exact ⟨v, by rw [List.getElem?_set_self (by rw [h.len]; exact l)], r⟩
    · rw [List.getElem?_eq_none (by rw [List.length_set]; omega)] at e
      cases e
  · rw [List.getElem?_set_ne z] at e ⊢
    exact h.get j y e
theorem Vs.setN {i : Nat} (h : Vs K F σ env) : Vs K F (σ.set i none) (env.set i none) := by
  refine ⟨by rw [List.length_set, List.length_set, h.len], fun j y e => ?_⟩
  by_cases z : i = j
  · subst z
    by_cases l : i < env.length
    · rw [List.getElem?_set_self l] at e
      cases e
    · rw [List.getElem?_eq_none (by rw [List.length_set]; omega)] at e
      cases e
  · rw [List.getElem?_set_ne z] at e ⊢
    exact h.get j y e
def wipeE (env : PEn) : List Nat → PEn
  | [] => env
  | v :: vs => (wipeE env vs).set v none
theorem Vs.wipe (h : Vs K F σ env) : ∀ vs : List Nat, Vs K F (L2.wipe σ vs) (wipeE env vs)
  | [] => h
  | v :: vs => (Vs.wipe h vs).setN
def startE (n : Nat) (xs : List PV) : PEn := xs.map some ++ List.replicate (n - xs.length) none
theorem RepA.somes : ∀ {vs : List V} {xs : List PV}, RepA K F vs xs → Vs K F (vs.map some) (xs.map some)
  | _, _, .nil => ⟨rfl, fun i x e => by simp at e⟩
  | _, _, .cons (v := v) (vs := vs) (x := x) (xs := xs) r t => by
    have ih := RepA.somes t
    refine ⟨by simp [t.length], fun i y e => ?_⟩
    cases i with
    | zero =>
      simp at e
      subst e
      exact ⟨v, by simp, r⟩
    | succ i =>
      obtain ⟨u, h1, h2⟩ := ih.get i y (by simpa using e)
      exact ⟨u, by simpa using h1, h2⟩
theorem Vs.start {N : List Str} {vs : List V} {xs : List PV} (r : RepA K F vs xs) : Vs K F (L2.start N vs) (startE N.length xs) := by
  have h := RepA.somes r
  have hl := r.length
  unfold L2.start startE
  refine ⟨by simp [hl], fun i x e => ?_⟩
  by_cases l : i < xs.length
  · rw [List.getElem?_append_left (by simpa using l)] at e
    rw [List.getElem?_append_left (by simpa [hl] using l)]
    exact h.get i x e
  · rw [List.getElem?_append_right (by simpa using l), List.getElem?_replicate] at e
    split at e <;> cases e
end

/-- a value, or (weak) any tuple of values -/
def RepB (st : Bool) (K : PySem.W.Frag) (F : Hp) (v : V) (x : PV) : Prop := Rep K F v x ∨ (st = false ∧ ∃ a vs xs, v = .ref a ∧ x = .tup xs ∧ SqT K F a vs ∧ RepA K F vs xs)
theorem RepB.mono {st : Bool} {K : PySem.W.Frag} {F F' : Hp} {v : V} {x : PV} (s : Same F F') (h : RepB st K F v x) : RepB st K F' v x := by
  rcases h with h | ⟨e, a, vs, xs, h1, h2, h3, h4⟩
  · exact .inl (Rep.mono s _ _ h)
  · exact .inr ⟨e, a, vs, xs, h1, h2, Same.tupT s h3, RepA.mono s _ _ h4⟩
theorem RepB.strong {K : PySem.W.Frag} {F : Hp} {v : V} {x : PV} (h : RepB true K F v x) : Rep K F v x := by
  rcases h with h | ⟨e, _⟩
  · exact h
  · cases e
theorem RepB.tup {st : Bool} {K : PySem.W.Frag} {F : Hp} {v : V} {xs : List PV} (h : RepB st K F v (.tup xs)) : ∃ a vs, v = .ref a ∧ SqT K F a vs ∧ RepA K F vs xs := by
  rcases h with h | ⟨_, a, vs, ys, h1, h2, h3, h4⟩
  · cases h with
    | tup h1 h2 => exact ⟨_, _, rfl, h1.sq, h2⟩
  · cases h2
    exact ⟨a, vs, h1, h3, h4⟩

/-! ### new tuples, told by their object -/
section
variable {X : Cx} {pins : List (Addr × Obj)} {σ : List (Option V)} {H : Hp} {s : Shared}
theorem laidT {vs : List V} {us : List Value} {t' : Nat} (I : Inv X pins σ H s) (hz : vs.length ≤ sizeLine) (r : Vals vs us) :
    Inv X pins σ (upd H s.heap.objs.size (.frz { cls := .type "tuple", data := .seq us.toArray } (.tup vs))) { s with heap := s.heap.push { cls := .type "tuple", data := .seq us.toArray }, toks := t' } := by
  have e := Heap.get?_push_size s.heap (o := { cls := .type "tuple", data := .seq us.toArray }) rfl
  exact I.laid (fun b o q => Heap.get?_push_of_some _ q) (Nat.le_refl _) ⟨e, hz, us, r, _, e, rfl, _, rfl⟩
def tTupN (t : TA) : TE := fun σ H Q => t σ H fun xs H1 => xs.length ≤ sizeLine ∧ ∀ p o, H1 p = none → o.dict = none → Q (.ref p) (upd H1 p (.frz o (.tup xs)))
theorem pe_tupN {es : List Expr} {t : TA} {x1} {pos : Pos} (h : PA X es t) : PE X (.Tuple es x1 pos) (tTupN t) :=
  ⟨fun pins s σ H Q I hq => wpAny_Tuple_spliced (thn (h.run pos pins s σ H _ I hq) fun us s1 ⟨xs, H1, I1, r, z, q⟩ =>
    ⟨by rw [← r.length]; exact z, .ref s1.heap.objs.size, _, laidT (t' := s1.toks) I1 z r, rfl, q _ _ (I1.hok.fresh (Nat.le_refl _)) rfl⟩)⟩
theorem call_tupleN : CallR X (.type "tuple") (fun xs H Q => ∃ p ys, xs = [.ref p] ∧ ((SqL X.K H p ys ∧ ∀ l o, H l = none → o.dict = none → Q (.ref l) (upd H l (.frz o (.tup ys)))) ∨ (SqT X.K H p ys ∧ Q (.ref p) H))) := by
  intro pins s σ H xs us Q I r h
  obtain ⟨p, ys, rfl, h⟩ := h
  obtain ⟨u, rfl, rx⟩ := vals1 r
  cases rx
  rcases h with ⟨hq, q⟩ | ⟨hq, q⟩
  · obtain ⟨its, r', pl, hz⟩ := I.list hq
    have hl := r'.length
    refine call_tuple_list pl.isList (fun h' kp => ?_) (by simp only [List.size_toArray] <;> omega)
    have I1 : Inv X pins σ H { s with heap := h' } := I.kept (t' := s.toks) kp
    exact ⟨.ref _, _, laidT (t' := s.toks) I1 hz r', rfl, q _ _ (I1.hok.fresh (Nat.le_refl _)) rfl⟩
  · obtain ⟨its, r', pl, hz⟩ := I.tuple hq
    exact call_tuple_same pl ⟨.ref _, H, I, rfl, q⟩
def rCatN (K : PySem.W.Frag) : R2 := fun x y H Q => ∃ a b xs ys, x = .ref a ∧ y = .ref b ∧ SqT K H a xs ∧ SqT K H b ys ∧ xs.length + ys.length ≤ sizeLine ∧
  (xs = [] → Q (.ref b) H) ∧ (xs ≠ [] → ys = [] → Q (.ref a) H) ∧ (xs ≠ [] → ys ≠ [] → ∀ p o, H p = none → o.dict = none → Q (.ref p) (upd H p (.frz o (.tup (xs ++ ys)))))
theorem op_catN : OpR X (binaryOp .Add) (rCatN X.K) := by
  intro pins s σ H x y v u Q I rx ry h
  obtain ⟨a, b, xs, ys, rfl, rfl, ha, hb, hz, q0, q1, q2⟩ := h
  cases rx
  cases ry
  obtain ⟨its, r1, p1, _⟩ := I.tuple ha
  obtain ⟨its2, r2, p2, _⟩ := I.tuple hb
  by_cases hx : xs = []
  · subst hx
    cases r1
    exact cat_tup0 p1 p2 ⟨.ref _, H, I, rfl, q0 rfl⟩
  · refine HT.cat_tup p1 p2 (fun z => hx (r1.nil_iff.mp z)) (fun z => ⟨.ref _, H, I, rfl, q1 hx (r2.nil_iff.mp z)⟩) (fun z => ?_) (by rw [← r1.length, ← r2.length]; exact hz)
    exact ⟨.ref _, _, laidT (t' := s.toks) I (by rw [List.length_append]; exact hz) (r1.append r2), rfl, q2 hx (fun w => z (r2.nil_iff.mpr w)) _ _ (I.hok.fresh (Nat.le_refl _)) rfl⟩
def rSlN (K : PySem.W.Frag) : V → Option Int → Option Int → Hp → VK → Prop := fun x lo hi H Q => ∃ a xs, x = .ref a ∧ SqT K H a xs ∧
  (HT.sIx xs.length 0 lo = 0 ∧ HT.sIx xs.length xs.length hi = xs.length → Q (.ref a) H) ∧ (¬ (HT.sIx xs.length 0 lo = 0 ∧ HT.sIx xs.length xs.length hi = xs.length) → ∀ p o, H p = none → o.dict = none → Q (.ref p) (upd H p (.frz o (.tup (cutV xs lo hi)))))
theorem sl_tupN : SlR X (rSlN X.K) := by
  intro pins s σ H x v vl vu lo hi sl Q I rx hs pl pu h
  obtain ⟨a, xs, rfl, hx, q1, q2⟩ := h
  cases rx
  obtain ⟨its, r, ht, hz⟩ := I.tuple hx
  have hlen : its.toArray.size = xs.length := by rw [List.size_toArray]; exact r.length.symm
  refine ⟨"tuple", _, PyProof.Rows.slot_tuple_getitem.lookup, ht.typeIs, ?_⟩
  by_cases hw : HT.sIx xs.length 0 lo = 0 ∧ HT.sIx xs.length xs.length hi = xs.length
  · exact getItem_tuple_whole ht hs pl pu (by rw [hlen]; exact hw) ⟨.ref _, H, I, rfl, q1 hw⟩
  · refine HT.getItem_tuple_cut ht hs pl pu (by rw [hlen]; exact hw) ?_ (by rw [hlen]; exact hz)
    rw [hlen]
    exact ⟨.ref _, _, laidT (t' := s.toks) I (Nat.le_trans (cutV_length xs lo hi) hz) ((r.drop (HT.sIx xs.length 0 lo)).take (HT.sIx xs.length xs.length hi - HT.sIx xs.length 0 lo)), rfl, q2 hw _ _ (I.hok.fresh (Nat.le_refl _)) rfl⟩
end
end PL
end

section
/-! PJudge: judgements of the pure layer, and their rules. -/
namespace PL
open PySem PySem.Spec PyProof.Rows L2

/-! ### what the machine wants, as a reading -/
def WE (X : Cx) (e : Expr) : TE := fun σ H Q => ∀ (pins : List (Addr × Obj)) (s : Shared), Inv X pins σ H s → wpAny (model X.prog X.w) X.A (eval e X.env) (EP X pins σ Q) X.xe s
def WT (X : Cx) (e : Expr) : TT := fun σ H Q => ∀ (pins : List (Addr × Obj)) (s : Shared), Inv X pins σ H s → wpAny (model X.prog X.w) X.A (isTrue e X.env (eval e X.env)) (TP X pins σ Q) X.xe s
def WW (X : Cx) (e : Expr) : TT := fun σ H Q => ∀ (whole : Sem Value) (pins : List (Addr × Obj)) (s : Shared), Inv X pins σ H s → wpAny (model X.prog X.w) X.A (isTrue e X.env whole) (TP X pins σ Q) X.xe s
def WA (X : Cx) (es : List Expr) : TA := fun σ H Q => ∀ (pos : Pos) (pins : List (Addr × Obj)) (s : Shared), Inv X pins σ H s → wpAny (model X.prog X.w) X.A (spliced (backTo pos (starEach es X.env))) (AP X pins σ Q) X.xe s
def WS (X : Cx) (st : Stmt) : TS := fun D σ H => ∀ (pins : List (Addr × Obj)) (s : Shared), Inv X pins σ H s → wpAny (model X.prog X.w) X.A (exec st X.env) (SP X pins D) X.xe s
def WB (X : Cx) (st : List Stmt) : TS := fun D σ H => ∀ (pins : List (Addr × Obj)) (s : Shared), Inv X pins σ H s → wpAny (model X.prog X.w) X.A (execs st X.env) (SP X pins D) X.xe s
def WG (X : Cx) (target : Expr) : TG := fun v σ H Q => ∀ (pins : List (Addr × Obj)) (s : Shared) (u : Value), Inv X pins σ H s → RelV v u → wpAny (model X.prog X.w) X.A (assign target X.env u) (fun _ s' => ∃ σ' H', Inv X pins σ' H' s' ∧ Q σ' H') X.xe s
def WGs (X : Cx) (ts : List Expr) : TGs := fun vs σ H Q => ∀ (pins : List (Addr × Obj)) (s : Shared) (us : List Value), Inv X pins σ H s → Vals vs us → wpAny (model X.prog X.w) X.A (assignInOrder ((assignEach ts X.env).map (·.2)) us) (fun _ s' => ∃ σ' H', Inv X pins σ' H' s' ∧ Q σ' H') X.xe s
def WI (X : Cx) (tg iter : Expr) : TI := fun σ H R => ∀ (pins : List (Addr × Obj)) (s : Shared), Inv X pins σ H s → wpAny (model X.prog X.w) X.A (eval iter X.env) (fun v s1 => wpAny (model X.prog X.w) X.A (pyIter v) (PIE X pins σ tg R) X.xe s1) X.xe s
def WO (X : Cx) (f : Value → Value → Sem Value) : R2 := fun x y H Q => ∀ (pins : List (Addr × Obj)) (s : Shared) (σ : List (Option V)) (v u : Value), Inv X pins σ H s → RelV x v → RelV y u → wpAny (model X.prog X.w) X.A (f v u) (EP X pins σ Q) X.xe s
def WU (X : Cx) (f : Value → Sem Value) : V → Hp → VK → Prop := fun x H Q => ∀ (pins : List (Addr × Obj)) (s : Shared) (σ : List (Option V)) (v : Value), Inv X pins σ H s → RelV x v → wpAny (model X.prog X.w) X.A (f v) (EP X pins σ Q) X.xe s
def WC (X : Cx) (f : Value) : List V → Hp → VK → Prop := fun xs H Q => ∀ (pins : List (Addr × Obj)) (s : Shared) (σ : List (Option V)) (us : List Value), Inv X pins σ H s → Vals xs us → wpAny (model X.prog X.w) X.A (call f us) (EP X pins σ Q) X.xe s
def WIx (X : Cx) : R2 := fun x y H Q => ∀ (value slice : Expr) (pins : List (Addr × Obj)) (s : Shared) (σ : List (Option V)) (v u : Value), Inv X pins σ H s → RelV x v → RelV y u → subscripted slice false v u = operate [v, u] (getItem v u) →
  wpAny (model X.prog X.w) X.A (subscriptTail value slice v u) (EP X pins σ Q) X.xe s
def WSet (X : Cx) : TSet := fun o i v H Q => ∀ (pins : List (Addr × Obj)) (s : Shared) (σ : List (Option V)) (ov iv u : Value), Inv X pins σ H s → RelV o ov → RelV i iv → RelV v u →
  wpAny (model X.prog X.w) X.A (setItem ov iv u) (fun _ s' => ∃ H', Inv X pins σ H' s' ∧ Q H') X.xe s
section
variable {X : Cx} {e : Expr} {es : List Expr} {st : Stmt} {sts : List Stmt} {σ : List (Option V)} {H : Hp}
theorem pe_we : PE X e (WE X e) := ⟨fun pins s _ _ _ I h => h pins s I⟩
theorem pt_wt : PT X e (WT X e) := ⟨fun pins s _ _ _ I h => h pins s I⟩
theorem pw_ww : PW X e (WW X e) := ⟨fun wh pins s _ _ _ I h => h wh pins s I⟩
theorem pa_wa : PA X es (WA X es) := ⟨fun pos pins s _ _ _ I h => h pos pins s I⟩
theorem ps_ws : PS X st (WS X st) := ⟨fun pins s _ _ _ I h => h pins s I⟩
theorem ps_wb : PSs X sts (WB X sts) := ⟨fun pins s _ _ _ I h => h pins s I⟩
theorem pg_wg : PG X e (WG X e) := ⟨fun pins s _ _ _ u _ I r h => h pins s u I r⟩
theorem pg_wgs : PGs X es (WGs X es) := ⟨fun pins s _ _ _ us _ I r h => h pins s us I r⟩
theorem pi_wi {tg : Expr} : PI X tg e (WI X tg e) := ⟨fun pins s _ _ _ I h => h pins s I⟩
theorem op_wo {f : Value → Value → Sem Value} : OpR X f (WO X f) := fun pins s σ _ _ _ v u _ I r1 r2 h => h pins s σ v u I r1 r2
theorem un_wu {f : Value → Sem Value} : UnR X f (WU X f) := fun pins s σ _ _ v _ I r1 h => h pins s σ v I r1
theorem cr_wc {f : Value} : CallR X f (WC X f) := fun pins s σ _ _ us _ I r1 h => h pins s σ us I r1
theorem ix_wix : IxR X (WIx X) := fun value slice pins s σ _ _ _ v u _ I r1 r2 h hs => h value slice pins s σ v u I r1 r2 hs
theorem set_wset : PSet X (WSet X) := fun pins s σ _ _ _ _ ov iv u _ I r1 r2 r3 h => h pins s σ ov iv u I r1 r2 r3
theorem we_of {t : TE} {Q : VK} (h : PE X e t) (q : t σ H Q) : WE X e σ H Q := fun pins s I => h.run pins s σ H Q I q
theorem wt_of {t : TT} {Q : Bool → Hp → Prop} (h : PT X e t) (q : t σ H Q) : WT X e σ H Q := fun pins s I => h.run pins s σ H Q I q
theorem ww_of {t : TT} {Q : Bool → Hp → Prop} (h : PW X e t) (q : t σ H Q) : WW X e σ H Q := fun wh pins s I => h.run wh pins s σ H Q I q
theorem wa_of {t : TA} {Q : List V → Hp → Prop} (h : PA X es t) (q : t σ H Q) : WA X es σ H Q := fun pos pins s I => h.run pos pins s σ H Q I q
theorem ws_of {t : TS} {D : Ends} (h : PS X st t) (q : t D σ H) : WS X st D σ H := fun pins s I => h.run pins s σ H D I q
theorem wb_of {t : TS} {D : Ends} (h : PSs X sts t) (q : t D σ H) : WB X sts D σ H := fun pins s I => h.run pins s σ H D I q
theorem wg_of {t : TG} {v : V} {Q : List (Option V) → Hp → Prop} (h : PG X e t) (q : t v σ H Q) : WG X e v σ H Q := fun pins s u I r => h.run pins s σ H v u Q I r q
theorem wgs_of {t : TGs} {v : List V} {Q : List (Option V) → Hp → Prop} (h : PGs X es t) (q : t v σ H Q) : WGs X es v σ H Q := fun pins s u I r => h.run pins s σ H v u Q I r q
theorem wi_of {tg : Expr} {t : TI} {R : It → Hp → Prop} (h : PI X tg e t) (q : t σ H R) : WI X tg e σ H R := fun pins s I => h.run pins s σ H R I q
theorem wo_of {f : Value → Value → Sem Value} {r : R2} {x y : V} {Q : VK} (h : OpR X f r) (q : r x y H Q) : WO X f x y H Q := fun pins s σ v u I r1 r2 => h pins s σ H x y v u Q I r1 r2 q
theorem wu_of {f : Value → Sem Value} {r : V → Hp → VK → Prop} {x : V} {Q : VK} (h : UnR X f r) (q : r x H Q) : WU X f x H Q := fun pins s σ v I r1 => h pins s σ H x v Q I r1 q
theorem wc_of {f : Value} {r : List V → Hp → VK → Prop} {xs : List V} {Q : VK} (h : CallR X f r) (q : r xs H Q) : WC X f xs H Q := fun pins s σ us I r1 => h pins s σ H xs us Q I r1 q
theorem wix_of {r : R2} {x y : V} {Q : VK} (h : IxR X r) (q : r x y H Q) : WIx X x y H Q := fun value slice pins s σ v u I r1 r2 hs => h value slice pins s σ H x y v u Q I r1 r2 q hs
theorem wset_of {t : TSet} {o i v : V} {Q : Hp → Prop} (h : PSet X t) (q : t o i v H Q) : WSet X o i v H Q := fun pins s σ ov iv u I r1 r2 r3 => h pins s σ H o i v ov iv u Q I r1 r2 r3 q
end

/-! ### readings of the pure layer -/
abbrev PK1 := PV → GH → Prop
abbrev PXK := Value → PEn → GH → Prop
abbrev PTE := PEn → GH → PK1 → PXK → Prop
abbrev PTT := PEn → GH → (Bool → GH → Prop) → PXK → Prop
abbrev PTA := PEn → GH → (List PV → GH → Prop) → PXK → Prop
abbrev PO1 := PV → GH → PK1 → Prop
abbrev PO2 := PV → PV → GH → PK1 → Prop
abbrev POn := List PV → GH → PK1 → Prop
structure PEnds where
  nx : PEn → GH → Prop
  rt : PK1
  bk : PEn → GH → Prop := fun _ _ => False
  ct : PEn → GH → Prop := fun _ _ => False
  xs : PXK := fun _ _ _ => False
abbrev PTS := PEnds → PEn → GH → Prop
abbrev PTG := PV → PEn → GH → (PEn → GH → Prop) → PXK → Prop
abbrev PTGs := List PV → PEn → GH → (PEn → GH → Prop) → PXK → Prop

/-- what is reached on the pure side is reached below -/
def LkQ (K : PySem.W.Frag) (F : Hp) (P : PK1) (Q : VK) : Prop := ∀ (F' H' : Hp) (G' : GH) (v : V) (x : PV), Same F F' → Rl K F' H' G' → Rep K F' v x → P x G' → Q v H'
def LkB (K : PySem.W.Frag) (F : Hp) (P : Bool → GH → Prop) (Q : Bool → Hp → Prop) : Prop := ∀ (F' H' : Hp) (G' : GH) (b : Bool), Same F F' → Rl K F' H' G' → P b G' → Q b H'
def LkA (K : PySem.W.Frag) (F : Hp) (P : List PV → GH → Prop) (Q : List V → Hp → Prop) : Prop := ∀ (F' H' : Hp) (G' : GH) (vs : List V) (xs : List PV), Same F F' → Rl K F' H' G' → RepA K F' vs xs → P xs G' → Q vs H'
def LkN (K : PySem.W.Frag) (F : Hp) (P : PEn → GH → Prop) (Q : List (Option V) → Hp → Prop) : Prop := ∀ (F' H' : Hp) (G' : GH) (σ : List (Option V)) (env : PEn), Same F F' → Rl K F' H' G' → Vs K F' σ env → P env G' → Q σ H'
def LkX (K : PySem.W.Frag) (F : Hp) (P : PXK) (W : WX) : Prop := ∀ (F' H' : Hp) (G' : GH) (σ : List (Option V)) (env : PEn) (c : Value), Same F F' → Rl K F' H' G' → Vs K F' σ env → P c env G' → W c none σ H'
structure LkD (K : PySem.W.Frag) (F : Hp) (P : PEnds) (D : Ends) : Prop where
  nx : LkN K F P.nx D.nx
  rt : LkQ K F P.rt D.rt
  bk : LkN K F P.bk D.bk
  ct : LkN K F P.ct D.ct
section
variable {K : PySem.W.Frag} {F F1 : Hp}
theorem LkQ.mono {P : PK1} {Q : VK} (h : LkQ K F P Q) (s : Same F F1) : LkQ K F1 P Q := fun F' H' G' v x s' => h F' H' G' v x (s.trans s')
theorem LkB.mono {P : Bool → GH → Prop} {Q : Bool → Hp → Prop} (h : LkB K F P Q) (s : Same F F1) : LkB K F1 P Q := fun F' H' G' b s' => h F' H' G' b (s.trans s')
theorem LkA.mono {P : List PV → GH → Prop} {Q : List V → Hp → Prop} (h : LkA K F P Q) (s : Same F F1) : LkA K F1 P Q := fun F' H' G' v x s' => h F' H' G' v x (s.trans s')
theorem LkN.mono {P : PEn → GH → Prop} {Q : List (Option V) → Hp → Prop} (h : LkN K F P Q) (s : Same F F1) : LkN K F1 P Q := fun F' H' G' v x s' => h F' H' G' v x (s.trans s')
theorem LkX.mono {P : PXK} {W : WX} (h : LkX K F P W) (s : Same F F1) : LkX K F1 P W := fun F' H' G' v x c s' => h F' H' G' v x c (s.trans s')
theorem LkD.mono {P : PEnds} {D : Ends} (h : LkD K F P D) (s : Same F F1) : LkD K F1 P D := ⟨h.nx.mono s, h.rt.mono s, h.bk.mono s, h.ct.mono s⟩
end

/-! ### judgements -/
structure QE (X : Cx) (e : Expr) (t : PTE) : Prop where
  run : ∀ (W : WX), Takes X W → ∀ (F H : Hp) (G : GH) (σ : List (Option V)) (env : PEn) (P : PK1) (Ex : PXK) (Q : VK), Rl X.K F H G → Vs X.K F σ env → t env G P Ex → LkQ X.K F P Q → LkX X.K F Ex W → WE X e σ H Q
structure QT (X : Cx) (e : Expr) (t : PTT) : Prop where
  run : ∀ (W : WX), Takes X W → ∀ (F H : Hp) (G : GH) (σ : List (Option V)) (env : PEn) (P : Bool → GH → Prop) (Ex : PXK) (Q : Bool → Hp → Prop), Rl X.K F H G → Vs X.K F σ env → t env G P Ex → LkB X.K F P Q → LkX X.K F Ex W → WT X e σ H Q
structure QW (X : Cx) (e : Expr) (t : PTT) : Prop where
  run : ∀ (W : WX), Takes X W → ∀ (F H : Hp) (G : GH) (σ : List (Option V)) (env : PEn) (P : Bool → GH → Prop) (Ex : PXK) (Q : Bool → Hp → Prop), Rl X.K F H G → Vs X.K F σ env → t env G P Ex → LkB X.K F P Q → LkX X.K F Ex W → WW X e σ H Q
structure QA (X : Cx) (es : List Expr) (t : PTA) : Prop where
  run : ∀ (W : WX), Takes X W → ∀ (F H : Hp) (G : GH) (σ : List (Option V)) (env : PEn) (P : List PV → GH → Prop) (Ex : PXK) (Q : List V → Hp → Prop), Rl X.K F H G → Vs X.K F σ env → t env G P Ex → LkA X.K F P Q → LkX X.K F Ex W → WA X es σ H Q
structure QS (X : Cx) (st : Stmt) (t : PTS) : Prop where
  run : ∀ (W : WX), Takes X W → ∀ (F H : Hp) (G : GH) (σ : List (Option V)) (env : PEn) (P : PEnds) (D : Ends), Rl X.K F H G → Vs X.K F σ env → t P env G → LkD X.K F P D → LkX X.K F P.xs W → WS X st D σ H
structure QB (X : Cx) (st : List Stmt) (t : PTS) : Prop where
  run : ∀ (W : WX), Takes X W → ∀ (F H : Hp) (G : GH) (σ : List (Option V)) (env : PEn) (P : PEnds) (D : Ends), Rl X.K F H G → Vs X.K F σ env → t P env G → LkD X.K F P D → LkX X.K F P.xs W → WB X st D σ H
/-- a target that stores in the slots ws alone -/
def LkW (K : PySem.W.Frag) (F : Hp) (ws : List Nat) (σ : List (Option V)) (P : PEn → GH → Prop) (Q : List (Option V) → Hp → Prop) : Prop := ∀ (F' H' : Hp) (G' : GH) (σ' : List (Option V)) (env : PEn), Same F F' → Rl K F' H' G' → Vs K F' σ' env → L2.wipe σ' ws = L2.wipe σ ws → P env G' → Q σ' H'
structure QG (st : Bool) (X : Cx) (ws : List Nat) (target : Expr) (t : PTG) : Prop where
  run : ∀ (W : WX), Takes X W → ∀ (F H : Hp) (G : GH) (σ : List (Option V)) (env : PEn) (v : V) (x : PV) (P : PEn → GH → Prop) (Ex : PXK) (Q : List (Option V) → Hp → Prop), Rl X.K F H G → Vs X.K F σ env → RepB st X.K F v x → t x env G P Ex → LkW X.K F ws σ P Q → LkX X.K F Ex W → WG X target v σ H Q
structure QGs (X : Cx) (ws : List Nat) (ts : List Expr) (t : PTGs) : Prop where
  run : ∀ (W : WX), Takes X W → ∀ (F H : Hp) (G : GH) (σ : List (Option V)) (env : PEn) (vs : List V) (xs : List PV) (P : PEn → GH → Prop) (Ex : PXK) (Q : List (Option V) → Hp → Prop), Rl X.K F H G → Vs X.K F σ env → RepA X.K F vs xs → t xs env G P Ex → LkW X.K F ws σ P Q → LkX X.K F Ex W → WGs X ts vs σ H Q
/-- operations by values -/
def Q1 (X : Cx) (f : V → Hp → VK → Prop) (r : PO1) : Prop := ∀ (F H : Hp) (G : GH) (v : V) (x : PV) (P : PK1) (Q : VK), Rl X.K F H G → Rep X.K F v x → r x G P → LkQ X.K F P Q → f v H Q
def Q2 (X : Cx) (f : R2) (r : PO2) : Prop := ∀ (F H : Hp) (G : GH) (v u : V) (x y : PV) (P : PK1) (Q : VK), Rl X.K F H G → Rep X.K F v x → Rep X.K F u y → r x y G P → LkQ X.K F P Q → f v u H Q
def Qn (X : Cx) (f : List V → Hp → VK → Prop) (r : POn) : Prop := ∀ (F H : Hp) (G : GH) (vs : List V) (xs : List PV) (P : PK1) (Q : VK), Rl X.K F H G → RepA X.K F vs xs → r xs G P → LkQ X.K F P Q → f vs H Q

/-! ### rules: names, constants, operations -/
def pVar (i : Nat) (env : PEn) (G : GH) (P : PK1) (_z3 : PXK) : Prop := match env[i]? with
  | some (some x) => P x G
  | _ => False
def pC (x : PV) (_z0 : PEn) (G : GH) (P : PK1) (_z3 : PXK) : Prop := P x G
def pUn (r : PO1) (ta : PTE) (env : PEn) (G : GH) (P : PK1) (Ex : PXK) : Prop := ta env G (fun x G1 => r x G1 P) Ex
def pOp (r : PO2) (ta tb : PTE) (env : PEn) (G : GH) (P : PK1) (Ex : PXK) : Prop := ta env G (fun x G1 => tb env G1 (fun y G2 => r x y G2 P) Ex) Ex
def pNil (_z0 : PEn) (G : GH) (P : (List PV → GH → Prop)) (_z3 : PXK) : Prop := P [] G
def pCons (ta : PTE) (tr : PTA) (env : PEn) (G : GH) (P : (List PV → GH → Prop)) (Ex : PXK) : Prop := ta env G (fun x G1 => tr env G1 (fun xs G2 => P (x :: xs) G2) Ex) Ex
def pCB (r : POn) (t : PTA) (env : PEn) (G : GH) (P : PK1) (Ex : PXK) : Prop := t env G (fun xs G1 => r xs G1 P) Ex
section
variable {X : Cx} {e a b c : Expr} {es : List Expr} {ta tb tc : PTE} {t : PTA} {pos : Pos}
theorem qe_var (i : Nat) {x : Str} {pos : Pos} (hN : X.N[i]? = some x := by rfl) (hv : Vis X.env.scope x := by first | exact Or.inl rfl | exact Or.inr (Or.inl rfl) | exact Or.inr (Or.inr rfl)) (hd : (x == ("__debug__" : Str)) = false := by decide)
    (hcd : (x == ("__classdict__" : Str)) = false := by decide) : QE X (.Name x pos) (pVar i) := by
  refine ⟨fun W tk F H G σ env P Ex Q hr hv' h lq lx => ?_⟩
  unfold pVar at h
  split at h
  · rename_i x e
    obtain ⟨v, h1, h2⟩ := hv'.get i _ e
    exact we_of (pe_var hN hv hd hcd) ⟨v, h1, lq F H G v x (Same.refl F) hr h2 h⟩
  · exact h.elim
theorem qe_c {v : V} {x : PV} (h : PE X e (tC v)) (r : ∀ F, Rep X.K F v x) : QE X e (pC x) :=
  ⟨fun W tk F H G σ env P Ex Q hr hv h' lq lx => we_of h (lq F H G v x (Same.refl F) hr (r F) h')⟩
theorem qe_int {i : Int} {j pos} : QE X (.Constant (.int i) j pos) (pC (.int i)) := qe_c pe_int fun _ => .int i
theorem qe_bl {i j pos} : QE X (.Constant (.bool i) j pos) (pC (.bl i)) := qe_c pe_bl fun _ => .bl i
theorem qe_non {j pos} : QE X (.Constant .none j pos) (pC .non) := qe_c pe_non fun _ => .non
theorem qe_str {i j pos} : QE X (.Constant (.str i) j pos) (pC (.str i)) := qe_c pe_str fun _ => .str i
theorem qe_un {op : UnaryOp} {r : PO1} (ho : Q1 X (WU X (unaryOp op)) r) (ha : QE X a ta) : QE X (.UnaryOp op a pos) (pUn r ta) := by
  refine ⟨fun W tk F H G σ env P Ex Q hr hv h lq lx => we_of (pe_un un_wu pe_we) ?_⟩
  exact ha.run W tk F H G σ env _ Ex _ hr hv h (fun F1 H1 G1 v x s1 r1 rv h1 => ho F1 H1 G1 v x P Q r1 rv h1 (lq.mono s1)) lx
theorem op2 {f : R2} {r : PO2} {te : TE → TE → TE} (hte : ∀ ta tb, te ta tb = tOp f ta tb) {W : WX} {F H : Hp} {G : GH} {σ : List (Option V)} {env : PEn} {P : PK1} {Ex : PXK} {Q : VK} (ho : Q2 X f r) (ha : QE X a ta) (hb : QE X b tb) (tk : Takes X W)
    (hr : Rl X.K F H G) (hv : Vs X.K F σ env) (h : pOp r ta tb env G P Ex) (lq : LkQ X.K F P Q) (lx : LkX X.K F Ex W) : te (WE X a) (WE X b) σ H Q := by
  rw [hte]
  refine ha.run W tk F H G σ env _ Ex _ hr hv h (fun F1 H1 G1 v x s1 r1 rv h1 => ?_) lx
  refine hb.run W tk F1 H1 G1 σ env _ Ex _ r1 (hv.mono s1) h1 (fun F2 H2 G2 u y s2 r2 ru h2 => ?_) (lx.mono s1)
  exact ho F2 H2 G2 v u x y P Q r2 (Rep.mono s2 _ _ rv) ru h2 ((lq.mono s1).mono s2)
theorem qe_op {op : Operator} {r : PO2} (ho : Q2 X (WO X (binaryOp op)) r) (ha : QE X a ta) (hb : QE X b tb) : QE X (.BinOp a op b pos) (pOp r ta tb) :=
  ⟨fun W tk F H G σ env P Ex Q hr hv h lq lx => we_of (pe_op op_wo pe_we pe_we) (op2 (te := tOp _) (fun _ _ => rfl) ho ha hb tk hr hv h lq lx)⟩
theorem qe_cmp {op : CmpOp} {r : PO2} (ho : Q2 X (WO X (compareOp op)) r) (ha : QE X a ta) (hb : QE X b tb) (hm : behindInMarks op b = false := by first | exact nomark _ | rfl) : QE X (.Compare a [op] [b] pos) (pOp r ta tb) :=
  ⟨fun W tk F H G σ env P Ex Q hr hv h lq lx => we_of (pe_cmpR op_wo pe_we pe_we hm) (op2 (te := tOp _) (fun _ _ => rfl) ho ha hb tk hr hv h lq lx)⟩
theorem qe_ix {r : PO2} (ho : Q2 X (WIx X) r) (ha : QE X a ta) (hb : QE X b tb) (hs : PlainIx b := by exact fun _ _ => rfl) : QE X (.Subscript a b pos) (pOp r ta tb) :=
  ⟨fun W tk F H G σ env P Ex Q hr hv h lq lx => we_of (pe_ix ix_wix pe_we pe_we hs) (op2 (te := tOp _) (fun _ _ => rfl) ho ha hb tk hr hv h lq lx)⟩
theorem qa_nil : QA X [] pNil := ⟨fun W tk F H G σ env P Ex Q hr hv h lq lx => wa_of pa_nil (lq F H G [] [] (Same.refl F) hr .nil h)⟩
theorem qa_cons (ha : QE X e ta) (hs' : QA X es t) (hs : starEach (e :: es) X.env = (false, eval e X.env) :: starEach es X.env := by rfl) : QA X (e :: es) (pCons ta t) := by
  refine ⟨fun W tk F H G σ env P Ex Q hr hv h lq lx => wa_of (pa_cons pe_we pa_wa hs) ?_⟩
  refine ha.run W tk F H G σ env _ Ex _ hr hv h (fun F1 H1 G1 v x s1 r1 rv h1 => ?_) lx
  refine hs'.run W tk F1 H1 G1 σ env _ Ex _ r1 (hv.mono s1) h1 (fun F2 H2 G2 vs xs s2 r2 rvs h2 => ?_) (lx.mono s1)
  exact lq F2 H2 G2 _ _ (s1.trans s2) r2 (.cons (Rep.mono s2 _ _ rv) rvs) h2
/-- a tuple; a list, frozen or owned -/
def pTup (t : PTA) (env : PEn) (G : GH) (P : PK1) (Ex : PXK) : Prop := t env G (fun xs G1 => xs.length ≤ sizeLine ∧ P (.tup xs) G1) Ex
def pLst (t : PTA) (env : PEn) (G : GH) (P : PK1) (Ex : PXK) : Prop := t env G (fun xs G1 => xs.length ≤ sizeLine ∧ P (.lst xs) G1) Ex
def pOwn (t : PTA) (env : PEn) (G : GH) (P : PK1) (Ex : PXK) : Prop := t env G (fun xs G1 => xs.length ≤ sizeLine ∧ ∀ p, G1 p = none → P (.ref p) (gset G1 p (.lst xs))) Ex
theorem qe_tup {x1} (h : QA X es t) : QE X (.Tuple es x1 pos) (pTup t) := by
  refine ⟨fun W tk F H G σ env P Ex Q hr hv h' lq lx => we_of (pe_tupN pa_wa) ?_⟩
  refine h.run W tk F H G σ env _ Ex _ hr hv h' (fun F1 H1 G1 vs xs s1 r1 rvs h1 => ?_) lx
  refine ⟨by rw [rvs.length]; exact h1.1, fun p o hp hd => ?_⟩
  have n := r1.sub.free hp
  exact lq _ _ _ _ _ (s1.trans (Same.new n)) (r1.froze hp) (.tup (TupOk.new hd) (RepA.mono (Same.new n) _ _ rvs)) h1.2
theorem qe_lst (h : QA X es t) : QE X (.List es pos) (pLst t) := by
  refine ⟨fun W tk F H G σ env P Ex Q hr hv h' lq lx => we_of (pe_lst pa_wa) ?_⟩
  refine h.run W tk F H G σ env _ Ex _ hr hv h' (fun F1 H1 G1 vs xs s1 r1 rvs h1 => ?_) lx
  refine ⟨by rw [rvs.length]; exact h1.1, fun p hp => ?_⟩
  have n := r1.sub.free hp
  exact lq _ _ _ _ _ (s1.trans (Same.new n)) (r1.froze hp) (.lst upd_same (RepA.mono (Same.new n) _ _ rvs)) h1.2
theorem qe_own (h : QA X es t) : QE X (.List es pos) (pOwn t) := by
  refine ⟨fun W tk F H G σ env P Ex Q hr hv h' lq lx => we_of (pe_lst pa_wa) ?_⟩
  refine h.run W tk F H G σ env _ Ex _ hr hv h' (fun F1 H1 G1 vs xs s1 r1 rvs h1 => ?_) lx
  refine ⟨by rw [rvs.length]; exact h1.1, fun p hp => ?_⟩
  have n := r1.sub.free hp
  exact lq _ _ _ _ _ s1 (r1.owned (g := .lst xs) n ⟨vs, upd_same, rvs⟩) (.ref p) (h1.2 p (r1.free hp))
/-- an owned list becomes a value -/
def pFrz (t : PTE) (env : PEn) (G : GH) (P : PK1) (Ex : PXK) : Prop := t env G (fun x G1 => match x with
  | .ref a => match G1 a with
    | some (.lst xs) => P (.lst xs) (gdel G1 a)
    | _ => False
  | _ => False) Ex
theorem qe_frz (h : QE X e ta) : QE X e (pFrz ta) := by
  refine ⟨fun W tk F H G σ env P Ex Q hr hv h' lq lx => ?_⟩
  refine h.run W tk F H G σ env _ Ex _ hr hv h' (fun F1 H1 G1 v x s1 r1 rv h1 => ?_) lx
  cases x with
  | ref a =>
    dsimp only at h1
    split at h1
    · rename_i xs e
      cases rv
      obtain ⟨F2, s2, r2, rep⟩ := r1.freeze e
      exact lq F2 H1 _ _ _ (s1.trans s2) r2 rep h1
    · exact h1.elim
  | _ => exact h1.elim
/-- f(e, ..), f a built-in function; a built-in class -/
theorem qe_callB {id : String} {r : POn} {x : Str} {p : Pos} (ho : Qn X (WC X (.builtin id)) r) (hg : Gl X x) (hm : X.mg x = none) (hv : bootBuiltins x = some (.builtin id)) (ha : QA X (e :: es) t) (hn : x ≠ "__name__" := by decide) (hdb : (x == ("__debug__" : Str)) = false := by decide)
    (he : starEach (e :: es) X.env = (false, eval e X.env) :: starEach es X.env := by rfl) (hpl : (backTo pos (starEach es X.env)).any (·.1) = false := by rfl) : QE X (.Call (.Name x p) (e :: es) [] pos) (pCB r t) := by
  refine ⟨fun W tk F H G σ env P Ex Q hr hv' h lq lx => we_of (pe_callB cr_wc hg hm hv pa_wa hn hdb he hpl) ?_⟩
  exact ha.run W tk F H G σ env _ Ex _ hr hv' h (fun F1 H1 G1 vs xs s1 r1 rvs h1 => ho F1 H1 G1 vs xs P Q r1 rvs h1 (lq.mono s1)) lx
theorem qe_callT {T : String} {r : POn} {x : Str} {p : Pos} (ho : Qn X (WC X (.type T)) r) (hg : Gl X x) (hm : X.mg x = none) (hv : bootBuiltins x = some (.type T)) (ha : QA X (e :: es) t) (hn : x ≠ "__name__" := by decide) (hdb : (x == ("__debug__" : Str)) = false := by decide)
    (he : starEach (e :: es) X.env = (false, eval e X.env) :: starEach es X.env := by rfl) (hpl : (backTo pos (starEach es X.env)).any (·.1) = false := by rfl) : QE X (.Call (.Name x p) (e :: es) [] pos) (pCB r t) := by
  refine ⟨fun W tk F H G σ env P Ex Q hr hv' h lq lx => we_of (pe_callTy cr_wc hg hm hv pa_wa hn hdb he hpl) ?_⟩
  exact ha.run W tk F H G σ env _ Ex _ hr hv' h (fun F1 H1 G1 vs xs s1 r1 rvs h1 => ho F1 H1 G1 vs xs P Q r1 rvs h1 (lq.mono s1)) lx
end

/-! ### tests -/
def pTb (t : PTE) (env : PEn) (G : GH) (P : (Bool → GH → Prop)) (Ex : PXK) : Prop := t env G (fun x G1 => match x with
  | .bl b => P b G1
  | _ => False) Ex
def pAnd (t u : PTT) (env : PEn) (G : GH) (P : (Bool → GH → Prop)) (Ex : PXK) : Prop := t env G (fun c G1 => if c = true then u env G1 P Ex else P false G1) Ex
def pOr (t u : PTT) (env : PEn) (G : GH) (P : (Bool → GH → Prop)) (Ex : PXK) : Prop := t env G (fun c G1 => if c = true then P true G1 else u env G1 P Ex) Ex
def pNot (t : PTT) (env : PEn) (G : GH) (P : (Bool → GH → Prop)) (Ex : PXK) : Prop := t env G (fun c G1 => P (!c) G1) Ex
def pAndV (ta tb : PTE) (env : PEn) (G : GH) (P : PK1) (Ex : PXK) : Prop := ta env G (fun x G1 => match x with
  | .bl c => if c = true then tb env G1 P Ex else P (.bl false) G1
  | _ => False) Ex
def pOrV (ta tb : PTE) (env : PEn) (G : GH) (P : PK1) (Ex : PXK) : Prop := ta env G (fun x G1 => match x with
  | .bl c => if c = true then P (.bl true) G1 else tb env G1 P Ex
  | _ => False) Ex
def pNotV (ta : PTE) (env : PEn) (G : GH) (P : PK1) (Ex : PXK) : Prop := ta env G (fun x G1 => match x with
  | .bl c => P (.bl (!c)) G1
  | _ => False) Ex
def pIfE (t : PTT) (ta tb : PTE) (env : PEn) (G : GH) (P : PK1) (Ex : PXK) : Prop := t env G (fun c G1 => if c = true then ta env G1 P Ex else tb env G1 P Ex) Ex
def pChain (r r' : PO2) (ta tb tc : PTE) (env : PEn) (G : GH) (P : PK1) (Ex : PXK) : Prop := ta env G (fun x G1 => tb env G1 (fun y G2 => r x y G2 (fun z G3 => match z with
  | .bl k => if k = true then tc env G3 (fun u G4 => r' y u G4 P) Ex else P (.bl false) G3
  | _ => False)) Ex) Ex
section
variable {X : Cx} {e a b c : Expr} {rest : List Expr} {ta tb tc : PTE} {t u : PTT} {pos : Pos}
/-- a bool's value, by its link -/
theorem lk_b {K : PySem.W.Frag} {F : Hp} {P : Bool → GH → Prop} {Q : Bool → Hp → Prop} (lq : LkB K F P Q) : LkQ K F (fun x G1 => match x with | .bl b => P b G1 | _ => False) (fun v H1 => ∃ k, v = .bl k ∧ Q k H1) := fun F' H' G' v x s r rv h => by
  cases x with
  | bl b => cases rv; exact ⟨b, rfl, lq F' H' G' b s r h⟩
  | _ => exact h.elim
theorem qt_val (h : QE X e ta) (he : ∀ whole, isTrue e X.env whole = (do let v ← whole; standAt e.pos; holding [v] (truthy v)) := by intro _; rfl) : QT X e (pTb ta) :=
  ⟨fun W tk F H G σ env P Ex Q hr hv h' lq lx => wt_of (pt_val pe_we he) (h.run W tk F H G σ env _ Ex _ hr hv h' (lk_b lq) lx)⟩
theorem qt_cmp {op : CmpOp} {r : PO2} (ho : Q2 X (WO X (compareOp op)) r) (ha : QE X a ta) (hb : QE X b tb) (hm : behindInMarks op b = false := by first | exact nomark _ | rfl) : QT X (.Compare a [op] [b] pos) (pTb (pOp r ta tb)) :=
  ⟨fun W tk F H G σ env P Ex Q hr hv h lq lx => wt_of (pt_cmpR op_wo pe_we pe_we hm) (op2 (te := tOp _) (fun _ _ => rfl) ho ha hb tk hr hv h (lk_b lq) lx)⟩
theorem qw_and1 (ha : QT X a t) : QW X (.BoolOp .And [a] pos) t :=
  ⟨fun W tk F H G σ env P Ex Q hr hv h lq lx => ww_of (pw_and1 pt_wt) (ha.run W tk F H G σ env P Ex Q hr hv h lq lx)⟩
theorem qw_or1 (ha : QT X a t) : QW X (.BoolOp .Or [a] pos) t :=
  ⟨fun W tk F H G σ env P Ex Q hr hv h lq lx => ww_of (pw_or1 pt_wt) (ha.run W tk F H G σ env P Ex Q hr hv h lq lx)⟩
theorem qw_and (ha : QT X a t) (hb : QW X (.BoolOp .And (b :: rest) pos) u) : QW X (.BoolOp .And (a :: b :: rest) pos) (pAnd t u) := by
  refine ⟨fun W tk F H G σ env P Ex Q hr hv h lq lx => ww_of (pw_and pt_wt pw_ww) ?_⟩
  refine ha.run W tk F H G σ env _ Ex _ hr hv h (fun F1 H1 G1 c s1 r1 h1 => ?_) lx
  cases c with
  | true => exact hb.run W tk F1 H1 G1 σ env P Ex Q r1 (hv.mono s1) h1 (lq.mono s1) (lx.mono s1)
  | false => exact lq F1 H1 G1 false s1 r1 h1
theorem qw_or (ha : QT X a t) (hb : QW X (.BoolOp .Or (b :: rest) pos) u) : QW X (.BoolOp .Or (a :: b :: rest) pos) (pOr t u) := by
  refine ⟨fun W tk F H G σ env P Ex Q hr hv h lq lx => ww_of (pw_or pt_wt pw_ww) ?_⟩
  refine ha.run W tk F H G σ env _ Ex _ hr hv h (fun F1 H1 G1 c s1 r1 h1 => ?_) lx
  cases c with
  | false => exact hb.run W tk F1 H1 G1 σ env P Ex Q r1 (hv.mono s1) h1 (lq.mono s1) (lx.mono s1)
  | true => exact lq F1 H1 G1 true s1 r1 h1
theorem qt_w (h : QW X e t) : QT X e t :=
  ⟨fun W tk F H G σ env P Ex Q hr hv h' lq lx => wt_of (PW.pt pw_ww) (h.run W tk F H G σ env P Ex Q hr hv h' lq lx)⟩
theorem qt_not (ha : QT X a t) : QT X (.UnaryOp .Not a pos) (pNot t) :=
  ⟨fun W tk F H G σ env P Ex Q hr hv h lq lx => wt_of (pt_not pt_wt) (ha.run W tk F H G σ env _ Ex _ hr hv h (fun F1 H1 G1 c s1 r1 h1 => lq F1 H1 G1 (!c) s1 r1 h1) lx)⟩
theorem qe_one {op : BoolOp} (h : QE X a ta) : QE X (.BoolOp op [a] pos) ta :=
  ⟨fun W tk F H G σ env P Ex Q hr hv h' lq lx => we_of (pe_one pe_we) (h.run W tk F H G σ env P Ex Q hr hv h' lq lx)⟩
theorem qe_and (ha : QE X a ta) (hb : QE X (.BoolOp .And (b :: rest) pos) tb) : QE X (.BoolOp .And (a :: b :: rest) pos) (pAndV ta tb) := by
  refine ⟨fun W tk F H G σ env P Ex Q hr hv h lq lx => we_of (pe_and pe_we pe_we) ?_⟩
  refine ha.run W tk F H G σ env _ Ex _ hr hv h (fun F1 H1 G1 v x s1 r1 rv h1 => ?_) lx
  cases x with
  | bl c =>
    cases rv
    refine ⟨c, rfl, ?_⟩
    cases c with
    | true => exact hb.run W tk F1 H1 G1 σ env P Ex Q r1 (hv.mono s1) h1 (lq.mono s1) (lx.mono s1)
    | false => exact lq F1 H1 G1 _ _ s1 r1 (.bl false) h1
  | _ => exact h1.elim
theorem qe_or (ha : QE X a ta) (hb : QE X (.BoolOp .Or (b :: rest) pos) tb) : QE X (.BoolOp .Or (a :: b :: rest) pos) (pOrV ta tb) := by
  refine ⟨fun W tk F H G σ env P Ex Q hr hv h lq lx => we_of (pe_or pe_we pe_we) ?_⟩
  refine ha.run W tk F H G σ env _ Ex _ hr hv h (fun F1 H1 G1 v x s1 r1 rv h1 => ?_) lx
  cases x with
  | bl c =>
    cases rv
    refine ⟨c, rfl, ?_⟩
    cases c with
    | false => exact hb.run W tk F1 H1 G1 σ env P Ex Q r1 (hv.mono s1) h1 (lq.mono s1) (lx.mono s1)
    | true => exact lq F1 H1 G1 _ _ s1 r1 (.bl true) h1
  | _ => exact h1.elim
theorem qe_not (ha : QE X a ta) : QE X (.UnaryOp .Not a pos) (pNotV ta) := by
  refine ⟨fun W tk F H G σ env P Ex Q hr hv h lq lx => we_of (pe_not pe_we) ?_⟩
  refine ha.run W tk F H G σ env _ Ex _ hr hv h (fun F1 H1 G1 v x s1 r1 rv h1 => ?_) lx
  cases x with
  | bl c =>
    cases rv
    exact ⟨c, rfl, lq F1 H1 G1 _ _ s1 r1 (.bl (!c)) h1⟩
  | _ => exact h1.elim
theorem qe_ife (hc : QT X c t) (ha : QE X a ta) (hb : QE X b tb) : QE X (.IfExp c a b pos) (pIfE t ta tb) := by
  refine ⟨fun W tk F H G σ env P Ex Q hr hv h lq lx => we_of (pe_ifExp pt_wt pe_we pe_we) ?_⟩
  refine hc.run W tk F H G σ env _ Ex _ hr hv h (fun F1 H1 G1 c s1 r1 h1 => ?_) lx
  cases c with
  | true => exact ha.run W tk F1 H1 G1 σ env P Ex Q r1 (hv.mono s1) h1 (lq.mono s1) (lx.mono s1)
  | false => exact hb.run W tk F1 H1 G1 σ env P Ex Q r1 (hv.mono s1) h1 (lq.mono s1) (lx.mono s1)
theorem chain2 {op op' : CmpOp} {r r' : PO2} (ho : Q2 X (WO X (compareOp op)) r) (ho' : Q2 X (WO X (compareOp op')) r') (ha : QE X a ta) (hb : QE X b tb) (hc : QE X c tc) {W : WX} {F H : Hp} {G : GH} {σ : List (Option V)} {env : PEn} {P : PK1} {Ex : PXK} {Q : VK} (tk : Takes X W)
    (hr : Rl X.K F H G) (hv : Vs X.K F σ env) (h : pChain r r' ta tb tc env G P Ex) (lq : LkQ X.K F P Q) (lx : LkX X.K F Ex W) : tChain (WO X (compareOp op)) (WO X (compareOp op')) (WE X a) (WE X b) (WE X c) σ H Q := by
  refine ha.run W tk F H G σ env _ Ex _ hr hv h (fun F1 H1 G1 v x s1 r1 rv h1 => ?_) lx
  refine hb.run W tk F1 H1 G1 σ env _ Ex _ r1 (hv.mono s1) h1 (fun F2 H2 G2 u y s2 r2 ru h2 => ?_) (lx.mono s1)
  refine ho F2 H2 G2 v u x y _ _ r2 (Rep.mono s2 _ _ rv) ru h2 fun F3 H3 G3 z zz s3 r3 rz h3 => ?_
  have s13 := (s1.trans s2).trans s3
  cases zz with
  | bl k =>
    cases rz
    refine ⟨k, rfl, ?_⟩
    cases k with
    | false => exact lq F3 H3 G3 _ _ s13 r3 (.bl false) h3
    | true => exact hc.run W tk F3 H3 G3 σ env _ Ex _ r3 (hv.mono s13) h3 (fun F4 H4 G4 w2 z2 s4 r4 rw2 h4 => ho' F4 H4 G4 u w2 y z2 P Q r4 (Rep.mono (s3.trans s4) _ _ ru) rw2 h4 (lq.mono (s13.trans s4))) (lx.mono s13)
  | _ => exact h3.elim
theorem qe_chain {op op' : CmpOp} {r r' : PO2} (ho : Q2 X (WO X (compareOp op)) r) (ho' : Q2 X (WO X (compareOp op')) r') (ha : QE X a ta) (hb : QE X b tb) (hc : QE X c tc) (hm : lastMarks [op, op'] [b, c] = false := by with_unfolding_all rfl) :
    QE X (.Compare a [op, op'] [b, c] pos) (pChain r r' ta tb tc) :=
  ⟨fun W tk F H G σ env P Ex Q hr hv h lq lx => we_of (pe_chain op_wo op_wo pe_we pe_we pe_we hm) (chain2 ho ho' ha hb hc tk hr hv h lq lx)⟩
theorem qt_chain {op op' : CmpOp} {r r' : PO2} (ho : Q2 X (WO X (compareOp op)) r) (ho' : Q2 X (WO X (compareOp op')) r') (ha : QE X a ta) (hb : QE X b tb) (hc : QE X c tc) (hm : lastMarks [op, op'] [b, c] = false := by with_unfolding_all rfl) :
    QT X (.Compare a [op, op'] [b, c] pos) (pTb (pChain r r' ta tb tc)) :=
  ⟨fun W tk F H G σ env P Ex Q hr hv h lq lx => wt_of (pt_chain op_wo op_wo pe_we pe_we pe_we hm) (chain2 ho ho' ha hb hc tk hr hv h (lk_b lq) lx)⟩
end
end PL
end

section
/-! PStmt: statements, targets, loops, comprehensions, defs and their calls. -/
namespace PL
open PySem PySem.Spec PyProof.Rows L2

/-! ### blocks -/
def pNext (D : PEnds) (env : PEn) (G : GH) : Prop := D.nx env G
def pSeq (t u : PTS) (D : PEnds) (env : PEn) (G : GH) : Prop := t { D with nx := u D } env G
def pDrop (t : PTE) (D : PEnds) (env : PEn) (G : GH) : Prop := t env G (fun _ G1 => D.nx env G1) D.xs
def pRet (t : PTE) (D : PEnds) (env : PEn) (G : GH) : Prop := t env G D.rt D.xs
def pRetN (D : PEnds) (_z1 : PEn) (G : GH) : Prop := D.rt .non G
def pIf (c : PTT) (t u : PTS) (D : PEnds) (env : PEn) (G : GH) : Prop := c env G (fun b G1 => if b = true then t D env G1 else u D env G1) D.xs
def pSet (i : Nat) (t : PTE) (D : PEnds) (env : PEn) (G : GH) : Prop := t env G (fun x G1 => D.nx (env.set i (some x)) G1) D.xs
def pAsg (t : PTE) (g : PTG) (D : PEnds) (env : PEn) (G : GH) : Prop := t env G (fun x G1 => g x env G1 D.nx D.xs) D.xs
section
variable {X : Cx} {e a b c : Expr} {st : Stmt} {sts rest : List Stmt} {te ta tb : PTE} {t u : PTS} {tc : PTT} {g : PTG} {pos : Pos}
theorem qb_nil : QB X [] pNext := ⟨fun W tk F H G σ env P D hr hv h ld lx => wb_of pss_nil (ld.nx F H G σ env (Same.refl F) hr hv h)⟩
theorem qb_cons (h1 : QS X st t) (h2 : QB X rest u) : QB X (st :: rest) (pSeq t u) := by
  refine ⟨fun W tk F H G σ env P D hr hv h ld lx => wb_of (pss_cons ps_ws ps_wb) ?_⟩
  exact h1.run W tk F H G σ env _ _ hr hv h ⟨fun F' H' G' σ' env' s r v q => h2.run W tk F' H' G' σ' env' P D r v q (ld.mono s) (lx.mono s), ld.rt, ld.bk, ld.ct⟩ lx
theorem qb_one (h1 : QS X st t) : QB X [st] t :=
  ⟨fun W tk F H G σ env P D hr hv h ld lx => wb_of (pss_one ps_ws) (h1.run W tk F H G σ env P D hr hv h ld lx)⟩
theorem qs_pass : QS X (.Pass pos) pNext := ⟨fun W tk F H G σ env P D hr hv h ld lx => ws_of ps_pass (ld.nx F H G σ env (Same.refl F) hr hv h)⟩
theorem qs_doc {x j pos pos'} : QS X (.Expr (.Constant (.str x) j pos) pos') pNext := ⟨fun W tk F H G σ env P D hr hv h ld lx => ws_of ps_doc (ld.nx F H G σ env (Same.refl F) hr hv h)⟩
theorem qs_expr (he : QE X e te) (hs : swapsWith e none pos.line X.env = pure false := by rfl) : QS X (.Expr e pos) (pDrop te) :=
  ⟨fun W tk F H G σ env P D hr hv h ld lx => ws_of (ps_expr pe_we hs) (he.run W tk F H G σ env _ _ _ hr hv h (fun F' H' G' v x s r rv q => ld.nx F' H' G' σ env s r (hv.mono s) q) lx)⟩
theorem qs_ret (he : QE X e te) : QS X (.Return (some e) pos) (pRet te) :=
  ⟨fun W tk F H G σ env P D hr hv h ld lx => ws_of (ps_ret pe_we) (he.run W tk F H G σ env _ _ _ hr hv h ld.rt lx)⟩
theorem qs_retN : QS X (.Return none pos) pRetN := ⟨fun W tk F H G σ env P D hr hv h ld lx => ws_of ps_retN (ld.rt F H G .non .non (Same.refl F) hr .non h)⟩
theorem qs_if {ss tt : List Stmt} (hc : QT X c tc) (ha : QB X ss t) (hb : QB X tt u) : QS X (.If c ss tt pos) (pIf tc t u) := by
  refine ⟨fun W tk F H G σ env P D hr hv h ld lx => ws_of (ps_if pt_wt ps_wb ps_wb) ?_⟩
  refine hc.run W tk F H G σ env _ _ _ hr hv h (fun F1 H1 G1 b s1 r1 h1 => ?_) lx
  cases b with
  | true => exact ha.run W tk F1 H1 G1 σ env P D r1 (hv.mono s1) h1 (ld.mono s1) (lx.mono s1)
  | false => exact hb.run W tk F1 H1 G1 σ env P D r1 (hv.mono s1) h1 (ld.mono s1) (lx.mono s1)

/-! ### targets -/
def pgName (i : Nat) (x : PV) (env : PEn) (G : GH) (P : (PEn → GH → Prop)) (_z4 : PXK) : Prop := P (env.set i (some x)) G
def pgNil (xs : (List PV)) (env : PEn) (G : GH) (P : (PEn → GH → Prop)) (_z4 : PXK) : Prop := match xs with
  | [] => P env G
  | _ => False
def pgCons (t : PTG) (u : PTGs) (xs : (List PV)) (env : PEn) (G : GH) (P : (PEn → GH → Prop)) (Ex : PXK) : Prop := match xs with
  | x :: r => t x env G (fun env' G' => u r env' G' P Ex) Ex
  | _ => False
def pgTup (n : Nat) (t : PTGs) (x : PV) (env : PEn) (G : GH) (P : (PEn → GH → Prop)) (Ex : PXK) : Prop := match x with
  | .tup xs => xs.length = n ∧ t xs env G P Ex
  | _ => False
/-- o[i] = x, by values -/
abbrev PO3 := PV → PV → PV → GH → (GH → Prop) → Prop
def Q3 (X : Cx) (f : TSet) (r : PO3) : Prop := ∀ (F H : Hp) (G : GH) (o i v : V) (po pi px : PV) (P : GH → Prop) (Q : Hp → Prop), Rl X.K F H G → Rep X.K F o po → Rep X.K F i pi → Rep X.K F v px → r po pi px G P → (∀ F' H' G', Same F F' → Rl X.K F' H' G' → P G' → Q H') → f o i v H Q
def pgSub (r : PO3) (to ti : PTE) (x : PV) (env : PEn) (G : GH) (P : (PEn → GH → Prop)) (Ex : PXK) : Prop := to env G (fun o G1 => ti env G1 (fun i G2 => r o i x G2 (fun G3 => P env G3)) Ex) Ex
variable {es : List Expr} {tg' : PTGs}
theorem wipe_get (σ : List (Option V)) (j : Nat) : ∀ ws : List Nat, (L2.wipe σ ws)[j]? = if j ∈ ws then (σ[j]?).map (fun _ => none) else σ[j]?
  | [] => by simp [L2.wipe]
  | w :: ws => by
    have ih := wipe_get σ j ws
    unfold L2.wipe
    by_cases e : w = j
    · subst e
      rw [if_pos List.mem_cons_self, List.getElem?_set_self']
      rw [ih]
      split <;> cases σ[w]? <;> rfl
    · rw [List.getElem?_set_ne e, ih]
      by_cases m : j ∈ ws
      · rw [if_pos m, if_pos (List.mem_cons_of_mem _ m)]
      · rw [if_neg m, if_neg (by simp only [List.mem_cons, not_or]; exact ⟨fun z => e z.symm, m⟩)]
theorem wipe_set {σ : List (Option V)} {i : Nat} {x : Option V} {ws : List Nat} (h : i ∈ ws) : L2.wipe (σ.set i x) ws = L2.wipe σ ws := by
  apply List.ext_getElem?
  intro j
  rw [wipe_get, wipe_get]
  by_cases e : i = j
  · subst e
    rw [if_pos h, if_pos h, List.getElem?_set_self']
    cases σ[i]? <;> rfl
  · rw [List.getElem?_set_ne e]
theorem qg_name {i : Nat} {x : Str} {ws : List Nat} (hN : X.N.Nodup) (hi : X.N[i]? = some x) (hx : Loc X.env.scope x) (hf : X.fn x = true ∨ X.env.scope.names.lookup x = some .local := by first | exact .inl rfl | exact .inr rfl | assumption) (hw : i ∈ ws := by decide) : QG true X ws (.Name x pos) (pgName i) :=
  ⟨fun W tk F H G σ env v x P Ex Q hr hv rv h lq lx => wg_of (pg_name hN hi hx hf) (lq F H G _ _ (Same.refl F) hr (hv.set rv.strong) (wipe_set hw) h)⟩
theorem qgs_nil {ws : List Nat} : QGs X ws [] pgNil := by
  refine ⟨fun W tk F H G σ env vs xs P Ex Q hr hv rv h lq lx => wgs_of pgs_nil ?_⟩
  cases rv with
  | nil => exact ⟨rfl, lq F H G _ _ (Same.refl F) hr hv rfl h⟩
  | cons _ _ => exact h.elim
theorem qgs_cons {ws : List Nat} (h1 : QG true X ws e g) (h2 : QGs X ws es tg') (hs : (assignEach (e :: es) X.env).map (·.2) = assign e X.env :: (assignEach es X.env).map (·.2) := by rfl) : QGs X ws (e :: es) (pgCons g tg') := by
  refine ⟨fun W tk F H G σ env vs xs P Ex Q hr hv rv h lq lx => wgs_of (pgs_cons pg_wg pg_wgs hs) ?_⟩
  cases rv with
  | nil => exact h.elim
  | cons r1 r2 =>
    refine ⟨_, _, rfl, ?_⟩
    exact h1.run W tk F H G σ env _ _ _ Ex _ hr hv (.inl r1) h (fun F' H' G' σ' env' s r v z q => h2.run W tk F' H' G' σ' env' _ _ P Ex Q r v (RepA.mono s _ _ r2) q (fun F2 H2 G2 σ2 env2 s2 r2 v2 z2 => lq F2 H2 G2 σ2 env2 (s.trans s2) r2 v2 (z2.trans z)) (lx.mono s)) lx
theorem qg_tup {sb : Bool} {k n : Nat} {ws : List Nat} (hc : X.calm = true) (h : QGs X ws es tg') (hn : (assignEach es X.env).length = n := by rfl) (hst : (assignEach es X.env).findIdx? (·.1) = none := by rfl) : QG sb X ws (.Tuple es k pos) (pgTup n tg') := by
  refine ⟨fun W tk F H G σ env v x P Ex Q hr hv rv hh lq lx => wg_of (pg_tup hc pg_wgs hn hst) ?_⟩
  cases x with
  | tup xs =>
    obtain ⟨a, vs, rfl, hq, ha⟩ := rv.tup
    refine ⟨_, _, rfl, Same.tupT hr.sub hq, by rw [ha.length]; exact hh.1, ?_⟩
    exact h.run W tk F H G σ env _ _ P Ex Q hr hv ha hh.2 lq lx
  | _ => exact hh.elim
theorem qg_sub {o i : Expr} {to ti : PTE} {r : PO3} {ws : List Nat} (ho : QE X o to) (hi : QE X i ti) (hs : Q3 X (WSet X) r)
    (ha : ∀ v, assign (.Subscript o i pos) X.env v = (do
      let ov ← holding [v] (eval o X.env)
      let iv ← holding [v, ov] (eval i X.env)
      standAt pos
      holding [v, ov, iv] (setItem ov iv v)
      release [v, ov, iv] []) := by intro _; rfl) : QG true X ws (.Subscript o i pos) (pgSub r to ti) := by
  refine ⟨fun W tk F H G σ env v x P Ex Q hr hv rv hh lq lx => wg_of (pg_sub pe_we pe_we set_wset ha) ?_⟩
  refine ho.run W tk F H G σ env _ Ex _ hr hv hh (fun F1 H1 G1 ov ox s1 r1 ro h1 => ?_) lx
  refine hi.run W tk F1 H1 G1 σ env _ Ex _ r1 (hv.mono s1) h1 (fun F2 H2 G2 iv ix s2 r2 ri h2 => ?_) (lx.mono s1)
  exact hs F2 H2 G2 ov iv v ox ix x _ _ r2 (Rep.mono s2 _ _ ro) ri (Rep.mono (s1.trans s2) _ _ rv.strong) h2 fun F3 H3 G3 s3 r3 h3 => lq F3 H3 G3 σ env ((s1.trans s2).trans s3) r3 (hv.mono ((s1.trans s2).trans s3)) rfl h3
theorem qs_asg {tg : Expr} {ws : List Nat} (he : QE X e te) (hg : QG true X ws tg g) (hs : swapsWithSole [tg] e pos.line X.env = pure false := by rfl) (hw : swappedStores [tg] e X.env = pure none := by rfl)
    (h1 : (assignEach [tg] X.env).map (·.2) = [assign tg X.env] := by rfl) : QS X (.Assign [tg] e pos) (pAsg te g) := by
  refine ⟨fun W tk F H G σ env P D hr hv h ld lx => ws_of (ps_asg pe_we pg_wg hs hw h1) ?_⟩
  exact he.run W tk F H G σ env _ _ _ hr hv h (fun F1 H1 G1 v x s1 r1 rv h1 => hg.run W tk F1 H1 G1 σ env v x _ _ _ r1 (hv.mono s1) (.inl rv) h1 (fun F2 H2 G2 σ2 env2 s2 r2 v2 _ => ld.nx F2 H2 G2 σ2 env2 (s1.trans s2) r2 v2) (lx.mono s1)) lx
theorem qs_set {i : Nat} {x : Str} {pos' : Pos} (hN : X.N.Nodup) (hi : X.N[i]? = some x) (hx : Loc X.env.scope x) (he : QE X e te) (hs : swapsWith e (some (.Name x pos')) pos.line X.env = pure false := by rfl) (hf : X.fn x = true ∨ X.env.scope.names.lookup x = some .local := by first | exact .inl rfl | exact .inr rfl | assumption) :
    QS X (.Assign [.Name x pos'] e pos) (pSet i te) := by
  refine ⟨fun W tk F H G σ env P D hr hv h ld lx => ws_of (ps_set hN hi hx pe_we hs hf) ?_⟩
  exact he.run W tk F H G σ env _ _ _ hr hv h (fun F1 H1 G1 v x s1 r1 rv h1 => ld.nx F1 H1 G1 _ _ s1 r1 ((hv.mono s1).set rv) h1) lx
/-- a, b = x, y -/
def pPar (i j : Nat) (ta : PTA) (D : PEnds) (env : PEn) (G : GH) : Prop := ta env G (fun xs G1 => match xs with
  | [x, y] => D.nx ((env.set i (some x)).set j (some y)) G1
  | _ => False) D.xs
theorem qs_par {i j : Nat} {x y : Str} {ta : PTA} {px py pt : Pos} {kt k2 pt2} (hc : X.calm = true) (hN : X.N.Nodup) (hi : X.N[i]? = some x) (hj : X.N[j]? = some y) (hij : i ≠ j)
    (hx : X.env.scope.names.lookup x = some .local) (hy : X.env.scope.names.lookup y = some .local) (ha : QA X [a, b] ta)
    (hw : swappedStores [.Tuple [.Name x px, .Name y py] kt pt] (.Tuple [a, b] k2 pt2) X.env = pure (some [x, y]))
    (hs : swapsWithSole [.Tuple [.Name x px, .Name y py] kt pt] (.Tuple [a, b] k2 pt2) pos.line X.env = pure false := by rfl) :
    QS X (.Assign [.Tuple [.Name x px, .Name y py] kt pt] (.Tuple [a, b] k2 pt2) pos) (pPar i j ta) := by
  refine ⟨fun W tk F H G σ env P D hr hv h ld lx => ws_of (ps_par hc hN hi hj hij hx hy pa_wa hw hs) ?_⟩
  refine ha.run W tk F H G σ env _ _ _ hr hv h (fun F1 H1 G1 vs xs s1 r1 rvs h1 => ?_) lx
  match xs, rvs, h1 with
  | [p, q], .cons ra (.cons rb .nil), h1 => exact ⟨_, _, rfl, ld.nx F1 H1 G1 _ _ s1 r1 (((hv.mono s1).set ra).set rb) h1⟩
end
end PL
end

section
/-! PLoop: what is walked, for, while, comprehensions, defs and their calls. -/
namespace PL
open PySem PySem.Spec PyProof.Rows L2

structure PIt where
  item : Nat → GH → PV → Prop
  done : Nat → GH → Prop
def itL (xs : List PV) : PIt := ⟨fun i _ x => xs[i]? = some x, fun i _ => xs.length ≤ i⟩
def itO (a : Addr) : PIt := ⟨fun i G x => ∃ xs, G a = some (.lst xs) ∧ xs[i]? = some x, fun i G => ∃ xs, G a = some (.lst xs) ∧ xs.length ≤ i⟩
def itR (lo : Int) (n : Nat) : PIt := ⟨fun i _ x => i < n ∧ x = .int (lo + i), fun i _ => n ≤ i⟩
structure ItRel (st : Bool) (K : PySem.W.Frag) (F : Hp) (J : It) (P : PIt) : Prop where
  go : ∀ (F' H' : Hp) (G' : GH) (i : Nat) (x : PV), Same F F' → Rl K F' H' G' → P.item i G' x → J.go i H' ∧ ∀ v H3, J.yld i H' v H3 → ∃ F3, Same F' F3 ∧ Rl K F3 H3 G' ∧ RepB st K F3 v x
  stop : ∀ (F' H' : Hp) (G' : GH) (i : Nat), Same F F' → Rl K F' H' G' → P.done i G' → J.stop i H'
theorem ItRel.mono {st : Bool} {K : PySem.W.Frag} {F F1 : Hp} {J : It} {P : PIt} (h : ItRel st K F J P) (s : Same F F1) : ItRel st K F1 J P := ⟨fun F' H' G' i x s' => h.go F' H' G' i x (s.trans s'), fun F' H' G' i s' => h.stop F' H' G' i (s.trans s')⟩
abbrev PTI := PEn → GH → (PIt → GH → Prop) → PXK → Prop
def LkI (st : Bool) (K : PySem.W.Frag) (F : Hp) (R : PIt → GH → Prop) (R' : It → Hp → Prop) : Prop := ∀ (F' H' : Hp) (G' : GH) (J : It) (P : PIt), Same F F' → Rl K F' H' G' → ItRel st K F' J P → R P G' → R' J H'
structure QI (st : Bool) (X : Cx) (tg iter : Expr) (t : PTI) : Prop where
  run : ∀ (W : WX), Takes X W → ∀ (F H : Hp) (G : GH) (σ : List (Option V)) (env : PEn) (R : PIt → GH → Prop) (Ex : PXK) (R' : It → Hp → Prop), Rl X.K F H G → Vs X.K F σ env → t env G R Ex → LkI st X.K F R R' → LkX X.K F Ex W → WI X tg iter σ H R'

/-! ### sources -/
/-- a list or a tuple -/
theorem pi_seq {X : Cx} {tg l : Expr} {tl : TE} (hl : PE X l tl) : PI X tg l (fun σ H R => tl σ H fun x H1 => ∃ a, x = .ref a ∧ (((∃ xs, SqL X.K H1 a xs) ∧ R (Itl X.K a) H1) ∨ ((∃ xs, SqT X.K H1 a xs) ∧ R (Itt X.K a) H1))) := by
  refine ⟨fun pins s σ H R I h => ?_⟩
  refine thn (hl.run pins s σ H _ I h) fun v s1 ⟨x, H1, I1, r1, q1⟩ => ?_
  obtain ⟨a, e, ⟨⟨xs, hq⟩, q⟩ | ⟨⟨xs, hq⟩, q⟩⟩ := q1
  · subst e
    cases r1
    obtain ⟨its, rv, p, hz⟩ := I1.list hq
    refine wpAny_pyIter_list p.isList ?_
    refine ⟨s1.heap.objs.size, [s1.heap.objs.size], _, _, H1, rfl, I1.kept (t' := s1.toks) fun b o e => Heap.get?_push_of_some _ e, turn_list a _, ⟨_, Heap.get?_push_size _ rfl, rfl, rfl⟩, fun b hb => ?_, q⟩
    have e : b = s1.heap.objs.size := by simpa using hb
    subst e
    exact I1.fpOk (Nat.le_refl _) (I1.hok.fresh (Nat.le_refl _))
  · subst e
    cases r1
    obtain ⟨its, rv, p, hz⟩ := I1.tuple hq
    refine wpAny_pyIter_tuple (show s1.heap.IsTuple a its.toArray from p) ?_
    refine ⟨s1.heap.objs.size, [s1.heap.objs.size], _, _, H1, rfl, I1.kept (t' := s1.toks) fun b o e => Heap.get?_push_of_some _ e, turn_tuple a _, ⟨_, Heap.get?_push_size _ rfl, rfl, rfl⟩, fun b hb => ?_, q⟩
    have e : b = s1.heap.objs.size := by simpa using hb
    subst e
    exact I1.fpOk (Nat.le_refl _) (I1.hok.fresh (Nat.le_refl _))

theorem rel_lst {K : PySem.W.Frag} {F : Hp} {a : Addr} {vs : List V} {xs : List PV} (h : ∀ H, Same F H → SqL K H a vs) (r : RepA K F vs xs) : ItRel true K F (Itl K a) (itL xs) := by
  refine ⟨fun F' H' G' i x s hr e => ?_, fun F' H' G' i s hr e => ?_⟩
  · have q := h H' (s.trans hr.sub)
    obtain ⟨v, h1, h2⟩ := r.get (i := i) e
    refine ⟨⟨vs, v, q, h1⟩, fun u H3 y => ?_⟩
    obtain ⟨rfl, y⟩ := y
    have e2 := y vs q
    rw [h1] at e2
    cases e2
    exact ⟨F', Same.refl F', hr, (.inl (Rep.mono s _ _ h2))⟩
  · exact ⟨vs, h H' (s.trans hr.sub), by rw [r.length]; exact e⟩
theorem rel_tup {K : PySem.W.Frag} {F : Hp} {a : Addr} {vs : List V} {xs : List PV} (h : SqT K F a vs) (r : RepA K F vs xs) : ItRel true K F (Itt K a) (itL xs) := by
  refine ⟨fun F' H' G' i x s hr e => ?_, fun F' H' G' i s hr e => ?_⟩
  · have q := Same.tupT (s.trans hr.sub) h
    obtain ⟨v, h1, h2⟩ := r.get (i := i) e
    refine ⟨⟨vs, v, q, h1⟩, fun u H3 y => ?_⟩
    obtain ⟨rfl, y⟩ := y
    have e2 := y vs q
    rw [h1] at e2
    cases e2
    exact ⟨F', Same.refl F', hr, (.inl (Rep.mono s _ _ h2))⟩
  · exact ⟨vs, Same.tupT (s.trans hr.sub) h, by rw [r.length]; exact e⟩
theorem rel_own {K : PySem.W.Frag} {F : Hp} {a : Addr} : ItRel true K F (Itl K a) (itO a) := by
  refine ⟨fun F' H' G' i x s hr e => ?_, fun F' H' G' i s hr e => ?_⟩
  · obtain ⟨xs, e1, e2⟩ := e
    obtain ⟨_, vs, h1, h2⟩ := hr.own _ _ e1
    obtain ⟨v, h3, h4⟩ := h2.get (i := i) e2
    have q : SqL K H' a vs := .inl (.inl h1)
    refine ⟨⟨vs, v, q, h3⟩, fun u H3 y => ?_⟩
    obtain ⟨rfl, y⟩ := y
    have e2 := y vs q
    rw [h3] at e2
    cases e2
    exact ⟨F', Same.refl F', hr, .inl h4⟩
  · obtain ⟨xs, e1, e2⟩ := e
    obtain ⟨_, vs, h1, h2⟩ := hr.own _ _ e1
    exact ⟨vs, .inl (.inl h1), by rw [h2.length]; exact e2⟩
def iSeqR (x : PV) (G : GH) (R : PIt → GH → Prop) : Prop := match x with
  | .lst xs => R (itL xs) G
  | .tup xs => R (itL xs) G
  | .scr ns => R (itL (ns.map .int)) G
  | .ref a => (∃ xs, G a = some (.lst xs)) ∧ R (itO a) G
  | _ => False
def pISeq (t : PTE) (env : PEn) (G : GH) (R : (PIt → GH → Prop)) (Ex : PXK) : Prop := t env G (fun x G1 => iSeqR x G1 R) Ex
section
variable {X : Cx} {tg e a b : Expr} {te : PTE} {ta : PTA} {pos p : Pos}
theorem qi_seq (he : QE X e te) : QI true X tg e (pISeq te) := by
  refine ⟨fun W tk F H G σ env R Ex R' hr hv h lr lx => wi_of (pi_seq pe_we) ?_⟩
  refine he.run W tk F H G σ env _ Ex _ hr hv h (fun F1 H1 G1 v x s1 r1 rv h1 => ?_) lx
  cases x with
  | lst xs =>
    cases rv with
    | lst hf ha => exact ⟨_, rfl, .inl ⟨⟨_, .inl (.inl (r1.sub _ _ hf))⟩, lr F1 H1 G1 _ _ s1 r1 (rel_lst (fun H' s => .inl (.inl (s _ _ hf))) ha) h1⟩⟩
  | tup xs =>
    cases rv with
    | tup hf ha => exact ⟨_, rfl, .inr ⟨⟨_, Same.tupT r1.sub hf.sq⟩, lr F1 H1 G1 _ _ s1 r1 (rel_tup hf.sq ha) h1⟩⟩
  | scr ns =>
    cases rv with
    | scr hf => exact ⟨_, rfl, .inl ⟨⟨_, r1.sub.seq hf⟩, lr F1 H1 G1 _ _ s1 r1 (rel_lst (fun H' s => s.seq hf) (RepA.of_ints ns)) h1⟩⟩
  | ref a =>
    cases rv
    obtain ⟨⟨xs, e1⟩, h1⟩ := h1
    obtain ⟨_, vs, e2, _⟩ := r1.own _ _ e1
    exact ⟨_, rfl, .inl ⟨⟨vs, .inl (.inl e2)⟩, lr F1 H1 G1 _ _ s1 r1 rel_own h1⟩⟩
  | _ => exact h1.elim
theorem rel_rng {K : PySem.W.Frag} {F : Hp} {lo : Int} {n : Nat} : ItRel true K F (Itr lo n) (itR lo n) := by
  refine ⟨fun F' H' G' i x s hr e => ⟨e.1, fun u H3 y => ?_⟩, fun F' H' G' i s hr e => e⟩
  obtain ⟨rfl, rfl⟩ := y
  rw [e.2]
  exact ⟨F', Same.refl F', hr, .inl (.int _)⟩
def pRng1 (t : PTA) (env : PEn) (G : GH) (R : (PIt → GH → Prop)) (Ex : PXK) : Prop := t env G (fun xs G1 => match xs with
  | [.int j] => -(2 ^ 62) ≤ j ∧ j < 2 ^ 62 ∧ R (itR 0 j.toNat) G1
  | _ => False) Ex
def pRng2 (t : PTA) (env : PEn) (G : GH) (R : (PIt → GH → Prop)) (Ex : PXK) : Prop := t env G (fun xs G1 => match xs with
  | [.int i, .int j] => (-(2 ^ 62) ≤ i ∧ i < 2 ^ 62 ∧ -(2 ^ 62) ≤ j ∧ j < 2 ^ 62) ∧ R (itR i (j - i).toNat) G1
  | _ => False) Ex
theorem qi_rng1 (hg : Gl X "range") (hm : X.mg "range" = none) (ha : QA X [a] ta) (hs : starEach [a] X.env = [(false, eval a X.env)] := by rfl) : QI true X tg (.Call (.Name "range" p) [a] [] pos) (pRng1 ta) := by
  refine ⟨fun W tk F H G σ env R Ex R' hr hv h lr lx => wi_of (pi_range1 hg hm pa_wa hs) ?_⟩
  refine ha.run W tk F H G σ env _ Ex _ hr hv h (fun F1 H1 G1 vs xs s1 r1 rvs h1 => ?_) lx
  match xs, rvs, h1 with
  | [.int j], .cons (.int _) .nil, h1 => exact ⟨j, rfl, h1.1, h1.2.1, lr F1 H1 G1 _ _ s1 r1 rel_rng h1.2.2⟩
theorem qi_rng2 (hg : Gl X "range") (hm : X.mg "range" = none) (ha : QA X [a, b] ta) (hs : starEach [a, b] X.env = [(false, eval a X.env), (false, eval b X.env)] := by rfl) (hs2 : starEach [b] X.env = [(false, eval b X.env)] := by rfl) : QI true X tg (.Call (.Name "range" p) [a, b] [] pos) (pRng2 ta) := by
  refine ⟨fun W tk F H G σ env R Ex R' hr hv h lr lx => wi_of (pi_range2 hg hm pa_wa hs hs2) ?_⟩
  refine ha.run W tk F H G σ env _ Ex _ hr hv h (fun F1 H1 G1 vs xs s1 r1 rvs h1 => ?_) lx
  match xs, rvs, h1 with
  | [.int i, .int j], .cons (.int _) (.cons (.int _) .nil), h1 => exact ⟨i, j, rfl, h1.1, lr F1 H1 G1 _ _ s1 r1 rel_rng h1.2⟩
end

/-! ### for, while -/
def pFor (ti : PTI) (g : PTG) (tb : PTS) (D : PEnds) (env : PEn) (G : GH) : Prop := ti env G (fun J G1 => ∃ (I : Nat → PEn → GH → Prop) (n : Nat), I 0 env G1 ∧ ∀ i env G, i ≤ n → I i env G →
  (J.done i G ∧ D.nx env G) ∨ (i < n ∧ ∃ x, J.item i G x ∧ g x env G (fun env' G' => tb { D with nx := I (i + 1), ct := I (i + 1), bk := D.nx } env' G') D.xs)) D.xs
def pWhile (c : PTT) (tb : PTS) (D : PEnds) (env : PEn) (G : GH) : Prop := ∃ I : Nat → PEn → GH → Prop, (∃ m, I m env G) ∧ ∀ m env G, I m env G →
  c env G (fun b G1 => if b = true then tb { D with nx := fun env' G' => ∃ m', m' < m ∧ I m' env' G', ct := fun env' G' => ∃ m', m' < m ∧ I m' env' G', bk := D.nx } env G1 else D.nx env G1) D.xs
section
variable {X : Cx} {tg iter c : Expr} {body : List Stmt} {ti : PTI} {g : PTG} {tb : PTS} {tc : PTT} {pos : Pos} {ws : List Nat} {sb : Bool}
theorem qs_for (hp : PassesOwn (model X.prog X.w) X.A X.env X.xe) (hc : X.calm = true) (hi : QI sb X tg iter ti) (hg : QG sb X ws tg g) (hb : QB X body tb) (hs : ∀ x, foldedSetIterable iter X.env x = pure x := by intro _; rfl) :
    QS X (.For tg iter body [] pos) (pFor ti g tb) := by
  refine ⟨fun W tk F H G σ env P D hr hv h ld lx => ws_of (ps_for hp hc pi_wi pg_wg ps_wb hs) ?_⟩
  refine hi.run W tk F H G σ env _ _ _ hr hv h (fun F1 H1 G1 J PJ s1 r1 rel h1 => ?_) lx
  obtain ⟨I, n, i0, turn⟩ := h1
  refine ⟨fun i m σ' H' => ∃ F' G' env', (m = n - i ∧ i ≤ n) ∧ Same F1 F' ∧ Rl X.K F' H' G' ∧ Vs X.K F' σ' env' ∧ I i env' G', ⟨n - 0, F1, G1, env, ⟨rfl, Nat.zero_le _⟩, Same.refl F1, r1, hv.mono s1, i0⟩, fun i m σ' H' hW => ?_⟩
  obtain ⟨F2, G2, env2, ⟨rfl, hin⟩, s2, r2, v2, i2⟩ := hW
  have s12 := s1.trans s2
  rcases turn i env2 G2 hin i2 with ⟨st, nx⟩ | ⟨lt, x, it, body⟩
  · exact .inl ⟨rel.stop F2 H' G2 i s2 r2 st, ld.nx F2 H' G2 σ' env2 s12 r2 v2 nx⟩
  · obtain ⟨go, yld⟩ := rel.go F2 H' G2 i x s2 r2 it
    refine .inr ⟨go, fun σ3 H3 => ∃ F' G' env', Same F1 F' ∧ Rl X.K F' H3 G' ∧ Vs X.K F' σ3 env' ∧ I (i + 1) env' G', fun σ3 H3 hN => ?_, fun v H3 y => ?_⟩
    · obtain ⟨F', G', env', a1, a2, a3, a4⟩ := hN
      exact ⟨n - (i + 1), by omega, F', G', env', ⟨rfl, lt⟩, a1, a2, a3, a4⟩
    · obtain ⟨F3, s3, r3, rv⟩ := yld v H3 y
      have s13 := s12.trans s3
      refine hg.run W tk F3 H3 G2 σ' env2 v x _ _ _ r3 (v2.mono s3) rv body (fun F4 H4 G4 σ4 env4 s4 r4 v4 _ q4 => ?_) (lx.mono s13)
      refine hb.run W tk F4 H4 G4 σ4 env4 _ _ r4 v4 q4 ⟨fun F5 H5 G5 σ5 env5 s5 r5 v5 q5 => ?_, (ld.rt.mono s13).mono s4, (ld.nx.mono s13).mono s4, fun F5 H5 G5 σ5 env5 s5 r5 v5 q5 => ?_⟩ ((lx.mono s13).mono s4)
      · exact ⟨F5, G5, env5, s2.trans (s3.trans (s4.trans s5)), r5, v5, q5⟩
      · exact ⟨F5, G5, env5, s2.trans (s3.trans (s4.trans s5)), r5, v5, q5⟩
theorem qs_while (hp : PassesOwn (model X.prog X.w) X.A X.env X.xe) (hc : QT X c tc) (hb : QB X body tb) : QS X (.While c body [] pos) (pWhile tc tb) := by
  refine ⟨fun W tk F H G σ env P D hr hv h ld lx => ws_of (ps_while hp pt_wt ps_wb) ?_⟩
  obtain ⟨I, ⟨m0, i0⟩, turn⟩ := h
  refine ⟨fun m σ' H' => ∃ F' G' env', Same F F' ∧ Rl X.K F' H' G' ∧ Vs X.K F' σ' env' ∧ I m env' G', ⟨m0, F, G, env, Same.refl F, hr, hv, i0⟩, fun m σ' H' hW => ?_⟩
  obtain ⟨F2, G2, env2, s2, r2, v2, i2⟩ := hW
  refine hc.run W tk F2 H' G2 σ' env2 _ _ _ r2 v2 (turn m env2 G2 i2) (fun F3 H3 G3 b s3 r3 h3 => ?_) (lx.mono s2)
  have s23 := s2.trans s3
  cases b with
  | false => exact ld.nx F3 H3 G3 σ' env2 s23 r3 (v2.mono s3) h3
  | true =>
    refine ⟨fun σ4 H4 => ∃ F' G' env' m', Same F F' ∧ Rl X.K F' H4 G' ∧ Vs X.K F' σ4 env' ∧ m' < m ∧ I m' env' G', fun σ4 H4 hN => ?_, ?_⟩
    · obtain ⟨F', G', env', m', a1, a2, a3, a4, a5⟩ := hN
      exact ⟨m', a4, F', G', env', a1, a2, a3, a5⟩
    · refine hb.run W tk F3 H3 G3 σ' env2 _ _ r3 (v2.mono s3) h3 ⟨fun F5 H5 G5 σ5 env5 s5 r5 v5 q5 => ?_, ld.rt.mono s23, ld.nx.mono s23, fun F5 H5 G5 σ5 env5 s5 r5 v5 q5 => ?_⟩ (lx.mono s23)
      · obtain ⟨m', a, b⟩ := q5
        exact ⟨F5, G5, env5, m', s23.trans s5, r5, v5, a, b⟩
      · obtain ⟨m', a, b⟩ := q5
        exact ⟨F5, G5, env5, m', s23.trans s5, r5, v5, a, b⟩
end

/-! ### comprehensions -/
def WTs (X : Cx) (ifs : List Expr) : TT := fun σ H Q => ∃ t, PTs X ifs t ∧ t σ H Q
theorem pts_wts {X : Cx} {ifs : List Expr} : PTs X ifs (WTs X ifs) := ⟨fun pins s σ H Q I ⟨t, h, q⟩ => h.run pins s σ H Q I q⟩
structure QTs (X : Cx) (ifs : List Expr) (t : PTT) : Prop where
  run : ∀ (W : WX), Takes X W → ∀ (F H : Hp) (G : GH) (σ : List (Option V)) (env : PEn) (P : Bool → GH → Prop) (Ex : PXK) (Q : Bool → Hp → Prop), Rl X.K F H G → Vs X.K F σ env → t env G P Ex → LkB X.K F P Q → LkX X.K F Ex W → WTs X ifs σ H Q
def pYes (_z0 : PEn) (G : GH) (P : (Bool → GH → Prop)) (_z3 : PXK) : Prop := P true G
theorem qts_nil {X : Cx} : QTs X [] pYes := ⟨fun W tk F H G σ env P Ex Q hr hv h lq lx => ⟨_, pts_nil, lq F H G true (Same.refl F) hr h⟩⟩
theorem qts_one {X : Cx} {c : Expr} {t : PTT} (hc : QT X c t) : QTs X [c] t := ⟨fun W tk F H G σ env P Ex Q hr hv h lq lx => ⟨_, pts_one pt_wt, hc.run W tk F H G σ env P Ex Q hr hv h lq lx⟩⟩
def noX : PXK := fun _ _ _ => False
def pLc (own : Bool) (ti : PTI) (g : PTG) (tt : PTT) (te : PTE) (vs : List Nat) (env : PEn) (G : GH) (P : PK1) (Ex : PXK) : Prop := ti env G (fun J G1 => ∀ D, G1 D = none → ∃ (I : Nat → List PV → GH → Prop) (n : Nat), I 0 [] (gset G1 D (.lst [])) ∧ ∀ i acc G, i ≤ n → I i acc G →
  (J.done i G ∧ G D = some (.lst acc) ∧ (if own = true then P (.ref D) G else P (.lst acc) (gdel G D))) ∨
  (i < n ∧ ∃ x, J.item i G x ∧ g x (wipeE env vs) G (fun env2 G2 => tt env2 G2 (fun b G3 => if b = true then te env2 G3 (fun y G4 => G4 D = some (.lst acc) ∧ acc.length < sizeLine ∧ I (i + 1) (acc ++ [y]) (gset G4 D (.lst (acc ++ [y])))) noX else I (i + 1) acc G3) noX) noX)) Ex
section
variable {X : Cx} {elt tg iter : Expr} {ifs : List Expr} {scope : Scope} {own : List (Str × Nat)} {pos : Pos} {ti : PTI} {g : PTG} {tt : PTT} {te : PTE} {o sb : Bool}
theorem lc_go (hi : QI sb X tg iter ti)
    (hg : ∀ (s : Shared) (H : Hp) (C : Addr) (cl : List (Str × Addr)) (fp : List Addr), QG sb (X.blk s H scope (compEnvC scope cl C X.env) fp) (own.map (·.2)) tg g)
    (ht : ∀ (s : Shared) (H : Hp) (C : Addr) (cl : List (Str × Addr)) (fp : List Addr), QTs (X.blk s H scope (compEnvC scope cl C X.env) fp) ifs tt)
    (he : ∀ (s : Shared) (H : Hp) (C : Addr) (cl : List (Str × Addr)) (fp : List Addr), QE (X.blk s H scope (compEnvC scope cl C X.env) fp) elt te)
    {W : WX} {F H : Hp} {G : GH} {σ : List (Option V)} {env : PEn} {P : PK1} {Ex : PXK} {Q : VK} (tk : Takes X W)
    (hr : Rl X.K F H G) (hv : Vs X.K F σ env) (h : pLc o ti g tt te (own.map (·.2)) env G P Ex) (lq : LkQ X.K F P Q) (lx : LkX X.K F Ex W) :
    tLc (WI X tg iter) (fun v σ H Q => ∀ (s : Shared) (H0 : Hp) (C : Addr) (cl : List (Str × Addr)) (fp : List Addr), WG (X.blk s H0 scope (compEnvC scope cl C X.env) fp) tg v σ H Q)
      (fun σ H Q => ∀ (s : Shared) (H0 : Hp) (C : Addr) (cl : List (Str × Addr)) (fp : List Addr), WTs (X.blk s H0 scope (compEnvC scope cl C X.env) fp) ifs σ H Q)
      (fun σ H Q => ∀ (s : Shared) (H0 : Hp) (C : Addr) (cl : List (Str × Addr)) (fp : List Addr), WE (X.blk s H0 scope (compEnvC scope cl C X.env) fp) elt σ H Q) (own.map (·.2)) σ H Q := by
  refine hi.run W tk F H G σ env _ _ _ hr hv h (fun F1 H1 G1 J PJ s1 r1 rel h1 => fun D nD => ?_) lx
  obtain ⟨I, n, i0, turn⟩ := h1 D (r1.free nD)
  have fD := r1.sub.free nD
  have rD : Rl X.K F1 (upd H1 D (.lst [])) (gset G1 D (.lst [])) := r1.owned (g := .lst []) fD ⟨[], upd_same, .nil⟩
  refine ⟨fun i m H' => ∃ F' G' acc, (m = n - i ∧ i ≤ n) ∧ Same F1 F' ∧ Rl X.K F' H' G' ∧ I i acc G', ⟨n - 0, F1, _, [], ⟨rfl, Nat.zero_le _⟩, Same.refl F1, rD, i0⟩, fun i m H' hW => ?_⟩
  obtain ⟨F2, G2, acc, ⟨rfl, hin⟩, s2, r2, i2⟩ := hW
  have s12 := s1.trans s2
  rcases turn i acc G2 hin i2 with ⟨st, gd, fin⟩ | ⟨lt, x, it, body⟩
  · refine .inl ⟨rel.stop F2 H' G2 i s2 r2 st, ?_⟩
    cases o with
    | true => exact lq F2 H' G2 _ _ s12 r2 (.ref D) fin
    | false =>
      obtain ⟨F3, s3, r3, rep⟩ := r2.freeze gd
      exact lq F3 H' _ _ _ (s12.trans s3) r3 rep fin
  · obtain ⟨go, yld⟩ := rel.go F2 H' G2 i x s2 r2 it
    refine .inr ⟨go, fun H3 => ∃ F' G' acc, Same F1 F' ∧ Rl X.K F' H3 G' ∧ I (i + 1) acc G', fun H3 hN => ?_, fun v H3 y => ?_⟩
    · obtain ⟨F', G', acc', a1, a2, a3⟩ := hN
      exact ⟨n - (i + 1), by omega, F', G', acc', ⟨rfl, lt⟩, a1, a2, a3⟩
    · obtain ⟨F3, s3, r3, rv⟩ := yld v H3 y
      have s13 := s12.trans s3
      intro sh H0 C cl fp
      refine (hg sh H0 C cl fp).run (fun _ _ _ _ => False) takes0 F3 H3 G2 _ _ v x _ noX _ r3 ((hv.wipe _).mono s13) rv body (fun F4 H4 G4 σ4 env4 s4 r4 v4 z4 q4 => ?_) (fun _ _ _ _ _ _ _ _ _ z => z)
      rw [show L2.wipe (L2.wipe σ (own.map (·.2))) (own.map (·.2)) = L2.wipe σ (own.map (·.2)) from by
        apply List.ext_getElem?
        intro j
        rw [wipe_get, wipe_get]
        split
        · cases σ[j]? <;> rfl
        · rfl] at z4
      refine ⟨z4, fun sh H0 C cl fp => ?_⟩
      refine (ht sh H0 C cl fp).run (fun _ _ _ _ => False) takes0 F4 H4 G4 σ4 env4 _ noX _ r4 v4 q4 (fun F5 H5 G5 b s5 r5 q5 => ?_) (fun _ _ _ _ _ _ _ _ _ z => z)
      cases b with
      | false => exact ⟨F5, G5, acc, s2.trans (s3.trans (s4.trans s5)), r5, q5⟩
      | true =>
        intro sh H0 C cl fp
        refine (he sh H0 C cl fp).run (fun _ _ _ _ => False) takes0 F5 H5 G5 σ4 env4 _ noX _ r5 (v4.mono s5) q5 (fun F6 H6 G6 v6 x6 s6 r6 rv6 q6 => ?_) (fun _ _ _ _ _ _ _ _ _ z => z)
        obtain ⟨gd, lt6, i6⟩ := q6
        obtain ⟨f6, vs6, e6, a6⟩ := r6.own _ _ gd
        refine ⟨vs6, e6, by rw [a6.length]; exact lt6, F6, _, acc ++ [x6], s2.trans (s3.trans (s4.trans (s5.trans s6))), r6.owned (g := .lst (acc ++ [x6])) f6 ⟨_, upd_same, a6.append (.cons rv6 .nil)⟩, i6⟩
theorem qe_lc (hc : X.calm = true) (hN : X.N.Nodup) (hi : QI sb X tg iter ti) (ok : BlkOk X.N X.env.scope scope own)
    (hg : ∀ (s : Shared) (H : Hp) (C : Addr) (cl : List (Str × Addr)) (fp : List Addr), QG sb (X.blk s H scope (compEnvC scope cl C X.env) fp) (own.map (·.2)) tg g)
    (ht : ∀ (s : Shared) (H : Hp) (C : Addr) (cl : List (Str × Addr)) (fp : List Addr), QTs (X.blk s H scope (compEnvC scope cl C X.env) fp) ifs tt)
    (he : ∀ (s : Shared) (H : Hp) (C : Addr) (cl : List (Str × Addr)) (fp : List Addr), QE (X.blk s H scope (compEnvC scope cl C X.env) fp) elt te) (hs : ∀ x, foldedSetIterable iter X.env x = pure x := by intro _; rfl) :
    QE X (.ListComp elt [⟨tg, iter, ifs, 0⟩] scope pos) (pLc o ti g tt te (own.map (·.2))) :=
  ⟨fun W tk F H G σ env P Ex Q hr hv h lq lx => we_of (pe_lc hc hN pi_wi ok (fun s H0 C cl fp => ⟨fun pins s' σ' H' v u Q' I r q => q s H0 C cl fp pins s' u I r⟩) (fun s H0 C cl fp => ⟨fun pins s' σ' H' Q' I q => pts_wts.run pins s' σ' H' Q' I (q s H0 C cl fp)⟩)
    (fun s H0 C cl fp => ⟨fun pins s' σ' H' Q' I q => q s H0 C cl fp pins s' I⟩) hs) (lc_go hi hg ht he tk hr hv h lq lx)⟩
theorem qs_setLc {i : Nat} {y : Str} {py spos : Pos} (hc : X.calm = true) (hN : X.N.Nodup) (hy : X.N[i]? = some y) (hyl : X.env.scope.names.lookup y = some .local)
    (hsw : swapsWith (.ListComp elt [⟨tg, iter, ifs, 0⟩] scope pos) (some (.Name y py)) spos.line X.env = pure true) (hi : QI sb X tg iter ti) (ok : BlkOk X.N X.env.scope scope own)
    (hg : ∀ (s : Shared) (H : Hp) (C : Addr) (cl : List (Str × Addr)) (fp : List Addr), QG sb (X.blk s H scope (compEnvC scope cl C X.env) fp) (own.map (·.2)) tg g)
    (ht : ∀ (s : Shared) (H : Hp) (C : Addr) (cl : List (Str × Addr)) (fp : List Addr), QTs (X.blk s H scope (compEnvC scope cl C X.env) fp) ifs tt)
    (he : ∀ (s : Shared) (H : Hp) (C : Addr) (cl : List (Str × Addr)) (fp : List Addr), QE (X.blk s H scope (compEnvC scope cl C X.env) fp) elt te) (hs : ∀ x, foldedSetIterable iter X.env x = pure x := by intro _; rfl) :
    QS X (.Assign [.Name y py] (.ListComp elt [⟨tg, iter, ifs, 0⟩] scope pos) spos) (pSet i (pLc o ti g tt te (own.map (·.2)))) :=
  ⟨fun W tk F H G σ env P D hr hv h ld lx => ws_of (ps_setLc hc hN hy hyl hsw pi_wi ok (fun s H0 C cl fp => ⟨fun pins s' σ' H' v u Q' I r q => q s H0 C cl fp pins s' u I r⟩) (fun s H0 C cl fp => ⟨fun pins s' σ' H' Q' I q => pts_wts.run pins s' σ' H' Q' I (q s H0 C cl fp)⟩)
    (fun s H0 C cl fp => ⟨fun pins s' σ' H' Q' I q => q s H0 C cl fp pins s' I⟩) hs) (lc_go (P := fun x G1 => P.nx (env.set i (some x)) G1) hi hg ht he tk hr hv h (fun F1 H1 G1 v x s1 r1 rv h1 => ld.nx F1 H1 G1 _ _ s1 r1 ((hv.mono s1).set rv) h1) lx)⟩
end
end PL
end

section
/-! PCall: what a def is worth (with what guards repr knows), its call, the law's end. -/
namespace PL
open PySem PySem.Spec PyProof.Rows L2

/-- a def's promise where no repr is under way -/
structure FnG (P : Program) (w : World) (K : PySem.W.Frag) (mg : Str → Option Value) (base : Heap) (k : Nat) (f : Addr) (fd : FuncData) (ps : List Str) (sp : Sp) : Prop where
  len : ∀ vs H Q E, sp vs H Q E → vs.length = ps.length
  run : ∀ (A : Around) (outer : List Env) (s : Shared) (H : Hp) (args : Args) (us : List Value) (vs : List V) (Q : VK) (E : XK), A.guards = some [] → Room k A → Env0 P w K mg base A outer s H →
    BindsTo s fd args (ps.zip us) → Vals vs us → sp vs H Q E → codeAny (model P w) A (.call (.ref f) args) (CR (L2.CX P w) outer P w H s Q E) s
theorem FnG.mono {P : Program} {w : World} {K : PySem.W.Frag} {mg : Str → Option Value} {base : Heap} {j k : Nat} {f : Addr} {fd : FuncData} {ps : List Str} {sp : Sp} (F : FnG P w K mg base j f fd ps sp) (h : j ≤ k) : FnG P w K mg base k f fd ps sp :=
  ⟨F.len, fun A outer s H args us vs Q E hg hr => F.run A outer s H args us vs Q E hg (hr.mono h)⟩

section
variable {P : Program} {w : World} {K : PySem.W.Frag} {mg : Str → Option Value} {base : Heap}
/-- a def, by its body -/
theorem fnG_of {x qual : Str} {st : Stmt} {f : Addr} {fd : FuncData} {N ps : List Str} {k : Nat} {sp : Sp} (F : Fun K x qual st f fd) (S : FnScope N ps (defScope st)) (len : ∀ vs H Q E, sp vs H Q E → vs.length = ps.length)
    (hbody : ∀ (cdv : Value) (A : Around) (outer : List Env) (s : Shared) (H : Hp) (vs : List V) (Q : VK) (E : XK), A.guards = some [] → Room k (A.deeper (envOfC qual (defScope st) s.heap.objs.size f cdv)) → sp vs H Q E →
      WB (cxOf (L2.CX P w) P w K mg base N qual (defScope st) f cdv A outer s H E) (defBody st) { nx := fun _ H' => Q .non H', rt := Q } (start N vs) H) : FnG P w K mg base (k + 1) f fd ps sp := by
  obtain ⟨oc, od, kV, doc, pm, an, cdv, ct, osl, rfl, lk, hcd⟩ := F.ex
  refine ⟨len, fun A outer s H args us vs Q E hg hr e0 hb r hsp => ?_⟩
  have hl := len _ _ _ _ hsp
  have KX : K.In s.heap := e0.mod.kin.keeps fun b o e => (e0.bs b o e).1
  have lim : s.heap.NoLimit := e0.mod.nolimit.keeps fun b o e => (e0.bs b o e).1
  refine codeAny_call_function hr.depth (KX _ _ lk) rfl S.co S.gen rfl (PySem.W.codeRec_of KX hcd) (hb _ _ _ _ ?_)
  refine wpAny_newFunctionEnv_cells S.kind (fun y hy => ?_) fun env he s1 x => ?_
  · rcases S.par y.1 (List.of_mem_zip (show (y.1, y.2) ∈ ps.zip us from hy)).1 with q | q
    · exact .inl q
    · exact .inr ⟨q, PySem.W.cellsFrom_some _ _ _ (.inl q)⟩
  · subst he
    refine ⟨lim.keeps x.toInCall.keep, codeAny_func ?_⟩
    have I : Inv (cxOf (L2.CX P w) P w K mg base N qual (defScope st) f cdv A outer s H E) [] (start N vs) H s1 := inv_start S hr.hd e0 hl r x
    refine wpAny_mono (hbody cdv A outer s H vs Q E hg (hr.deeper _) hsp [] s1 I) (fun fl s' hs => ?_) fun e s' hs => hs
    cases fl with
    | ret u =>
      obtain ⟨v, σ', H', J, rv, q⟩ := hs
      exact ⟨v, H', J.os, J.bare, J.base, J.hok, rv, q⟩
    | next =>
      obtain ⟨σ', H', J, q⟩ := hs
      exact ⟨.non, H', J.os, J.bare, J.base, J.hok, rfl, q⟩
    | brk =>
      obtain ⟨_, _, _, q⟩ := hs
      exact False.elim q
    | cont =>
      obtain ⟨_, _, _, q⟩ := hs
      exact False.elim q
end

/-! ### promises of the pure layer -/
abbrev PSp := List PV → GH → PK1 → (Value → GH → Prop) → Prop
def spOf (K : PySem.W.Frag) (psp : PSp) : Sp := fun vs H Q E => ∃ (F : Hp) (G : GH) (xs : List PV) (P : PK1) (Ex : Value → GH → Prop), Rl K F H G ∧ RepA K F vs xs ∧ psp xs G P Ex ∧ LkQ K F P Q ∧
  ∀ (F' H' : Hp) (G' : GH) (c : Value), Same F F' → Rl K F' H' G' → Ex c G' → E c none H'
abbrev FnP (P : Program) (w : World) (K : PySem.W.Frag) (mg : Str → Option Value) (base : Heap) (k : Nat) (f : Addr) (fd : FuncData) (ps : List Str) (psp : PSp) : Prop := FnG P w K mg base k f fd ps (spOf K psp)
theorem FnP.imp {P : Program} {w : World} {K : PySem.W.Frag} {mg : Str → Option Value} {base : Heap} {k : Nat} {f : Addr} {fd : FuncData} {ps : List Str} {p p' : PSp} (F : FnP P w K mg base k f fd ps p) (h : ∀ xs G Q E, p' xs G Q E → p xs G Q E) : FnP P w K mg base k f fd ps p' := by
  have hh : ∀ vs H Q E, spOf K p' vs H Q E → spOf K p vs H Q E := fun vs H Q E ⟨F', G, xs, P', Ex, a, b, c, d⟩ => ⟨F', G, xs, P', Ex, a, b, h _ _ _ _ c, d⟩
  exact ⟨fun vs H Q E q => F.len vs H Q E (hh _ _ _ _ q), fun A outer s H args us vs Q E hg hr he hb hv hs => F.run A outer s H args us vs Q E hg hr he hb hv (hh _ _ _ _ hs)⟩
theorem def_ok {P : Program} {w : World} {K : PySem.W.Frag} {mg : Str → Option Value} {base : Heap} {x qual : Str} {st : Stmt} {f : Addr} {fd : FuncData} {N ps : List Str} {k : Nat} {psp : PSp} (F : Fun K x qual st f fd) (S : FnScope N ps (defScope st))
    (len : ∀ xs G Q E, psp xs G Q E → xs.length = ps.length)
    (hbody : ∀ (X : Cx), X.prog = P → X.w = w → X.K = K → X.mg = mg → X.base = base → X.N = N → X.A.guards = some [] → Room k X.A → ∀ (cdv : Value) (A : Around) (outer : List Env) (s : Shared) (H : Hp) (E : XK), X = cxOf (L2.CX P w) P w K mg base N qual (defScope st) f cdv A outer s H E →
      ∀ (xs : List PV) (G : GH) (Q : PK1) (Ex : Value → GH → Prop), psp xs G Q Ex → ∃ t, QB X (defBody st) t ∧ t { nx := fun _ G => Q .non G, rt := Q, xs := fun c _ G => Ex c G } (startE N.length xs) G) :
    FnP P w K mg base (k + 1) f fd ps psp := by
  refine fnG_of F S (fun vs H Q E ⟨F', G, xs, P', Ex, a, b, c, d⟩ => by rw [b.length]; exact len _ _ _ _ c) fun cdv A outer s H vs Q E hg hr hsp => ?_
  obtain ⟨F', G, xs, P', Ex, rl, ra, c, lq, lx⟩ := hsp
  obtain ⟨t, ht, hq⟩ := hbody _ rfl rfl rfl rfl rfl rfl (show (A.deeper _).guards = some [] from hg) hr cdv A outer s H E rfl xs G P' Ex c
  refine ht.run (fun cls d _ H => E cls d H) (takes_of rfl rfl rfl rfl) F' H G (start N vs) (startE N.length xs) _ _ rl (Vs.start ra) hq ⟨fun F2 H2 G2 σ2 env2 s2 r2 v2 q2 => lq F2 H2 G2 _ _ s2 r2 .non q2, lq, fun _ _ _ _ _ _ _ _ z => z, fun _ _ _ _ _ _ _ _ z => z⟩
    (fun F2 H2 G2 σ2 env2 c2 s2 r2 _ q2 => lx F2 H2 G2 c2 s2 r2 q2)

/-- a def by its derivation and what its reading comes to -/
theorem def_by {P : Program} {w : World} {K : PySem.W.Frag} {mg : Str → Option Value} {base : Heap} {x qual : Str} {st : Stmt} {f : Addr} {fd : FuncData} {N ps : List Str} {k : Nat} {psp : PSp} {t : PTS} (F : Fun K x qual st f fd) (S : FnScope N ps (defScope st))
    (hd : ∀ {cdv : Value} {A : Around} {outer : List Env} {s : Shared} {H : Hp} {E : XK}, A.guards = some [] → Room k (A.deeper (envOfC qual (defScope st) s.heap.objs.size f cdv)) → QB (cxOf (L2.CX P w) P w K mg base N qual (defScope st) f cdv A outer s H E) (defBody st) t)
    (hread : ∀ (xs : List PV) (G : GH) (Q : PK1) (Ex : Value → GH → Prop), psp xs G Q Ex → xs.length = ps.length ∧ t { nx := fun _ G => Q .non G, rt := Q, xs := fun c _ G => Ex c G } (startE N.length xs) G) :
    FnP P w K mg base (k + 1) f fd ps psp :=
  def_ok F S (fun xs G Q E h => (hread xs G Q E h).1) fun X _ _ _ _ _ _ hg hr cdv A outer s H E e xs G Q Ex h => by
    subst e
    exact ⟨t, hd hg hr, (hread xs G Q Ex h).2⟩

/-! ### calls -/
def pCall (psp : PSp) (t : PTA) (env : PEn) (G : GH) (P : PK1) (Ex : PXK) : Prop := t env G (fun xs G1 => psp xs G1 P (fun c G2 => Ex c env G2)) Ex
section
variable {X : Cx} {k : Nat} {f : Addr} {fd : FuncData} {ps : List Str} {psp : PSp} {x : Str} {p pos : Pos} {e : Expr} {es : List Expr} {t : PTA}
theorem run_fnG {pins : List (Addr × Obj)} {σ : List (Option V)} {H : Hp} {s : Shared} {Q : VK} {us : List Value} {vs : List V} {W : WX} {sp : Sp} (F : FnG X.prog X.w X.K X.mg X.base k f fd ps sp) (hg : X.A.guards = some []) (hr : Room k X.A) (hb : Binds X.K fd ps []) (tk : Takes X W)
    (I : Inv X pins σ H s) (r : Vals vs us) (h : sp vs H Q (L2.WE W σ)) : wpAny (model X.prog X.w) X.A (call (.ref f) us) (EP X pins σ Q) X.xe s := by
  have hl : us.length = ps.length := by rw [← r.length]; exact F.len _ _ _ _ h
  have b := hb s us I.kIn (by rw [List.append_nil]; exact hl)
  rw [List.append_nil] at b
  refine wpAny_call (codeAny_mono (F.run X.A X.stack s H ⟨us, []⟩ us vs Q (L2.WE W σ) hg hr I.env0 b r h) fun r s' hq => ?_)
  cases r with
  | error e => exact passAt tk σ pins H s e s' I hq
  | ok fl =>
    cases fl with
    | ret u => exact I.after hq
    | next => exact False.elim hq
    | brk => exact False.elim hq
    | cont => exact False.elim hq
theorem qe_call (F : FnP X.prog X.w X.K X.mg X.base k f fd ps psp) (hgd : X.A.guards = some []) (hr : Room k X.A) (hg : Gl X x) (hm : X.mg x = some (.ref f)) (hk : PySem.W.keepIn X.K (.ref f) = true) (hb : Binds X.K fd ps []) (ha : QA X (e :: es) t)
    (hdb : (x == ("__debug__" : Str)) = false := by decide) (he : starEach (e :: es) X.env = (false, eval e X.env) :: starEach es X.env := by rfl) (hpl : (backTo pos (starEach es X.env)).any (·.1) = false := by rfl) :
    QE X (.Call (.Name x p) (e :: es) [] pos) (pCall psp t) := by
  refine ⟨fun W tk F1 H G σ env P Ex Q hrl hv h lq lx pins s I => ?_⟩
  refine wpAny_Call_Name_kw (ld_glob I hg hm ?_ hdb)
  have hA : WA X (e :: es) σ H (fun vs H1 => spOf X.K psp vs H1 Q (L2.WE W σ)) :=
    ha.run W tk F1 H G σ env _ Ex _ hrl hv h (fun F2 H2 G2 vs xs s2 r2 rvs h2 => ⟨F2, G2, xs, P, _, r2, rvs, h2, lq.mono s2, fun F3 H3 G3 c s3 r3 q3 => lx F3 H3 G3 σ env c (s2.trans s3) r3 (hv.mono (s2.trans s3)) q3⟩) lx
  exact PySem.W.callWith_K (h₀ := X.base) I.ok.mod.kin hk (thn (hA pos pins s I) fun us s1 ⟨vs, H1, I1, r, q⟩ => ⟨I1.kIn, run_fnG F hgd hr hb tk I1 r q⟩) he hpl
end

/-! ### the law's end -/
theorem law_callG {P : Program} {w : World} {K : PySem.W.Frag} {mg mb : Str → Option Value} {k : Nat} {fa a : Addr} {fd : FuncData} {x : Str} {sp : Sp} {s1 : Shared} {vs : List Value} {ns : List Int}
    (KX : K.In s1.heap) (hns : s1.heap.Ns mainGlobals mg) (hb : s1.heap.Ns builtinsNs mb) (hbb : ∀ x : Str, x ≠ "__name__" → mb x = bootBuiltins x) (hlim : s1.heap.NoLimit) (hg : s1.gens = #[])
    (ha : s1.heap.get? a = some { cls := .type "list", data := .seq vs.toArray }) (hi : IntsAre vs ns) (hl : ns.length ≤ sizeLine) (hr : Room k callerA)
    (F : ∀ base : Heap, K.In base → base.Ns mainGlobals mg → FnG P w K mg base k fa fd [x] sp) (hbind : ∀ (s : Shared) (u : Value), BindsTo s fd ⟨[u], []⟩ [(x, u)])
    (hsp : ∀ H : Hp, Only H → SqL K H a (ns.map V.int) → sp [.ref a] H (fun v _ => v = .bl true) fun _ _ _ => False) :
    codeAny (model P w) callerA (.call (.ref fa) ⟨[.ref a], []⟩) (fun r s' => r = .ok (.ret (.bool true)) ∧ OldK s1.heap s'.heap ∧ s'.os = s1.os ∧ AllBare s'.gens) s1 := by
  have rv := vals_ints hi
  have core : ∀ H : Hp, Only H → SqL K H a (ns.map V.int) → HOk P w H s1.heap → (∀ b, H b ≠ none → b = a) → (H a ≠ none → K.lookup a = none) →
      codeAny (model P w) callerA (.call (.ref fa) ⟨[.ref a], []⟩) (fun r s' => r = .ok (.ret (.bool true)) ∧ OldK s1.heap s'.heap ∧ s'.os = s1.os ∧ AllBare s'.gens) s1 := by
    intro H hO hS hok hA hK
    have free : ∀ {b : Addr}, b ≠ a → H b = none := fun {b} z => by
      cases q : H b with
      | none => rfl
      | some u => exact absurd (hA b (by rw [q]; simp)) z
    have noA : ∀ {b : Addr} {o : Obj} {es : Array DictEntry} {ep : Nat}, s1.heap.get? b = some o → o.data = .dict es ep → H b = none := fun {b o es ep} e d => free fun z => by
      rw [z, ha] at e
      cases e
      exact nomatch d
    have nsK : ∀ {b : Addr} {m : Str → Option Value}, s1.heap.Ns b m → (hidT s1.heap H).Ns b m := fun {b m} ⟨o, es, ep, e, d, r⟩ => ⟨o, es, ep, hidT_get e (noA e d), d, r⟩
    have hKb : K.In (hidT s1.heap H) := fun b o e => hidT_get (KX b o e) (by
      by_cases z : b = a
      · subst z
        cases q : H b with
        | none => rfl
        | some u => rw [hK (by rw [q]; simp)] at e; cases e
      · exact free z)
    have hM : Mod K mg (hidT s1.heap H) := ⟨hKb, nsK hns, ⟨mb, nsK hb, hbb⟩, let ⟨mc, h1, h2⟩ := hlim; ⟨mc, nsK h1, h2⟩⟩
    have e0 : Env0 P w K mg (hidT s1.heap H) callerA [] s1 H := ⟨rfl, hM, fun b o e => of_hidT e, Nat.le_of_eq (hidT_size _ _), trivial, fun b hb => (nomatch (show b ∈ ([] : List Addr) from hb)), hok, .of_eq hg⟩
    refine codeAny_mono ((F _ hKb (nsK hns)).run callerA [] s1 H ⟨[.ref a], []⟩ [.ref a] [.ref a] _ _ rfl hr e0 (hbind s1 (.ref a)) (.cons rfl .nil) (hsp H hO hS)) fun r s' h => ?_
    match r, h with
    | .error e, h =>
      obtain ⟨_, _, _, _, _, _, _, _, _, _, _, _, z⟩ := h
      exact z.elim
    | .ok .next, h => exact False.elim h
    | .ok .brk, h => exact False.elim h
    | .ok .cont, h => exact False.elim h
    | .ok (.ret u), h =>
      obtain ⟨v, H', os, bare, un, hok', r', q⟩ := h
      have q' : v = .bl true := q
      subst q'
      obtain rfl : u = Value.bool true := r'
      refine ⟨rfl, OldK.of_keep fun b o e => ?_, os, bare⟩
      rcases hO b with z | z
      · exact un.keep b o e z (fun z => nomatch z) (fun z => nomatch z)
      · obtain ⟨ob, xs, z⟩ := z
        have e1 := (hok b _ z).1
        rw [e] at e1
        cases e1
        exact (hok' b _ (un.frzs b _ _ z)).1
  cases hk : K.lookup a with
  | some o =>
    have e := KX a o hk
    rw [ha] at e
    cases e
    exact core (fun _ => none) (fun _ => .inl rfl) (.inr ⟨_, vs.toArray, _, hk, rfl, rfl, rfl, by rw [List.size_toArray, hi.length]; exact hl, by simpa using rv⟩) (fun b u z => nomatch z) (fun b z => absurd rfl z) (fun z => absurd rfl z)
  | none =>
    let H0 : Hp := fun b => if b = a then some (.frz { cls := .type "list", data := .seq vs.toArray } (.lst (ns.map V.int))) else none
    have h0 : H0 a = some (.frz { cls := .type "list", data := .seq vs.toArray } (.lst (ns.map V.int))) := if_pos rfl
    have h1 : ∀ b, b ≠ a → H0 b = none := fun b z => if_neg z
    refine core H0 (fun b => ?_) (.inl (.inr ⟨_, h0⟩)) (fun b u z => ?_) (fun b z => ?_) fun _ => hk
    · by_cases z : b = a
      · exact .inr ⟨_, _, by rw [z]; exact h0⟩
      · exact .inl (h1 b z)
    · by_cases y : b = a
      · subst y
        rw [h0] at z
        cases z
        exact ⟨ha, by rw [List.length_map]; exact hl, vs, _, rv, ha⟩
      · rw [h1 b y] at z
        cases z
    · by_cases y : b = a
      · exact y
      · exact absurd (h1 b y) z
/-- what the law's promise is: at a script of at most so many ints -/
def lawSp (n : Nat) : PSp := fun xs _ Q _ => ∃ ns : List Int, xs = [.scr ns] ∧ ns.length ≤ n ∧ ∀ G', Q (.bl true) G'
theorem walk_ofG {l : PySem.W.OpenLaw} {n k : Nat} {q : Program} {loose : List Str} {XP : (Str → Option Value) → Heap → Prop} {YP : World → Heap → Prop} {d : DefRec} {K : Params → PySem.W.Frag} {x : Str}
    (hn : l.most = some n) (hn2 : n ≤ sizeLine) (hdf : d.params.defaults = []) (hr : Room k callerA)
    (hY : ∀ (w : World) (h : Heap), YP w h → (K w.params).In h)
    (F : ∀ (w : World) (mg : Str → Option Value) (fa : Addr) (h : Heap), (K w.params).In h → h.Ns mainGlobals mg → mg d.name = some (.ref fa) →
      ∃ fd : FuncData, (∀ (s : Shared) (u : Value), BindsTo s fd ⟨[u], []⟩ [(x, u)]) ∧
        ∀ base : Heap, (K w.params).In base → base.Ns mainGlobals mg → FnP l.prog w (K w.params) mg base k fa fd [x] (lawSp n)) :
    PySem.W.WalkO q loose XP YP l.row.toRowW d [] (fun f vs => PySem.call f vs) := by
  refine Att.attach_call hn hdf fun w s0 s1 mg mb fa o pm cd doc a vs ns G Y ho hd hcd hmg hobj hints hlen hg => ?_
  have KX := hY w _ Y
  obtain ⟨fd, hb, hF⟩ := F w mg fa _ KX G.T.g hmg
  refine law_callG KX G.T.g G.T.b G.T.builtins G.T.nolimit hg hobj hints (Nat.le_trans hlen hn2) hr hF hb fun H hO hS => ?_
  refine ⟨fun b => if b = a then H b else none, fun _ => none, [.scr ns], fun v _ => v = .bl true, fun _ _ => False, ⟨fun b u e => ?_, fun b u e => nomatch e⟩, .cons (.scr ?_) .nil, ⟨ns, rfl, hlen, fun _ => rfl⟩, fun F' H' G' v y s r rv h => ?_, fun _ _ _ _ _ _ z => z⟩
  · split at e
    · exact e
    · cases e
  · rcases hS with (hS | ⟨o, hS⟩) | hS
    · exact .inl (.inl ((if_pos rfl).trans hS))
    · exact .inl (.inr ⟨o, (if_pos rfl).trans hS⟩)
    · exact .inr hS
  · subst h
    cases rv
    rfl
end PL
end

section
/-! POps: operations by values. -/
namespace PL
open PySem PySem.Spec PyProof.Rows L2

/-! ### data -/
mutual
def PV.dat : PV → PyData
  | .non => .none
  | .bl b => .bool b
  | .int i => .int i
  | .str x => .str x
  | .tup xs => .tuple (dats xs)
  | .lst xs => .list (dats xs)
  | .scr ns => .list (ns.map .int)
  | .ref _ => .none
  | .ty _ => .none
def dats : List PV → List PyData
  | [] => []
  | x :: xs => PV.dat x :: dats xs
end
mutual
def PV.isD : PV → Bool
  | .tup xs => isDs xs
  | .lst xs => isDs xs
  | .ref _ => false
  | .ty _ => false
  | _ => true
def isDs : List PV → Bool
  | [] => true
  | x :: xs => PV.isD x && isDs xs
end
theorem DpAll.ints {K : PySem.W.Frag} {H : Hp} : ∀ ns : List Int, DpAll K H (ns.map V.int) (ns.map PyData.int)
  | [] => .nil
  | n :: ns => .cons (.int n) (DpAll.ints ns)
section
variable {K : PySem.W.Frag} {F H : Hp}
mutual
theorem Rep.dp (s : Same F H) : ∀ (x : PV) (v : V), Rep K F v x → x.isD = true → Dp K H v x.dat
  | .non, _, h, _ => by cases h; exact .non
  | .bl b, _, h, _ => by cases h; exact .bl b
  | .int b, _, h, _ => by cases h; exact .int b
  | .str b, _, h, _ => by cases h; exact .str b
  | .ref b, _, h, z => by simp [PV.isD] at z
  | .ty b, _, h, z => by simp [PV.isD] at z
  | .tup xs, _, h, z => by
    cases h with
    | tup h1 h2 => exact .tup (Same.tupT s h1.sq) (RepA.dp s xs _ h2 (by simpa [PV.isD] using z))
  | .lst xs, _, h, z => by
    cases h with
    | lst h1 h2 => exact .lst (.inl (.inl (s _ _ h1))) (RepA.dp s xs _ h2 (by simpa [PV.isD] using z))
  | .scr ns, _, h, _ => by
    cases h with
    | scr h1 => exact .lst (s.seq h1) (DpAll.ints ns)
theorem RepA.dp (s : Same F H) : ∀ (xs : List PV) (vs : List V), RepA K F vs xs → isDs xs = true → DpAll K H vs (dats xs)
  | [], _, h, _ => by cases h; exact .nil
  | x :: xs, _, h, z => by
    cases h with
    | cons h1 h2 =>
      have z' : x.isD = true ∧ isDs xs = true := by simpa [isDs] using z
      exact .cons (Rep.dp s x _ h1 z'.1) (RepA.dp s xs _ h2 z'.2)
end
end
def ownL (G : GH) (a : Addr) : Option (List PV) := match G a with
  | some (.lst xs) => some xs
  | _ => none
theorem ownL_eq {G : GH} {a : Addr} {xs : List PV} (h : ownL G a = some xs) : G a = some (.lst xs) := by
  unfold ownL at h
  cases e : G a with
  | none => rw [e] at h; cases h
  | some o =>
    rw [e] at h
    cases o with
    | lst ys => cases h; rfl
    | _ => cases h
theorem ownL_of {G : GH} {a : Addr} {xs : List PV} (h : G a = some (.lst xs)) : ownL G a = some xs := by unfold ownL; rw [h]
def datOf (G : GH) : PV → Option PyData
  | .ref a => match ownL G a with
    | some xs => if isDs xs = true then some (.list (dats xs)) else none
    | none => none
  | x => if x.isD = true then some x.dat else none
theorem datOf_dp {K : PySem.W.Frag} {F H : Hp} {G : GH} {v : V} {x : PV} {d : PyData} (hr : Rl K F H G) (r : Rep K F v x) (e : datOf G x = some d) : Dp K H v d := by
  have gen : (if x.isD = true then some x.dat else none) = some d → Dp K H v d := fun e => by
    split at e
    · rename_i z
      cases e
      exact Rep.dp hr.sub x v r z
    · cases e
  cases x with
  | ref a =>
    have e' : (match ownL G a with
      | some xs => if isDs xs = true then some (PyData.list (dats xs)) else none
      | none => none) = some d := e
    split at e'
    · rename_i xs ga
      split at e'
      · rename_i z
        cases e'
        cases r
        obtain ⟨_, vs, h1, h2⟩ := hr.own _ _ (ownL_eq ga)
        exact .lst (.inl (.inl h1)) (RepA.dp hr.sub xs vs h2 z)
      · cases e'
    · cases e'
  | _ => exact gen e

/-! ### arithmetic -/
def lstOf (G : GH) : PV → Option (List PV)
  | .lst xs => some xs
  | .ref a => ownL G a
  | _ => none
theorem lstOf_ok {K : PySem.W.Frag} {F H : Hp} {G : GH} {v : V} {x : PV} {xs : List PV} (hr : Rl K F H G) (r : Rep K F v x) (e : lstOf G x = some xs) : ∃ a vs, v = .ref a ∧ H a = some (.lst vs) ∧ RepA K F vs xs := by
  cases x with
  | lst ys =>
    cases e
    cases r with
    | lst h1 h2 => exact ⟨_, _, rfl, hr.sub _ _ h1, h2⟩
  | ref a =>
    cases r
    obtain ⟨_, vs, h1, h2⟩ := hr.own _ _ (ownL_eq e)
    exact ⟨a, vs, rfl, h1, h2⟩
  | _ => cases e
def rAdd (x : PV) (y : PV) (G : GH) (P : PK1) : Prop := match x, y with
  | .int i, .int j => P (.int (i + j)) G
  | .str a, .str b => a.length + b.length ≤ sizeLine ∧ P (.str (a ++ b)) G
  | .tup xs, .tup ys => xs.length + ys.length ≤ sizeLine ∧ P (.tup (xs ++ ys)) G
  | x, y => match lstOf G x, lstOf G y with
    | some xs, some ys => xs.length + ys.length ≤ sizeLine ∧ P (.lst (xs ++ ys)) G
    | _, _ => False
section
variable {X : Cx}
theorem q_add_l (F H : Hp) (G : GH) (v u : V) (x y : PV) (P : PK1) (Q : VK) (hr : Rl X.K F H G) (rx : Rep X.K F v x) (ry : Rep X.K F u y)
    (h : match lstOf G x, lstOf G y with
    | some xs, some ys => xs.length + ys.length ≤ sizeLine ∧ P (.lst (xs ++ ys)) G
    | _, _ => False) (lq : LkQ X.K F P Q) : WO X (binaryOp .Add) v u H Q := by
  split at h
  · rename_i xs ys e1 e2
    obtain ⟨a, vs, rfl, h1, r1⟩ := lstOf_ok hr rx e1
    obtain ⟨b, us, rfl, h2, r2⟩ := lstOf_ok hr ry e2
    refine wo_of op_cat ⟨a, b, vs, us, rfl, rfl, h1, h2, by rw [r1.length, r2.length]; exact h.1, fun p hp => ?_⟩
    have n := hr.sub.free hp
    exact lq _ _ _ _ _ (Same.new n) (hr.froze hp) (.lst upd_same (RepA.mono (Same.new n) _ _ (r1.append r2))) h.2
  · exact h.elim
theorem q_add : Q2 X (WO X (binaryOp .Add)) rAdd := by
  intro F H G v u x y P Q hr rx ry h lq
  cases x with
  | int i =>
    cases y with
    | int j => cases rx; cases ry; exact wo_of op_add ⟨i, j, rfl, rfl, lq F H G _ _ (Same.refl F) hr (.int _) h⟩
    | _ => exact q_add_l F H G v u _ _ P Q hr rx ry h lq
  | str i =>
    cases y with
    | str j => cases rx; cases ry; exact wo_of op_add_str ⟨i, j, rfl, rfl, h.1, lq F H G _ _ (Same.refl F) hr (.str _) h.2⟩
    | _ => exact q_add_l F H G v u _ _ P Q hr rx ry h lq
  | tup xs =>
    cases y with
    | tup ys =>
      cases rx with
      | tup h1 r1 =>
        cases ry with
        | tup h2 r2 =>
          refine wo_of op_catN ⟨_, _, _, _, rfl, rfl, Same.tupT hr.sub h1.sq, Same.tupT hr.sub h2.sq, by rw [r1.length, r2.length]; exact h.1, fun e => ?_, fun _ e => ?_, fun _ _ p o hp hd => ?_⟩
          · subst e
            cases r1
            exact lq F H G _ _ (Same.refl F) hr (.tup h2 r2) h.2
          · subst e
            cases r2
            exact lq F H G _ _ (Same.refl F) hr (.tup h1 r1) (by have h2 := h.2; rw [List.append_nil] at h2; exact h2)
          · have n := hr.sub.free hp
            exact lq _ _ _ _ _ (Same.new n) (hr.froze hp) (.tup (TupOk.new hd) (RepA.mono (Same.new n) _ _ (r1.append r2))) h.2
    | _ => exact q_add_l F H G v u _ _ P Q hr rx ry h lq
  | _ => exact q_add_l F H G v u _ _ P Q hr rx ry (by cases y <;> exact h) lq
def rInt2 (C : Int → Int → Prop) (g : Int → Int → PV) (x : PV) (y : PV) (G : GH) (P : PK1) : Prop := match x, y with
  | .int i, .int j => C i j ∧ P (g i j) G
  | _, _ => False
def rInt0 (g : Int → Int → PV) (x : PV) (y : PV) (G : GH) (P : PK1) : Prop := match x, y with
  | .int i, .int j => P (g i j) G
  | _, _ => False
theorem q_int2 {f : Value → Value → Sem Value} {C : Int → Int → Prop} {g : Int → Int → V} {g' : Int → Int → PV} (ho : OpR X f (rI C g)) (hg : ∀ i j F, Rep X.K F (g i j) (g' i j)) : Q2 X (WO X f) (rInt2 C g') := by
  intro F H G v u x y P Q hr rx ry h lq
  cases x with
  | int i =>
    cases y with
    | int j => cases rx; cases ry; exact wo_of ho ⟨i, j, rfl, rfl, h.1, lq F H G _ _ (Same.refl F) hr (hg i j F) h.2⟩
    | _ => exact False.elim h
  | _ => exact False.elim h
theorem q_int0 {f : Value → Value → Sem Value} {g : Int → Int → V} {g' : Int → Int → PV} (ho : OpR X f (rI0 g)) (hg : ∀ i j F, Rep X.K F (g i j) (g' i j)) : Q2 X (WO X f) (rInt0 g') := by
  intro F H G v u x y P Q hr rx ry h lq
  cases x with
  | int i =>
    cases y with
    | int j => cases rx; cases ry; exact wo_of ho ⟨i, j, rfl, rfl, lq F H G _ _ (Same.refl F) hr (hg i j F) h⟩
    | _ => exact False.elim h
  | _ => exact False.elim h
def rSub : PO2 := rInt0 fun i j => .int (i - j)
theorem q_sub : Q2 X (WO X (binaryOp .Sub)) rSub := q_int0 op_sub fun _ _ _ => .int _
def CMul2 (i j : Int) : Prop := CMul i j ∨ CMulW i j
def CDiv2 (i j : Int) : Prop := CDiv i j ∨ CDivW i j
theorem op_mul2 : OpR X (binaryOp .Mult) (rI CMul2 fun i j => .int (i * j)) := fun pins s σ H x y v u Q I rx ry h => by
  obtain ⟨i, j, e1, e2, c | c, q⟩ := h
  · exact op_mul pins s σ H x y v u Q I rx ry ⟨i, j, e1, e2, c, q⟩
  · exact op_mulW pins s σ H x y v u Q I rx ry ⟨i, j, e1, e2, c, q⟩
theorem op_fdiv2 : OpR X (binaryOp .FloorDiv) (rI CDiv2 fun i j => .int (i / j)) := fun pins s σ H x y v u Q I rx ry h => by
  obtain ⟨i, j, e1, e2, c | c, q⟩ := h
  · exact op_fdiv pins s σ H x y v u Q I rx ry ⟨i, j, e1, e2, c, q⟩
  · exact op_fdivW pins s σ H x y v u Q I rx ry ⟨i, j, e1, e2, c, q⟩
/-- int * int; list * int; tuple * int -/
def rMul (x : PV) (y : PV) (G : GH) (P : PK1) : Prop := match x, y with
  | .int i, .int j => CMul2 i j ∧ P (.int (i * j)) G
  | .tup xs, .int k => xs ≠ [] ∧ 1 ≤ k ∧ k ≤ 1000 ∧ xs.length ≤ 1000 ∧ P (.tup (List.replicate k.toNat xs).flatten) G
  | .lst xs, .int k => -(2 ^ 63) ≤ k ∧ k < 2 ^ 63 ∧ xs.length * k.toNat ≤ sizeLine ∧ P (.lst (List.replicate k.toNat xs).flatten) G
  | _, _ => False
theorem RepA.rep {K : PySem.W.Frag} {F : Hp} {vs : List V} {xs : List PV} (h : RepA K F vs xs) : ∀ k : Nat, RepA K F (List.replicate k vs).flatten (List.replicate k xs).flatten
  | 0 => .nil
  | k + 1 => by
    rw [List.replicate_succ, List.replicate_succ, List.flatten_cons, List.flatten_cons]
    exact h.append (RepA.rep h k)
def rFdiv : PO2 := rInt2 CDiv2 fun i j => .int (i / j)
theorem q_fdiv : Q2 X (WO X (binaryOp .FloorDiv)) rFdiv := q_int2 op_fdiv2 fun _ _ _ => .int _
def rMod : PO2 := rInt2 (fun _ j => 0 < j) fun i j => .int (i % j)
theorem q_mod : Q2 X (WO X (binaryOp .Mod)) rMod := q_int2 op_mod fun _ _ _ => .int _
def rPow : PO2 := rInt2 CPow fun i j => .int (i ^ j.toNat)
theorem q_pow : Q2 X (WO X (binaryOp .Pow)) rPow := q_int2 op_pow fun _ _ _ => .int _
def rLt : PO2 := rInt0 fun i j => .bl (decide (i < j))
def rLe : PO2 := rInt0 fun i j => .bl (decide (i ≤ j))
def rGt : PO2 := rInt0 fun i j => .bl (decide (j < i))
def rGe : PO2 := rInt0 fun i j => .bl (decide (j ≤ i))
theorem q_lt : Q2 X (WO X (compareOp .Lt)) rLt := q_int0 op_lt fun _ _ _ => .bl _
theorem q_le : Q2 X (WO X (compareOp .LtE)) rLe := q_int0 op_le fun _ _ _ => .bl _
theorem q_gt : Q2 X (WO X (compareOp .Gt)) rGt := q_int0 op_gt fun _ _ _ => .bl _
theorem q_ge : Q2 X (WO X (compareOp .GtE)) rGe := q_int0 op_ge fun _ _ _ => .bl _
def rNeg (x : PV) (G : GH) (P : PK1) : Prop := match x with
  | .int i => P (.int (-i)) G
  | _ => False
theorem q_neg : Q1 X (WU X (unaryOp .USub)) rNeg := by
  intro F H G v x P Q hr rx h lq
  cases x with
  | int i => cases rx; exact wu_of un_neg ⟨i, rfl, lq F H G _ _ (Same.refl F) hr (.int _) h⟩
  | _ => exact False.elim h

/-! ### == , in -/
def rEq (x : PV) (y : PV) (G : GH) (P : PK1) : Prop := match x, y with
  | .int i, .int j => P (.bl (decide (i = j))) G
  | .str i, .str j => P (.bl (decide (i = j))) G
  | x, y => match datOf G x, datOf G y with
    | some d, some e => SeqAt.shaped d = true ∧ SeqAt.shaped e = true ∧ P (.bl (PyData.eqv d e)) G
    | _, _ => False
def rNe (x : PV) (y : PV) (G : GH) (P : PK1) : Prop := match x, y with
  | .int i, .int j => P (.bl (!decide (i = j))) G
  | .str i, .str j => P (.bl (!decide (i = j))) G
  | x, y => match datOf G x, datOf G y with
    | some d, some e => SeqAt.shaped d = true ∧ SeqAt.shaped e = true ∧ P (.bl (!PyData.eqv d e)) G
    | _, _ => False
theorem q_eq_d (hu : X.A.units + 64 < cLine) (F H : Hp) (G : GH) (v u : V) (x y : PV) (P : PK1) (Q : VK) (hr : Rl X.K F H G) (rx : Rep X.K F v x) (ry : Rep X.K F u y)
    (h : match datOf G x, datOf G y with
    | some d, some e => SeqAt.shaped d = true ∧ SeqAt.shaped e = true ∧ P (.bl (PyData.eqv d e)) G
    | _, _ => False) (lq : LkQ X.K F P Q) : WO X (compareOp .Eq) v u H Q := by
  split at h
  · rename_i d e e1 e2
    exact wo_of (op_eqD hu) ⟨d, e, datOf_dp hr rx e1, datOf_dp hr ry e2, h.1, h.2.1, lq F H G _ _ (Same.refl F) hr (.bl _) h.2.2⟩
  · exact h.elim
theorem q_ne_d (hu : X.A.units + 64 < cLine) (F H : Hp) (G : GH) (v u : V) (x y : PV) (P : PK1) (Q : VK) (hr : Rl X.K F H G) (rx : Rep X.K F v x) (ry : Rep X.K F u y)
    (h : match datOf G x, datOf G y with
    | some d, some e => SeqAt.shaped d = true ∧ SeqAt.shaped e = true ∧ P (.bl (!PyData.eqv d e)) G
    | _, _ => False) (lq : LkQ X.K F P Q) : WO X (compareOp .NotEq) v u H Q := by
  split at h
  · rename_i d e e1 e2
    exact wo_of (op_neD hu) ⟨d, e, datOf_dp hr rx e1, datOf_dp hr ry e2, h.1, h.2.1, lq F H G _ _ (Same.refl F) hr (.bl _) h.2.2⟩
  · exact h.elim
theorem q_eq (hu : X.A.units + 64 < cLine) : Q2 X (WO X (compareOp .Eq)) rEq := by
  intro F H G v u x y P Q hr rx ry h lq
  cases x with
  | int i =>
    cases y with
    | int j => cases rx; cases ry; exact wo_of op_eq ⟨rfl, lq F H G _ _ (Same.refl F) hr (by rw [show decide (V.int i = V.int j) = decide (i = j) from by rw [dec_int]; exact Bool.beq_eq_decide_eq i j]; exact .bl _) h⟩
    | _ => exact q_eq_d hu F H G v u _ _ P Q hr rx ry h lq
  | str i =>
    cases y with
    | str j => cases rx; cases ry; exact wo_of op_eq ⟨rfl, lq F H G _ _ (Same.refl F) hr (by rw [show decide (V.str i = V.str j) = decide (i = j) from by rw [dec_str]; exact Bool.beq_eq_decide_eq i j]; exact .bl _) h⟩
    | _ => exact q_eq_d hu F H G v u _ _ P Q hr rx ry h lq
  | _ => exact q_eq_d hu F H G v u _ _ P Q hr rx ry (by cases y <;> exact h) lq
theorem q_ne (hu : X.A.units + 64 < cLine) : Q2 X (WO X (compareOp .NotEq)) rNe := by
  intro F H G v u x y P Q hr rx ry h lq
  cases x with
  | int i =>
    cases y with
    | int j => cases rx; cases ry; exact wo_of op_ne ⟨rfl, lq F H G _ _ (Same.refl F) hr (by rw [show decide (V.int i = V.int j) = decide (i = j) from by rw [dec_int]; exact Bool.beq_eq_decide_eq i j]; exact .bl _) h⟩
    | _ => exact q_ne_d hu F H G v u _ _ P Q hr rx ry h lq
  | str i =>
    cases y with
    | str j => cases rx; cases ry; exact wo_of op_ne ⟨rfl, lq F H G _ _ (Same.refl F) hr (by rw [show decide (V.str i = V.str j) = decide (i = j) from by rw [dec_str]; exact Bool.beq_eq_decide_eq i j]; exact .bl _) h⟩
    | _ => exact q_ne_d hu F H G v u _ _ P Q hr rx ry h lq
  | _ => exact q_ne_d hu F H G v u _ _ P Q hr rx ry (by cases y <;> exact h) lq
end
end PL
end

section
/-! POps2: subscripts, slices, membership, dicts, built-ins, methods, calls of defs. -/
namespace PL
open PySem PySem.Spec PyProof.Rows L2

/-! ### * -/
theorem tuple_mul1 (l : Addr) (items : Array Value) (n : Nat) (sl : Array (Option Value)) (x : Int) (u : Tok) (c0 : (decide (x < -(2 ^ 63)) || decide (x ≥ 2 ^ 63)) = false) (c1 : (items.isEmpty || x == 1) = true) :
    Meets (Builtin.«tuple.__mul__» ⟨[.ref l, .int x u], []⟩) (fun _ R s => ∃ dd, s.heap.get? l = some { cls := .type "tuple", dict := dd, data := .seq items n, slots := sl } ∧ R (.ok (.ret (Value.ref l))) s) :=
  .of_wp fun prog w A R s h => by
    obtain ⟨hp, g, d, tk, os⟩ := s
    obtain ⟨dd, hl, h⟩ := h
    have f1 := AutoSeq1.idx_int
    wp_walk using wpAny_loadPart' hl
    repeat (first
      | (refine wpAny_ite_false (decide_eq_false (by rw [c0]; exact Bool.false_ne_true)) ?_; wp_walk using wpAny_loadPart' hl)
      | (refine wpAny_ite_true (decide_eq_true c1) ?_; wp_walk using wpAny_loadPart' hl))
    exact ⟨_, rfl, h⟩

section
variable {X : Cx}
def rRepN (K : PySem.W.Frag) : R2 := fun x y H Q => ∃ l k xs, x = .ref l ∧ y = .int k ∧ SqT K H l xs ∧ xs ≠ [] ∧ 1 ≤ k ∧ k ≤ 1000 ∧ xs.length ≤ 1000 ∧ (k = 1 → Q (.ref l) H) ∧
  (2 ≤ k → ∀ p o, H p = none → o.dict = none → Q (.ref p) (upd H p (.frz o (.tup (List.replicate k.toNat xs).flatten))))
theorem op_repN : OpR X (binaryOp .Mult) (rRepN X.K) := by
  intro pins s σ H x y v u Q I rx ry h
  obtain ⟨l, k, xs, rfl, rfl, hT, hne, h1, h2, hz, q1, q2⟩ := h
  cases rx
  obtain ⟨t, rfl⟩ := ry
  obtain ⟨its, r, ⟨⟨cls, dd, data, sl⟩, ho, hc, n, hd⟩, hs⟩ := I.tuple hT
  simp only at hc hd
  subst hc hd
  have hle : its.length = xs.length := r.length.symm
  have hi : its.toArray.isEmpty = false := by
    cases its with
    | nil => exact absurd (List.eq_nil_of_length_eq_zero hle.symm) hne
    | cons a b => rfl
  have c0 : (decide (k < -(2 ^ 63)) || decide (k ≥ 2 ^ 63)) = false := by
    rw [decide_eq_false (by omega), decide_eq_false (by omega)] <;> rfl
  have go : ∀ {R : Value → Shared → Prop}, (∀ Rr : Result → Shared → Prop, (∀ w s', R w s' → Rr (.ok (.ret w)) s') → codeAny (model X.prog X.w) X.A.in1 (.call (.builtin "tuple.__mul__") ⟨[.ref l, .int k t], []⟩) Rr s) → True := fun _ => trivial
  by_cases h3 : k = 1
  · have c1 : (its.toArray.isEmpty || k == 1) = true := by rw [h3, hi]; rfl
    refine wpAny_binaryOp_repeat_ref (T := "tuple") (U := "int") (by decide) ⟨_, ho, rfl⟩ (fun s' => typeIs_int s' k t) noFill_tuple_mul F.fills_int_mul F.slot_int_rmul repeat_tuple F.slot_int_index.lookup
      (call_meets F.slot_int_rmul (typeIs_int s k t) F.entry_int_rmul (F.args_int_rmul_2 _ _) (int_rmul_tuple k t l its.toArray n dd sl)
        ⟨ho, rfl, ⟨_, ho, rfl⟩, call_meets F.slot_tuple_mul ⟨_, ho, rfl⟩ F.entry_tuple_mul (F.args_tuple_mul_2 _ _) (tuple_mul1 l its.toArray n sl k t c0 c1) ⟨dd, ho, ?_⟩⟩)
    exact ⟨.ref l, H, I, rfl, q1 h3⟩
  have hsz0 : its.toArray.size = xs.length := by rw [List.size_toArray, hle]
  have hm : ((its.toArray.size : Nat) : Int) * k ≤ 1000000 := by
    rw [hsz0]
    have a1 : ((xs.length : Nat) : Int) * k ≤ 1000 * k := Int.mul_le_mul_of_nonneg_right (by omega) (by omega)
    omega
  have fl2 : (List.replicate k.toNat xs).flatten.length ≤ sizeLine := by
    rw [PyProof.Rows.lm_len_rep_flat, sizeLine_eq]
    have a1 : k.toNat * xs.length ≤ 1000 * 1000 := Nat.mul_le_mul (by omega) hz
    omega
  have flen : (List.replicate k.toNat its).flatten.length ≤ sizeLine := by
    rw [PyProof.Rows.lm_len_rep_flat, hle, ← PyProof.Rows.lm_len_rep_flat]
    exact fl2
  have c1 : (its.toArray.isEmpty || k == 1) = false := by
    rw [hi, Bool.false_or]
    exact beq_eq_false_iff_ne.mpr h3
  have c2 : (decide (k ≤ 0) || its.toArray.isEmpty) = false := by
    rw [hi, Bool.or_false]
    exact decide_eq_false (by omega)
  have c4 : Builtin.Tuple.tupleTooMany (((its.toArray.size : Nat) : Int) * k) = false := by
    unfold Builtin.Tuple.tupleTooMany
    rw [sizeLine_eq]
    exact decide_eq_false (by omega)
  refine wpAny_binaryOp_repeat_ref (T := "tuple") (U := "int") (by decide) ⟨_, ho, rfl⟩ (fun s' => typeIs_int s' k t) noFill_tuple_mul F.fills_int_mul F.slot_int_rmul repeat_tuple F.slot_int_index.lookup
    (call_meets F.slot_int_rmul (typeIs_int s k t) F.entry_int_rmul (F.args_int_rmul_2 _ _) (int_rmul_tuple k t l its.toArray n dd sl)
      ⟨ho, rfl, ⟨_, ho, rfl⟩, call_meets F.slot_tuple_mul ⟨_, ho, rfl⟩ F.entry_tuple_mul (F.args_tuple_mul_2 _ _) (tuple_mulW l its.toArray n dd sl k t c0 c1 c2 (by omega) c4 (by rw [size_rep, List.size_toArray]; exact flen)) ⟨ho, ?_⟩⟩)
  rw [size_rep]
  exact ⟨.ref _, _, laidT (t' := s.toks) I fl2 (r.rep k.toNat), rfl, q2 (by omega) _ _ (I.hok.fresh (Nat.le_refl _)) rfl⟩
theorem q_mul : Q2 X (WO X (binaryOp .Mult)) rMul := by
  intro F H G v u x y P Q hr rx ry h lq
  cases x with
  | int i =>
    cases y with
    | int j => cases rx; cases ry; exact wo_of op_mul2 ⟨i, j, rfl, rfl, h.1, lq F H G _ _ (Same.refl F) hr (.int _) h.2⟩
    | _ => exact False.elim h
  | tup xs =>
    cases y with
    | int k =>
      cases ry
      obtain ⟨h1, h2, h3, h4, h5⟩ := h
      cases rx with
      | tup t1 t2 =>
        refine wo_of op_repN ⟨_, k, _, rfl, rfl, Same.tupT hr.sub t1.sq, fun e => h1 (by subst e; cases t2; rfl), h2, h3, by rw [t2.length]; exact h4, fun e => ?_, fun e p o hp hd => ?_⟩
        · subst e
          exact lq F H G _ _ (Same.refl F) hr (.tup t1 t2) (by simpa using h5)
        · have n := hr.sub.free hp
          exact lq _ _ _ _ _ (Same.new n) (hr.froze hp) (.tup (TupOk.new hd) (RepA.mono (Same.new n) _ _ (t2.rep _))) h5
    | _ => exact False.elim h
  | lst xs =>
    cases y with
    | int k =>
      cases ry
      obtain ⟨h1, h2, h3, h4⟩ := h
      cases rx with
      | lst t1 t2 =>
        refine wo_of op_rep ⟨_, k, _, rfl, rfl, hr.sub _ _ t1, h1, h2, by rw [t2.length]; exact h3, fun p hp => ?_⟩
        have n := hr.sub.free hp
        exact lq _ _ _ _ _ (Same.new n) (hr.froze hp) (.lst upd_same (RepA.mono (Same.new n) _ _ (t2.rep _))) h4
    | _ => exact False.elim h
  | _ => exact False.elim h

/-! ### a[i] -/
def pkey : PV → Option Key
  | .int i => some (.inl i)
  | .str x => some (.inr x)
  | _ => none
theorem pkey_v {K : PySem.W.Frag} {F : Hp} {v : V} {x : PV} {k : Key} (r : Rep K F v x) (e : pkey x = some k) : v = kV k := by
  cases x with
  | int i => cases e; cases r; rfl
  | str i => cases e; cases r; rfl
  | _ => cases e
def valP (kvs : List (Key × PV)) (k : Key) : Option PV := (kvs.find? fun kv => decide (kv.1 = k)).map (·.2)
def putP (kvs : List (Key × PV)) (k : Key) (v : PV) : List (Key × PV) := if kvs.any (fun kv => decide (kv.1 = k)) then kvs.map (fun kv => if kv.1 = k then (kv.1, v) else kv) else kvs ++ [(k, v)]
theorem repD_cons {K : PySem.W.Frag} {F : Hp} {p : Key × V} {vs : List (Key × V)} {q : Key × PV} {xs : List (Key × PV)} : RepD K F (p :: vs) (q :: xs) ↔ p.1 = q.1 ∧ Rep K F p.2 q.2 ∧ RepD K F vs xs := by
  constructor
  · rintro ⟨h1, h2⟩
    cases h2 with
    | cons a b => exact ⟨by injection h1, a, by injection h1, b⟩
  · rintro ⟨h1, h2, h3, h4⟩
    exact ⟨by show p.1 :: vs.map (·.1) = q.1 :: xs.map (·.1); rw [h1, h3], .cons h2 h4⟩
theorem repD_nil {K : PySem.W.Frag} {F : Hp} {vs : List (Key × V)} (h : RepD K F vs []) : vs = [] := List.map_eq_nil_iff.mp h.1
theorem repD_nil' {K : PySem.W.Frag} {F : Hp} {q : Key × PV} {xs : List (Key × PV)} (h : RepD K F [] (q :: xs)) : False := by cases h.1
theorem RepD.length {K : PySem.W.Frag} {F : Hp} {vs : List (Key × V)} {xs : List (Key × PV)} (h : RepD K F vs xs) : vs.length = xs.length := by
  have := congrArg List.length h.1
  simpa using this
theorem RepD.val {K : PySem.W.Frag} {F : Hp} (k : Key) : ∀ {vs : List (Key × V)} {xs : List (Key × PV)}, RepD K F vs xs → (∀ x, valP xs k = some x → ∃ v, valV vs k = some v ∧ Rep K F v x) ∧ (valP xs k = none → valV vs k = none)
  | [], [], _ => ⟨fun x e => (by cases e), fun _ => rfl⟩
  | _ :: _, [], h => by cases repD_nil h
  | [], _ :: _, h => (repD_nil' h).elim
  | (k1, v) :: vs, (k2, x) :: xs, h => by
    obtain ⟨e, r, t⟩ := repD_cons.mp h
    have ih := RepD.val k t
    have e : k1 = k2 := e
    subst e
    by_cases z : k1 = k
    · rw [valV_pos z]
      have e2 : valP ((k1, x) :: xs) k = some x := by simp [valP, List.find?_cons, z]
      rw [e2]
      exact ⟨fun y q => by cases q; exact ⟨v, rfl, r⟩, fun q => by cases q⟩
    · rw [valV_neg z]
      have e2 : valP ((k1, x) :: xs) k = valP xs k := by simp [valP, List.find?_cons, z]
      rw [e2]
      exact ih
theorem RepD.anyK {K : PySem.W.Frag} {F : Hp} (k : Key) {vs : List (Key × V)} {xs : List (Key × PV)} (h : RepD K F vs xs) : (vs.any fun kv => decide (kv.1 = k)) = xs.any fun kv => decide (kv.1 = k) := by
  have e1 : (vs.any fun kv => decide (kv.1 = k)) = (vs.map (·.1)).any fun z => decide (z = k) := by rw [List.any_map]; rfl
  have e2 : (xs.any fun kv => decide (kv.1 = k)) = (xs.map (·.1)).any fun z => decide (z = k) := by rw [List.any_map]; rfl
  rw [e1, e2, h.1]
theorem RepD.repl {K : PySem.W.Frag} {F : Hp} {k : Key} {v : V} {x : PV} (r : Rep K F v x) : ∀ {vs : List (Key × V)} {xs : List (Key × PV)}, RepD K F vs xs → RepD K F (vs.map fun kv => if kv.1 = k then (kv.1, v) else kv) (xs.map fun kv => if kv.1 = k then (kv.1, x) else kv)
  | [], [], h => h
  | _ :: _, [], h => by cases repD_nil h
  | [], _ :: _, h => (repD_nil' h).elim
  | (k1, w) :: vs, (k2, y) :: xs, h => by
    obtain ⟨e, rr, t⟩ := repD_cons.mp h
    have ih := RepD.repl (k := k) r t
    have e : k1 = k2 := e
    subst e
    rw [List.map_cons, List.map_cons]
    by_cases z : k1 = k
    · rw [if_pos z, if_pos z]; exact repD_cons.mpr ⟨rfl, r, ih⟩
    · rw [if_neg z, if_neg z]; exact repD_cons.mpr ⟨rfl, rr, ih⟩
theorem RepD.append {K : PySem.W.Frag} {F : Hp} {vs ws : List (Key × V)} {xs ys : List (Key × PV)} (h : RepD K F vs xs) (h' : RepD K F ws ys) : RepD K F (vs ++ ws) (xs ++ ys) :=
  ⟨by rw [List.map_append, List.map_append, h.1, h'.1], by rw [List.map_append, List.map_append]; exact h.2.append h'.2⟩
theorem RepD.put {K : PySem.W.Frag} {F : Hp} {k : Key} {v : V} {x : PV} {vs : List (Key × V)} {xs : List (Key × PV)} (h : RepD K F vs xs) (r : Rep K F v x) : RepD K F (putK vs k v) (putP xs k x) := by
  unfold putK putP
  rw [h.anyK k]
  split
  · exact h.repl r
  · exact h.append ⟨rfl, .cons r .nil⟩

theorem RepA.atI {K : PySem.W.Frag} {F : Hp} {vs : List V} {xs : List PV} {i : Int} {x : PV} (r : RepA K F vs xs) (e : atI xs i = some x) : ∃ v, atI vs i = some v ∧ Rep K F v x := by
  unfold L2.atI at e ⊢
  rw [r.length]
  cases q : ixN xs.length i with
  | none => rw [q] at e; cases e
  | some j => rw [q] at e; exact r.get (i := j) e
def ixL (xs : List PV) (y : PV) (G : GH) (P : PK1) : Prop := match y with
  | .int i => (match atI xs i with
    | some v => P v G
    | none => False)
  | _ => False
def ixD (kvs : List (Key × PV)) (y : PV) (G : GH) (P : PK1) : Prop := match pkey y with
  | some k => (match valP kvs k with
    | some v => P v G
    | none => False)
  | none => False
def ixS (z : Str) (y : PV) (G : GH) (P : PK1) : Prop := match y with
  | .int i => z.length ≤ sizeLine ∧ (match atI z.cps.toList i with
    | some c => P (.str ⟨#[c]⟩) G
    | none => False)
  | _ => False
def rIx (x : PV) (y : PV) (G : GH) (P : PK1) : Prop := match x with
  | .tup xs => ixL xs y G P
  | .lst xs => ixL xs y G P
  | .scr ns => ixL (ns.map .int) y G P
  | .str z => ixS z y G P
  | .ref a => (match G a with
    | some (.lst xs) => ixL xs y G P
    | some (.dk kvs) => ixD kvs y G P
    | some (.fdk _ _ kvs) => ixD kvs y G P
    | _ => False)
  | _ => False
theorem ix_dictV (hu : X.A.units + 1 < cLine) : IxR X (fun x y H Q => ∃ a v, x = .ref a ∧ DGet H a y (some v) ∧ Q v H) := by
  intro value slice pins s σ H x y v u Q I rx ry h hs
  obtain ⟨a, w, rfl, g, q⟩ := h
  cases rx
  exact tail_any (dict_typeIs I g) PySem.F.slot_dict_getitem.lookup (d_getItem hu I g ry fun w' s3 I3 rw' => ⟨w, H, I3, rw', q⟩) hs
theorem q_ixL {F H : Hp} {G : GH} {a : Addr} {vs : List V} {xs : List PV} {u : V} {y : PV} {P : PK1} {Q : VK} (hr : Rl X.K F H G) (hs : SqL X.K H a vs ∨ SqT X.K H a vs) (ra : RepA X.K F vs xs) (ru : Rep X.K F u y)
    (h : ixL xs y G P) (lq : LkQ X.K F P Q) : WIx X (.ref a) u H Q := by
  cases y with
  | int i =>
    cases ru
    unfold ixL at h
    dsimp only at h
    split at h
    · rename_i x e
      obtain ⟨v, e1, r1⟩ := ra.atI e
      rcases hs with hs | hs
      · exact wix_of ix_list ⟨a, vs, i, v, rfl, rfl, hs, e1, lq F H G _ _ (Same.refl F) hr r1 h⟩
      · exact wix_of ix_tup ⟨a, vs, i, v, rfl, rfl, hs, e1, lq F H G _ _ (Same.refl F) hr r1 h⟩
    · exact h.elim
  | _ => exact False.elim h
theorem q_ix (hu : X.A.units + 1 < cLine) : Q2 X (WIx X) rIx := by
  intro F H G v u x y P Q hr rx ry h lq
  cases x with
  | tup xs =>
    cases rx with
    | tup t1 t2 => exact q_ixL hr (.inr (Same.tupT hr.sub t1.sq)) t2 ry h lq
  | lst xs =>
    cases rx with
    | lst t1 t2 => exact q_ixL hr (.inl (.inl (.inl (hr.sub _ _ t1)))) t2 ry h lq
  | scr ns =>
    cases rx with
    | scr t1 => exact q_ixL hr (.inl (hr.sub.seq t1)) (RepA.of_ints ns) ry h lq
  | str z =>
    cases y with
    | int i =>
      cases ry
      cases rx
      obtain ⟨h1, h⟩ := (show z.length ≤ sizeLine ∧ (match atI z.cps.toList i with
        | some c => P (.str ⟨#[c]⟩) G
        | none => False) from h)
      split at h
      · rename_i c e
        exact wix_of ix_str ⟨z, i, c, rfl, rfl, h1, e, lq F H G _ _ (Same.refl F) hr (.str _) h⟩
      · exact h.elim
    | _ => exact False.elim h
  | ref a =>
    cases rx
    unfold rIx at h
    dsimp only at h
    split at h
    · rename_i xs ga
      obtain ⟨_, vs, e1, r1⟩ := hr.own _ _ ga
      exact q_ixL hr (.inl (.inl (.inl e1))) r1 ry h lq
    · rename_i kvs ga
      obtain ⟨_, vs, e1, r1⟩ := hr.own _ _ ga
      unfold ixD at h
      split at h
      · rename_i k ek
        split at h
        · rename_i x ex
          obtain ⟨w, e2, r2⟩ := (r1.val k).1 x ex
          exact wix_of (ix_dictV hu) ⟨a, w, rfl, .inl ⟨vs, k, .inl e1, pkey_v ry ek, e2.symm⟩, lq F H G _ _ (Same.refl F) hr r2 h⟩
        · exact h.elim
      · exact h.elim
    · rename_i od vs kvs ga
      obtain ⟨_, e1, r1⟩ := hr.own _ _ ga
      unfold ixD at h
      split at h
      · rename_i k ek
        split at h
        · rename_i x ex
          obtain ⟨w, e2, r2⟩ := (r1.val k).1 x ex
          exact wix_of (ix_dictV hu) ⟨a, w, rfl, .inl ⟨vs, k, .inr ⟨_, e1⟩, pkey_v ry ek, e2.symm⟩, lq F H G _ _ (Same.refl F) hr r2 h⟩
        · exact h.elim
      · exact h.elim
    · exact h.elim
  | _ => exact False.elim h

/-! ### a[i] = x -/
def setL (a : Addr) (xs : List PV) (i x : PV) (G : GH) (P : GH → Prop) : Prop := match i with
  | .int k => (match ixN xs.length k with
    | some j => P (gset G a (.lst (xs.set j x)))
    | none => False)
  | _ => False
def setD (a : Addr) (kvs : List (Key × PV)) (i x : PV) (G : GH) (P : GH → Prop) : Prop := match pkey i with
  | some k => kvs.length < sizeLine ∧ P (gset G a (.dk (putP kvs k x)))
  | none => False
def rSet (o : PV) (i : PV) (x : PV) (G : GH) (P : (GH → Prop)) : Prop := match o with
  | .ref a => (match G a with
    | some (.lst xs) => setL a xs i x G P
    | some (.dk kvs) => setD a kvs i x G P
    | _ => False)
  | _ => False
theorem q_set (hu : X.A.units + 1 < cLine) : Q3 X (WSet X) rSet := by
  intro F H G o i v po pi px P Q hr ro ri rv h hq
  cases po with
  | ref a =>
    cases ro
    unfold rSet at h
    dsimp only at h
    split at h
    · rename_i xs ga
      obtain ⟨n, vs, e1, r1⟩ := hr.own _ _ ga
      cases pi with
      | int k =>
        cases ri
        unfold setL at h
        dsimp only at h
        split at h
        · rename_i j ej
          exact wset_of set_list ⟨a, vs, k, j, rfl, rfl, e1, by rw [r1.length]; exact ej, hq F _ _ (Same.refl F) (hr.owned (g := .lst (xs.set j px)) n ⟨_, upd_same, RepA.set rv j r1⟩) h⟩
        · exact h.elim
      | _ => exact False.elim h
    · rename_i kvs ga
      obtain ⟨n, vs, e1, r1⟩ := hr.own _ _ ga
      unfold setD at h
      split at h
      · rename_i k ek
        refine fun pins s σ ov iv u I r1' r2 r3 => ?_
        cases r1'
        exact d_setItem hu I (.inl ⟨vs, k, e1, pkey_v ri ek, by rw [r1.length]; exact h.1, rfl⟩) r2 r3 fun s' I' => ⟨_, I', hq F _ _ (Same.refl F) (hr.owned (g := .dk (putP kvs k px)) n ⟨_, upd_same, r1.put rv⟩) h.2⟩
      · exact h.elim
    · exact h.elim
  | _ => exact False.elim h
end
end PL
end

section
/-! POps3: slices, membership, dict displays, built-ins, isinstance, methods, repr. -/
namespace PL
open PySem PySem.Spec PyProof.Rows L2

/-! ### slices -/
abbrev PTO := PEn → GH → (Option Int → GH → Prop) → PXK → Prop
def WPo (X : Cx) (o : Option Expr) : TO := fun σ H Q => ∃ t, PO X o t ∧ t σ H Q
theorem po_w {X : Cx} {o : Option Expr} : PO X o (WPo X o) := ⟨fun pins s σ H Q I ⟨t, h, q⟩ => h.run pins s σ H Q I q⟩
def WSl (X : Cx) : V → Option Int → Option Int → Hp → VK → Prop := fun x lo hi H Q => ∃ r, SlR X r ∧ r x lo hi H Q
theorem sl_w {X : Cx} : SlR X (WSl X) := fun pins s σ H x v vl vu lo hi sl Q I rx hs pl pu ⟨r, h, q⟩ => h pins s σ H x v vl vu lo hi sl Q I rx hs pl pu q
structure QO (X : Cx) (o : Option Expr) (t : PTO) : Prop where
  run : ∀ (W : WX), Takes X W → ∀ (F H : Hp) (G : GH) (σ : List (Option V)) (env : PEn) (P : Option Int → GH → Prop) (Ex : PXK) (Q : Option Int → Hp → Prop), Rl X.K F H G → Vs X.K F σ env → t env G P Ex →
    (∀ F' H' G' i, Same F F' → Rl X.K F' H' G' → P i G' → Q i H') → LkX X.K F Ex W → WPo X o σ H Q
def pNoPart (_z0 : PEn) (G : GH) (P : (Option Int → GH → Prop)) (_z3 : PXK) : Prop := P none G
def pPart (t : PTE) (env : PEn) (G : GH) (P : (Option Int → GH → Prop)) (Ex : PXK) : Prop := t env G (fun x G1 => match x with
  | .int i => P (some i) G1
  | _ => False) Ex
theorem qo_none {X : Cx} : QO X none pNoPart := ⟨fun W tk F H G σ env P Ex Q hr hv h lq lx => ⟨_, po_none, lq F H G none (Same.refl F) hr h⟩⟩
theorem qo_some {X : Cx} {e : Expr} {t : PTE} (he : QE X e t) : QO X (some e) (pPart t) := by
  refine ⟨fun W tk F H G σ env P Ex Q hr hv h lq lx => ⟨_, po_some pe_we, ?_⟩⟩
  refine he.run W tk F H G σ env _ Ex _ hr hv h (fun F1 H1 G1 v x s1 r1 rv h1 => ?_) lx
  cases x with
  | int i => cases rv; exact ⟨i, rfl, lq F1 H1 G1 _ s1 r1 h1⟩
  | _ => exact False.elim h1
def cutP (xs : List PV) (lo hi : Option Int) : List PV := (xs.drop (HT.sIx xs.length 0 lo)).take (HT.sIx xs.length xs.length hi - HT.sIx xs.length 0 lo)
theorem RepA.cut {K : PySem.W.Frag} {F : Hp} {vs : List V} {xs : List PV} (r : RepA K F vs xs) (lo hi : Option Int) : RepA K F (cutV vs lo hi) (cutP xs lo hi) := by
  unfold cutV cutP
  rw [r.length]
  exact (r.drop _).take _
def rSl (x : PV) (lo hi : Option Int) (G : GH) (P : PK1) : Prop := match x with
  | .tup xs => P (.tup (cutP xs lo hi)) G
  | .lst xs => P (.lst (cutP xs lo hi)) G
  | .scr ns => P (.lst (cutP (ns.map .int) lo hi)) G
  | .ref a => (match ownL G a with
    | some xs => P (.lst (cutP xs lo hi)) G
    | none => False)
  | _ => False
def pSl (te : PTE) (tl th : PTO) (env : PEn) (G : GH) (P : PK1) (Ex : PXK) : Prop := te env G (fun x G1 => tl env G1 (fun l G2 => th env G2 (fun u G3 => rSl x l u G3 P) Ex) Ex) Ex
section
variable {X : Cx}
theorem q_slL {F H : Hp} {G : GH} {a : Addr} {vs : List V} {xs : List PV} {lo hi : Option Int} {P : PK1} {Q : VK} (hr : Rl X.K F H G) (hs : SqL X.K H a vs) (ra : RepA X.K F vs xs) (h : P (.lst (cutP xs lo hi)) G) (lq : LkQ X.K F P Q) : WSl X (.ref a) lo hi H Q := by
  refine ⟨_, sl_list, a, vs, rfl, hs, fun p hp => ?_⟩
  have n := hr.sub.free hp
  exact lq _ _ _ _ _ (Same.new n) (hr.froze hp) (.lst upd_same (RepA.mono (Same.new n) _ _ (ra.cut lo hi))) h
theorem q_sl {F H : Hp} {G : GH} {v : V} {x : PV} {lo hi : Option Int} {P : PK1} {Q : VK} (hr : Rl X.K F H G) (rx : Rep X.K F v x) (h : rSl x lo hi G P) (lq : LkQ X.K F P Q) : WSl X v lo hi H Q := by
  cases x with
  | tup xs =>
    cases rx with
    | tup t1 t2 =>
      refine ⟨_, sl_tupN, _, _, rfl, Same.tupT hr.sub t1.sq, fun e => ?_, fun e p o hp hd => ?_⟩
      · have ec : cutP xs lo hi = xs := by
          unfold cutP
          rw [t2.length] at e
          rw [e.1, e.2]
          simp
        exact lq F H G _ _ (Same.refl F) hr (.tup t1 t2) (by have h' : P (.tup (cutP xs lo hi)) G := h; rw [ec] at h'; exact h')
      · have n := hr.sub.free hp
        exact lq _ _ _ _ _ (Same.new n) (hr.froze hp) (.tup (TupOk.new hd) (RepA.mono (Same.new n) _ _ (t2.cut lo hi))) h
  | lst xs =>
    cases rx with
    | lst t1 t2 => exact q_slL hr (.inl (.inl (hr.sub _ _ t1))) t2 h lq
  | scr ns =>
    cases rx with
    | scr t1 => exact q_slL hr (hr.sub.seq t1) (RepA.of_ints ns) h lq
  | ref a =>
    cases rx
    unfold rSl at h
    dsimp only at h
    split at h
    · rename_i xs e
      obtain ⟨_, vs, h1, h2⟩ := hr.own _ _ (ownL_eq e)
      exact q_slL hr (.inl (.inl h1)) h2 h lq
    · exact h.elim
  | _ => exact False.elim h
theorem qe_sl {e : Expr} {lo hi : Option Expr} {te : PTE} {tl th : PTO} {pos p2 : Pos} (he : QE X e te) (hl : QO X lo tl) (hh : QO X hi th) : QE X (.Subscript e (.Slice lo hi none p2) pos) (pSl te tl th) := by
  refine ⟨fun W tk F H G σ env P Ex Q hr hv h lq lx => we_of (pe_slice sl_w pe_we po_w po_w) ?_⟩
  refine he.run W tk F H G σ env _ Ex _ hr hv h (fun F1 H1 G1 v x s1 r1 rv h1 => ?_) lx
  refine hl.run W tk F1 H1 G1 σ env _ Ex _ r1 (hv.mono s1) h1 (fun F2 H2 G2 l s2 r2 h2 => ?_) (lx.mono s1)
  refine hh.run W tk F2 H2 G2 σ env _ Ex _ r2 ((hv.mono s1).mono s2) h2 (fun F3 H3 G3 u s3 r3 h3 => ?_) ((lx.mono s1).mono s2)
  exact q_sl r3 (Rep.mono (s2.trans s3) _ _ rv) h3 (((lq.mono s1).mono s2).mono s3)

/-! ### in -/
def flatP : PV → Bool
  | .non => true
  | .bl _ => true
  | .int _ => true
  | .str _ => true
  | _ => false
def eqP (x y : PV) : Bool := PyData.eqv x.dat y.dat
theorem flat_v {K : PySem.W.Frag} {F : Hp} {v : V} {x : PV} (r : Rep K F v x) (h : flatP x = true) : flatV v = true := by
  cases x with
  | non => cases r; rfl
  | bl b => cases r; rfl
  | int b => cases r; rfl
  | str b => cases r; rfl
  | _ => cases h
theorem eqP_v {K : PySem.W.Frag} {F : Hp} {v u : V} {x y : PV} (r : Rep K F v x) (q : Rep K F u y) (h : flatP x = true) (h' : flatP y = true) : eqV v u = eqP x y := by
  cases x with
  | non => cases r; cases y with
    | non => cases q; rfl
    | bl b => cases q; rfl
    | int b => cases q; rfl
    | str b => cases q; rfl
    | _ => cases h'
  | bl b => cases r; cases y with
    | non => cases q; rfl
    | bl b => cases q; rfl
    | int b => cases q; rfl
    | str b => cases q; rfl
    | _ => cases h'
  | int b => cases r; cases y with
    | non => cases q; rfl
    | bl b => cases q; rfl
    | int b => cases q; rfl
    | str b => cases q; rfl
    | _ => cases h'
  | str b => cases r; cases y with
    | non => cases q; rfl
    | bl b => cases q; rfl
    | int b => cases q; rfl
    | str b => cases q; rfl
    | _ => cases h'
  | _ => cases h
theorem allFlat {K : PySem.W.Frag} {F : Hp} : ∀ {vs : List V} {xs : List PV}, RepA K F vs xs → xs.all flatP = true → vs.all flatV = true
  | _, _, .nil, _ => rfl
  | _, _, .cons r t, h => by
    rw [List.all_cons, Bool.and_eq_true] at h
    rw [List.all_cons, Bool.and_eq_true]
    exact ⟨flat_v r h.1, allFlat t h.2⟩
theorem inV_eq {K : PySem.W.Frag} {F : Hp} {u : V} {y : PV} (q : Rep K F u y) (h' : flatP y = true) : ∀ {vs : List V} {xs : List PV}, RepA K F vs xs → xs.all flatP = true → inV u vs = xs.any fun x => eqP x y
  | _, _, .nil, _ => rfl
  | _, _, .cons r t, h => by
    rw [List.all_cons, Bool.and_eq_true] at h
    have ih := inV_eq q h' t h.2
    unfold inV at ih ⊢
    rw [List.any_cons, List.any_cons, eqP_v r q h.1 h', ih]
/-- membership: flat items of a list or tuple, or a dict's keys -/
def rMem (neg : Bool) (x : PV) (y : PV) (G : GH) (P : PK1) : Prop := match y with
  | .tup ys => flatP x = true ∧ ys.all flatP = true ∧ P (.bl (if neg = true then !(ys.any fun z => eqP z x) else ys.any fun z => eqP z x)) G
  | .lst ys => flatP x = true ∧ ys.all flatP = true ∧ P (.bl (if neg = true then !(ys.any fun z => eqP z x) else ys.any fun z => eqP z x)) G
  | .ref a => (match G a with
    | some (.lst ys) => flatP x = true ∧ ys.all flatP = true ∧ P (.bl (if neg = true then !(ys.any fun z => eqP z x) else ys.any fun z => eqP z x)) G
    | some (.dk kvs) => (match pkey x with
      | some k => P (.bl (if neg = true then !(valP kvs k).isSome else (valP kvs k).isSome)) G
      | none => False)
    | some (.fdk _ _ kvs) => (match pkey x with
      | some k => P (.bl (if neg = true then !(valP kvs k).isSome else (valP kvs k).isSome)) G
      | none => False)
    | _ => False)
  | _ => False
def opMem (neg : Bool) : CmpOp := if neg = true then .NotIn else .In
theorem q_mem_s {neg : Bool} {F H : Hp} {G : GH} {v : V} {x : PV} {a : Addr} {vs : List V} {ys : List PV} {P : PK1} {Q : VK} (hr : Rl X.K F H G) (rx : Rep X.K F v x) (hs : SqL X.K H a vs ∨ SqT X.K H a vs) (ra : RepA X.K F vs ys)
    (h : flatP x = true ∧ ys.all flatP = true ∧ P (.bl (if neg = true then !(ys.any fun z => eqP z x) else ys.any fun z => eqP z x)) G) (lq : LkQ X.K F P Q) : WO X (compareOp (opMem neg)) v (.ref a) H Q := by
  obtain ⟨h1, h2, h3⟩ := h
  cases neg with
  | true => exact wo_of op_notIn_seq ⟨a, vs, rfl, hs, flat_v rx h1, allFlat ra h2, by rw [inV_eq rx h1 ra h2]; exact lq F H G _ _ (Same.refl F) hr (.bl _) h3⟩
  | false => exact wo_of op_in_seq ⟨a, vs, rfl, hs, flat_v rx h1, allFlat ra h2, by rw [inV_eq rx h1 ra h2]; exact lq F H G _ _ (Same.refl F) hr (.bl _) h3⟩
theorem q_mem (neg : Bool) (hu : X.A.units + 1 < cLine) : Q2 X (WO X (compareOp (opMem neg))) (rMem neg) := by
  intro F H G v u x y P Q hr rx ry h lq
  cases y with
  | tup ys =>
    cases ry with
    | tup t1 t2 => exact q_mem_s hr rx (.inr (Same.tupT hr.sub t1.sq)) t2 h lq
  | lst ys =>
    cases ry with
    | lst t1 t2 => exact q_mem_s hr rx (.inl (.inl (.inl (hr.sub _ _ t1)))) t2 h lq
  | ref a =>
    cases ry
    unfold rMem at h
    dsimp only at h
    split at h
    · rename_i ys ga
      obtain ⟨_, vs, e1, r1⟩ := hr.own _ _ ga
      exact q_mem_s hr rx (.inl (.inl (.inl e1))) r1 h lq
    · rename_i kvs ga
      obtain ⟨_, vs, e1, r1⟩ := hr.own _ _ ga
      split at h
      · rename_i k ek
        have hv : (valV vs k).isSome = (valP kvs k).isSome := by
          have z := r1.val k
          cases q : valP kvs k with
          | none => rw [z.2 q]; rfl
          | some w => obtain ⟨u, h1, _⟩ := z.1 w q; rw [h1]; rfl
        refine fun pins s σ w' u' I r1' r2' => ?_
        cases r2'
        cases neg with
        | true => exact d_notIn hu I (.inl ⟨vs, k, .inl e1, pkey_v rx ek, rfl⟩) r1' fun s' I' => ⟨.bl _, _, I', rfl, lq F H G _ _ (Same.refl F) hr (by rw [hv]; exact .bl _) h⟩
        | false => exact d_in hu I (.inl ⟨vs, k, .inl e1, pkey_v rx ek, rfl⟩) r1' fun s' I' => ⟨.bl _, _, I', rfl, lq F H G _ _ (Same.refl F) hr (by rw [hv]; exact .bl _) h⟩
      · exact h.elim
    · rename_i od vs kvs ga
      obtain ⟨_, e1, r1⟩ := hr.own _ _ ga
      split at h
      · rename_i k ek
        have hv : (valV vs k).isSome = (valP kvs k).isSome := by
          have z := r1.val k
          cases q : valP kvs k with
          | none => rw [z.2 q]; rfl
          | some w => obtain ⟨u, h1, _⟩ := z.1 w q; rw [h1]; rfl
        refine fun pins s σ w' u' I r1' r2' => ?_
        cases r2'
        cases neg with
        | true => exact d_notIn hu I (.inl ⟨vs, k, .inr ⟨_, e1⟩, pkey_v rx ek, rfl⟩) r1' fun s' I' => ⟨.bl _, _, I', rfl, lq F H G _ _ (Same.refl F) hr (by rw [hv]; exact .bl _) h⟩
        | false => exact d_in hu I (.inl ⟨vs, k, .inr ⟨_, e1⟩, pkey_v rx ek, rfl⟩) r1' fun s' I' => ⟨.bl _, _, I', rfl, lq F H G _ _ (Same.refl F) hr (by rw [hv]; exact .bl _) h⟩
      · exact h.elim
    · exact h.elim
  | _ => exact False.elim h

/-! ### dict displays -/
def pDict0 (_z0 : PEn) (G : GH) (P : PK1) (_z3 : PXK) : Prop := ∀ p, G p = none → P (.ref p) (gset G p (.dk []))
theorem qe_dict0 {pos : Pos} : QE X (.Dict [] [] pos) pDict0 := by
  refine ⟨fun W tk F H G σ env P Ex Q hr hv h lq lx => we_of pe_dnewK fun p hp => ?_⟩
  exact lq F _ _ _ _ (Same.refl F) (hr.owned (g := .dk []) (hr.sub.free hp) ⟨[], upd_same, rfl, .nil⟩) (.ref p) (h p (hr.free hp))
def pPairs : List (PTE × PTE) → PEn → GH → (List (PV × PV) → GH → Prop) → PXK → Prop
  | [], _, G, P, _ => P [] G
  | (tk, tv) :: r, env, G, P, Ex => tk env G (fun x G1 => tv env G1 (fun y G2 => pPairs r env G2 (fun ps G3 => P ((x, y) :: ps) G3) Ex) Ex) Ex
inductive QPs (X : Cx) : List (Option Expr) → List Expr → List (PTE × PTE) → Prop
  | nil : QPs X [] [] []
  | cons {k v : Expr} {ks : List (Option Expr)} {vs : List Expr} {tk tv : PTE} {r : List (PTE × PTE)} : QE X k tk → QE X v tv → QPs X ks vs r → QPs X (some k :: ks) (v :: vs) ((tk, tv) :: r)
def wPairs (X : Cx) : List (Option Expr) → List Expr → List (TE × TE)
  | some k :: ks, v :: vs => (WE X k, WE X v) :: wPairs X ks vs
  | _, _ => []
theorem QPs.pps {ks : List (Option Expr)} {vs : List Expr} {r : List (PTE × PTE)} {pos : Pos} (h : QPs X ks vs r) : PPs X pos ks vs (wPairs X ks vs) := by
  induction h with
  | nil => exact pps_nil
  | cons _ _ _ ih => exact pps_cons pe_we pe_we ih
inductive RepP (K : PySem.W.Frag) (F : Hp) : List (V × V) → List (PV × PV) → Prop
  | nil : RepP K F [] []
  | cons {v u : V} {x y : PV} {vs : List (V × V)} {xs : List (PV × PV)} : Rep K F v x → Rep K F u y → RepP K F vs xs → RepP K F ((v, u) :: vs) ((x, y) :: xs)
theorem pairs_go {W : WX} (tk : Takes X W) {σ : List (Option V)} {env : PEn} {Ex : PXK} {ks : List (Option Expr)} {vs : List Expr} {r : List (PTE × PTE)} (hq : QPs X ks vs r) :
    ∀ {F H : Hp} {G : GH} {P : List (PV × PV) → GH → Prop} {Q : List (V × V) → Hp → Prop}, Rl X.K F H G → Vs X.K F σ env → pPairs r env G P Ex → (∀ F' H' G' ps qs, Same F F' → Rl X.K F' H' G' → RepP X.K F' ps qs → P qs G' → Q ps H') → LkX X.K F Ex W → tPairs (wPairs X ks vs) σ H Q := by
  induction hq with
  | nil => intro F H G P Q hr hv h lq lx; exact lq F H G [] [] (Same.refl F) hr .nil h
  | cons hk hv' hr' ih =>
    intro F H G P Q hr hv h lq lx
    refine hk.run W tk F H G σ env _ Ex _ hr hv h (fun F1 H1 G1 v x s1 r1 rv h1 => ?_) lx
    refine hv'.run W tk F1 H1 G1 σ env _ Ex _ r1 (hv.mono s1) h1 (fun F2 H2 G2 u y s2 r2 ru h2 => ?_) (lx.mono s1)
    refine ih r2 ((hv.mono s1).mono s2) h2 (fun F3 H3 G3 ps qs s3 r3 rp h3 => ?_) ((lx.mono s1).mono s2)
    exact lq F3 H3 G3 _ _ ((s1.trans s2).trans s3) r3 (.cons (Rep.mono (s2.trans s3) _ _ rv) (Rep.mono s3 _ _ ru) rp) h3
def keysP : List (PV × PV) → Option (List (Key × PV))
  | [] => some []
  | (x, y) :: r => match pkey x, keysP r with
    | some k, some ks => some ((k, y) :: ks)
    | _, _ => none
def mergeP (kvs more : List (Key × PV)) : List (Key × PV) := more.foldl (fun acc kv => putP acc kv.1 kv.2) kvs
theorem keysP_v {K : PySem.W.Frag} {F : Hp} : ∀ {ps : List (V × V)} {qs : List (PV × PV)} {ks : List (Key × PV)}, RepP K F ps qs → keysP qs = some ks → ∃ vs : List (Key × V), ps = vs.map (fun kv => (kV kv.1, kv.2)) ∧ RepD K F vs ks
  | _, _, _, .nil, e => by cases e; exact ⟨[], rfl, rfl, .nil⟩
  | _, _, ks, .cons (x := x) (xs := xs) r1 r2 t, e => by
    unfold keysP at e
    split at e
    · rename_i k ks' e1 e2
      cases e
      obtain ⟨vs, h1, h2⟩ := keysP_v t e2
      refine ⟨(k, _) :: vs, ?_, repD_cons.mpr ⟨rfl, r2, h2⟩⟩
      rw [List.map_cons, ← h1, pkey_v r1 e1]
    · cases e
theorem mergeD {K : PySem.W.Frag} {F : Hp} : ∀ {more : List (Key × V)} {ms : List (Key × PV)} {vs : List (Key × V)} {xs : List (Key × PV)}, RepD K F more ms → RepD K F vs xs → RepD K F (mergeK vs more) (mergeP xs ms)
  | [], [], _, _, _, h => h
  | _ :: _, [], _, _, h, _ => by cases repD_nil h
  | [], _ :: _, _, _, h, _ => (repD_nil' h).elim
  | (k1, v) :: more, (k2, x) :: ms, vs, xs, h, h2 => by
    obtain ⟨e, r, t⟩ := repD_cons.mp h
    have e : k1 = k2 := e
    subst e
    exact mergeD (more := more) (ms := ms) (vs := putK vs k1 v) (xs := putP xs k1 x) t (h2.put r)
def pDict (trs : List (PTE × PTE)) (env : PEn) (G : GH) (P : PK1) (Ex : PXK) : Prop := ∀ p, G p = none → pPairs trs env (gset G p (.dk [])) (fun qs G2 => G2 p = some (.dk []) ∧ match keysP qs with
  | some ks => ks.length ≤ 15 ∧ P (.ref p) (gset G2 p (.dk (mergeP [] ks)))
  | none => False) Ex
theorem qe_dict {pos : Pos} {keys : List (Option Expr)} {values : List Expr} {trs : List (PTE × PTE)} (h : QPs X keys values trs) (hall : keys.all (·.isSome) = true := by rfl) (hl : keys.length = values.length := by rfl) (h0 : keys ≠ [] := by exact fun e => nomatch e)
    (h15 : keys.length ≤ 15 := by decide) : QE X (.Dict keys values pos) (pDict trs) := by
  refine ⟨fun W tk F H G σ env P Ex Q hr hv hh lq lx => we_of (pe_disp h.pps hall hl h0 h15) fun p hp => ?_⟩
  have n := hr.sub.free hp
  refine pairs_go tk h (hr.owned (g := .dk []) n ⟨[], upd_same, rfl, .nil⟩) hv (hh p (hr.free hp)) (fun F' H' G' ps qs s r rp hq => ?_) lx
  obtain ⟨e, hq⟩ := hq
  obtain ⟨n', vs0, e0, r0⟩ := r.own _ _ e
  obtain rfl := repD_nil r0
  split at hq
  · rename_i ks ek
    obtain ⟨vs, h1, h2⟩ := keysP_v rp ek
    exact ⟨e0, vs, h1, by rw [h2.length]; exact hq.1, lq F' _ _ _ _ s (r.owned (g := .dk (mergeP [] ks)) n' ⟨_, upd_same, mergeD h2 r0⟩) (.ref p) hq.2⟩
  · exact hq.elim

/-! ### built-ins -/
def rAbs (xs : (List PV)) (G : GH) (P : PK1) : Prop := match xs with
  | [.int i] => P (.int (if i < 0 then -i else i)) G
  | _ => False
theorem q_abs : Qn X (WC X (.builtin "abs")) rAbs := by
  intro F H G vs xs P Q hr ra h lq
  match xs, ra, h with
  | [.int i], .cons (.int _) .nil, h => exact wc_of call_abs ⟨i, rfl, lq F H G _ _ (Same.refl F) hr (.int _) h⟩
def rLen (xs : (List PV)) (G : GH) (P : PK1) : Prop := match xs with
  | [.tup ys] => P (.int ys.length) G
  | [.lst ys] => P (.int ys.length) G
  | [.scr ns] => P (.int ns.length) G
  | [.str z] => z.length ≤ sizeLine ∧ P (.int z.length) G
  | [.ref a] => (match G a with
    | some (.lst ys) => P (.int ys.length) G
    | some (.dk kvs) => P (.int kvs.length) G
    | some (.fdk _ _ kvs) => P (.int kvs.length) G
    | _ => False)
  | _ => False
theorem q_len : Qn X (WC X (.builtin "len")) rLen := by
  intro F H G vs xs P Q hr ra h lq
  match xs, ra, h with
  | [.tup ys], .cons (.tup t1 t2) .nil, h => exact wc_of call_len_seq ⟨_, _, rfl, .inr (Same.tupT hr.sub t1.sq), lq F H G _ _ (Same.refl F) hr (by rw [t2.length]; exact .int _) h⟩
  | [.lst ys], .cons (.lst t1 t2) .nil, h => exact wc_of call_len_seq ⟨_, _, rfl, .inl (.inl (.inl (hr.sub _ _ t1))), lq F H G _ _ (Same.refl F) hr (by rw [t2.length]; exact .int _) h⟩
  | [.scr ns], .cons (.scr t1) .nil, h => exact wc_of call_len_seq ⟨_, _, rfl, .inl (hr.sub.seq t1), lq F H G _ _ (Same.refl F) hr (by rw [List.length_map]; exact .int _) h⟩
  | [.str z], .cons (.str _) .nil, h => exact wc_of call_len_str ⟨z, rfl, h.1, lq F H G _ _ (Same.refl F) hr (.int _) h.2⟩
  | [.ref a], .cons (.ref _) .nil, h =>
    have h' : (match G a with
      | some (.lst ys) => P (.int ys.length) G
      | some (.dk kvs) => P (.int kvs.length) G
      | some (.fdk _ _ kvs) => P (.int kvs.length) G
      | _ => False) := h
    clear h
    split at h'
    · rename_i ys ga
      obtain ⟨_, us, e1, r1⟩ := hr.own _ _ ga
      exact wc_of call_len_seq ⟨_, _, rfl, .inl (.inl (.inl e1)), lq F H G _ _ (Same.refl F) hr (by rw [r1.length]; exact .int _) h'⟩
    · rename_i kvs ga
      obtain ⟨_, us, e1, r1⟩ := hr.own _ _ ga
      refine fun pins s σ us' I rv => ?_
      obtain rfl := rv.ref1
      exact d_len I (.inl e1) fun t s' I' => ⟨.int _, H, I', ⟨t, rfl⟩, lq F H G _ _ (Same.refl F) hr (by rw [r1.length]; exact .int _) h'⟩
    · rename_i od vs kvs ga
      obtain ⟨_, e1, r1⟩ := hr.own _ _ ga
      refine fun pins s σ us' I rv => ?_
      obtain rfl := rv.ref1
      exact d_len I (.inr ⟨_, e1⟩) fun t s' I' => ⟨.int _, H, I', ⟨t, rfl⟩, lq F H G _ _ (Same.refl F) hr (by rw [r1.length]; exact .int _) h'⟩
    · exact h'.elim
/-- list(x): a new list, frozen or owned -/
def seqOf (G : GH) : PV → Option (List PV)
  | .tup xs => some xs
  | .lst xs => some xs
  | .scr ns => some (ns.map .int)
  | .ref a => ownL G a
  | _ => none
theorem seqOf_ok {K : PySem.W.Frag} {F H : Hp} {G : GH} {v : V} {x : PV} {xs : List PV} (hr : Rl K F H G) (r : Rep K F v x) (e : seqOf G x = some xs) : ∃ a vs, v = .ref a ∧ (SqL K H a vs ∨ SqT K H a vs) ∧ RepA K F vs xs := by
  cases x with
  | tup ys =>
    cases e
    cases r with
    | tup h1 h2 => exact ⟨_, _, rfl, .inr (Same.tupT hr.sub h1.sq), h2⟩
  | lst ys =>
    cases e
    cases r with
    | lst h1 h2 => exact ⟨_, _, rfl, .inl (.inl (.inl (hr.sub _ _ h1))), h2⟩
  | scr ns =>
    cases e
    cases r with
    | scr h1 => exact ⟨_, _, rfl, .inl (hr.sub.seq h1), RepA.of_ints ns⟩
  | ref a =>
    cases r
    obtain ⟨_, vs, h1, h2⟩ := hr.own _ _ (ownL_eq e)
    exact ⟨a, vs, rfl, .inl (.inl (.inl h1)), h2⟩
  | _ => cases e
def rList (own : Bool) (xs : (List PV)) (G : GH) (P : PK1) : Prop := match xs with
  | [x] => (match seqOf G x with
    | some ys => if own = true then ∀ p, G p = none → P (.ref p) (gset G p (.lst ys)) else P (.lst ys) G
    | none => False)
  | _ => False
theorem q_list (own : Bool) : Qn X (WC X (.type "list")) (rList own) := by
  intro F H G vs xs P Q hr ra h lq
  match xs, ra, h with
  | [x], .cons r .nil, h =>
    have h' : (match seqOf G x with
      | some ys => if own = true then ∀ p, G p = none → P (.ref p) (gset G p (.lst ys)) else P (.lst ys) G
      | none => False) := h
    clear h
    split at h'
    · rename_i ys e
      obtain ⟨a, us, rfl, h1, r1⟩ := seqOf_ok hr r e
      refine wc_of call_list_of ⟨a, us, rfl, h1, fun p hp => ?_⟩
      have n := hr.sub.free hp
      cases own with
      | true => exact lq F _ _ _ _ (Same.refl F) (hr.owned (g := .lst ys) n ⟨us, upd_same, r1⟩) (.ref p) (h' p (hr.free hp))
      | false => exact lq _ _ _ _ _ (Same.new n) (hr.froze hp) (.lst upd_same (RepA.mono (Same.new n) _ _ r1)) h'
    · exact h'.elim
def rTuple (xs : (List PV)) (G : GH) (P : PK1) : Prop := match xs with
  | [x] => (match seqOf G x with
    | some ys => P (.tup ys) G
    | none => False)
  | _ => False
theorem q_tuple_l {F H : Hp} {G : GH} {a : Addr} {us : List V} {ys : List PV} {P : PK1} {Q : VK} (hr : Rl X.K F H G) (hs : SqL X.K H a us) (ra : RepA X.K F us ys) (h : P (.tup ys) G) (lq : LkQ X.K F P Q) : WC X (.type "tuple") [.ref a] H Q := by
  refine wc_of call_tupleN ⟨_, _, rfl, .inl ⟨hs, fun p o hp hd => ?_⟩⟩
  have n := hr.sub.free hp
  exact lq _ _ _ _ _ (Same.new n) (hr.froze hp) (.tup (TupOk.new hd) (RepA.mono (Same.new n) _ _ ra)) h
theorem q_tuple : Qn X (WC X (.type "tuple")) rTuple := by
  intro F H G vs xs P Q hr ra h lq
  match xs, ra, h with
  | [x], .cons r .nil, h =>
    have h' : (match seqOf G x with
      | some ys => P (.tup ys) G
      | none => False) := h
    clear h
    cases x with
    | tup ys =>
      cases r with
      | tup t1 t2 => exact wc_of call_tupleN ⟨_, _, rfl, .inr ⟨Same.tupT hr.sub t1.sq, lq F H G _ _ (Same.refl F) hr (.tup t1 t2) h'⟩⟩
    | lst ys =>
      cases r with
      | lst t1 t2 => exact q_tuple_l hr (.inl (.inl (hr.sub _ _ t1))) t2 h' lq
    | scr ns =>
      cases r with
      | scr t1 => exact q_tuple_l hr (hr.sub.seq t1) (RepA.of_ints ns) h' lq
    | ref a =>
      cases r
      split at h'
      · rename_i ys e
        obtain ⟨_, us, h1, h2⟩ := hr.own _ _ (ownL_eq e)
        exact q_tuple_l hr (.inl (.inl h1)) h2 h' lq
      · exact h'.elim
    | _ => exact False.elim h'
/-- a list of bools; of ints -/
def bools : List PV → Option (List Bool)
  | [] => some []
  | .bl b :: r => (bools r).map (b :: ·)
  | _ => none
def intsP : List PV → Option (List Int)
  | [] => some []
  | .int b :: r => (intsP r).map (b :: ·)
  | _ => none
theorem bools_eq : ∀ {xs : List PV} {bs : List Bool}, bools xs = some bs → xs = bs.map .bl
  | [], _, e => by cases e; rfl
  | .bl b :: r, bs, e => by
    unfold bools at e
    cases q : bools r with
    | none => rw [q] at e; cases e
    | some cs => rw [q] at e; cases e; rw [bools_eq q]; rfl
theorem intsP_eq : ∀ {xs : List PV} {bs : List Int}, intsP xs = some bs → xs = bs.map .int
  | [], _, e => by cases e; rfl
  | .int b :: r, bs, e => by
    unfold intsP at e
    cases q : intsP r with
    | none => rw [q] at e; cases e
    | some cs => rw [q] at e; cases e; rw [intsP_eq q]; rfl
theorem bools_of : ∀ bs : List Bool, bools (bs.map .bl) = some bs
  | [] => rfl
  | b :: bs => by show (bools (bs.map .bl)).map _ = _; rw [bools_of bs]; rfl
theorem intsP_of : ∀ bs : List Int, intsP (bs.map .int) = some bs
  | [] => rfl
  | b :: bs => by show (intsP (bs.map .int)).map _ = _; rw [intsP_of bs]; rfl
def rAllB (xs : (List PV)) (G : GH) (P : PK1) : Prop := match xs with
  | [.lst ys] => (match bools ys with
    | some bs => P (.bl (bs.all id)) G
    | none => False)
  | _ => False
def rAnyB (xs : (List PV)) (G : GH) (P : PK1) : Prop := match xs with
  | [.lst ys] => (match bools ys with
    | some bs => P (.bl (bs.any id)) G
    | none => False)
  | _ => False
theorem q_all (hc : X.calm = true) : Qn X (WC X (.builtin "all")) rAllB := by
  intro F H G vs xs P Q hr ra h lq
  match xs, ra, h with
  | [.lst ys], .cons (.lst t1 t2) .nil, h =>
    have h' : (match bools ys with
      | some bs => P (.bl (bs.all id)) G
      | none => False) := h
    clear h
    split at h'
    · rename_i bs e
      rw [bools_eq e] at t2
      obtain rfl := t2.bls
      exact wc_of (cr_all hc) ⟨_, bs, rfl, .inl (.inl (hr.sub _ _ t1)), lq F H G _ _ (Same.refl F) hr (.bl _) h'⟩
    · exact h'.elim
theorem q_any (hc : X.calm = true) : Qn X (WC X (.builtin "any")) rAnyB := by
  intro F H G vs xs P Q hr ra h lq
  match xs, ra, h with
  | [.lst ys], .cons (.lst t1 t2) .nil, h =>
    have h' : (match bools ys with
      | some bs => P (.bl (bs.any id)) G
      | none => False) := h
    clear h
    split at h'
    · rename_i bs e
      rw [bools_eq e] at t2
      obtain rfl := t2.bls
      exact wc_of (cr_any hc) ⟨_, bs, rfl, .inl (.inl (hr.sub _ _ t1)), lq F H G _ _ (Same.refl F) hr (.bl _) h'⟩
    · exact h'.elim
/-- min, max of a list of ints, as a value that lies in it -/
def rMinL (xs : (List PV)) (G : GH) (P : PK1) : Prop := match xs with
  | [.lst ys] => (match intsP ys with
    | some ns => 0 < ns.length ∧ ∀ m, m ∈ ns → (∀ y, y ∈ ns → m ≤ y) → P (.int m) G
    | none => False)
  | [.int i, .int j] => P (.int (if j < i then j else i)) G
  | _ => False
def rMaxL (xs : (List PV)) (G : GH) (P : PK1) : Prop := match xs with
  | [.lst ys] => (match intsP ys with
    | some ns => 0 < ns.length ∧ ∀ m, m ∈ ns → (∀ y, y ∈ ns → y ≤ m) → P (.int m) G
    | none => False)
  | [.int i, .int j] => P (.int (if j > i then j else i)) G
  | _ => False
theorem q_min (hc : X.calm = true) : Qn X (WC X (.builtin "min")) rMinL := by
  intro F H G vs xs P Q hr ra h lq
  match xs, ra, h with
  | [.int i, .int j], .cons (.int _) (.cons (.int _) .nil), h => exact wc_of (call_min2 hc) ⟨i, j, rfl, lq F H G _ _ (Same.refl F) hr (.int _) h⟩
  | [.lst ys], .cons (.lst t1 t2) .nil, h =>
    have h' : (match intsP ys with
      | some ns => 0 < ns.length ∧ ∀ m, m ∈ ns → (∀ y, y ∈ ns → m ≤ y) → P (.int m) G
      | none => False) := h
    clear h
    split at h'
    · rename_i bs e
      rw [intsP_eq e] at t2
      obtain rfl := t2.ints
      exact wc_of (cr_min hc) ⟨_, bs, rfl, .inl (.inl (hr.sub _ _ t1)), h'.1, fun m h1 h2 => lq F H G _ _ (Same.refl F) hr (.int _) (h'.2 m h1 h2)⟩
    · exact h'.elim
theorem q_max (hc : X.calm = true) : Qn X (WC X (.builtin "max")) rMaxL := by
  intro F H G vs xs P Q hr ra h lq
  match xs, ra, h with
  | [.int i, .int j], .cons (.int _) (.cons (.int _) .nil), h => exact wc_of (call_max2 hc) ⟨i, j, rfl, lq F H G _ _ (Same.refl F) hr (.int _) h⟩
  | [.lst ys], .cons (.lst t1 t2) .nil, h =>
    have h' : (match intsP ys with
      | some ns => 0 < ns.length ∧ ∀ m, m ∈ ns → (∀ y, y ∈ ns → y ≤ m) → P (.int m) G
      | none => False) := h
    clear h
    split at h'
    · rename_i bs e
      rw [intsP_eq e] at t2
      obtain rfl := t2.ints
      exact wc_of (cr_max hc) ⟨_, bs, rfl, .inl (.inl (hr.sub _ _ t1)), h'.1, fun m h1 h2 => lq F H G _ _ (Same.refl F) hr (.int _) (h'.2 m h1 h2)⟩
    · exact h'.elim
def rIntB (xs : (List PV)) (G : GH) (P : PK1) : Prop := match xs with
  | [.int i] => P (.int i) G
  | [.bl b] => P (.int (if b = true then 1 else 0)) G
  | _ => False
theorem q_intB : Qn X (WC X (.type "int")) rIntB := by
  intro F H G vs xs P Q hr ra h lq
  match xs, ra, h with
  | [.int i], .cons (.int _) .nil, h => exact wc_of call_int1 (.inl ⟨i, rfl, lq F H G _ _ (Same.refl F) hr (.int _) h⟩)
  | [.bl b], .cons (.bl _) .nil, h => exact wc_of call_int1 (.inr ⟨b, rfl, lq F H G _ _ (Same.refl F) hr (.int _) h⟩)

/-! ### isinstance of a built-in class -/
def tyP (G : GH) : PV → Option String
  | .non => some "NoneType"
  | .bl _ => some "bool"
  | .int _ => some "int"
  | .str _ => some "str"
  | .tup _ => some "tuple"
  | .lst _ => some "list"
  | .ref a => (match G a with
    | some (.lst _) => some "list"
    | some (.dk _) => some "dict"
    | _ => none)
  | _ => none
theorem tyP_ok {K : PySem.W.Frag} {F H : Hp} {G : GH} {v : V} {x : PV} {t : String} (hr : Rl K F H G) (r : Rep K F v x) (e : tyP G x = some t) : TyX K H v (.type t) := by
  cases x with
  | non => cases e; cases r; exact .base .non
  | bl b => cases e; cases r; exact .base (.bl b)
  | int b => cases e; cases r; exact .base (.int b)
  | str b => cases e; cases r; exact .base (.str b)
  | tup xs =>
    cases e
    cases r with
    | tup h1 h2 =>
      rcases h1 with ⟨o, h1, _⟩ | ⟨o, _, _, h1, h2, _⟩
      · exact .fTuple (hr.sub _ _ h1)
      · exact .kTuple h1 h2
  | lst xs =>
    cases e
    cases r with
    | lst h1 h2 => exact .base (.lst (hr.sub _ _ h1))
  | ref a =>
    cases r
    unfold tyP at e
    dsimp only at e
    split at e
    · rename_i ys ga
      cases e
      obtain ⟨_, us, e1, r1⟩ := hr.own _ _ ga
      exact .base (.lst e1)
    · rename_i ys ga
      cases e
      obtain ⟨_, us, e1, r1⟩ := hr.own _ _ ga
      exact .base (.dK e1)
    · cases e
  | _ => cases e
/-- the answer, by names -/
def isI (t c : String) : Bool := t == c || (t == "bool" && c == "int")
def tyNames : List String := ["NoneType", "bool", "int", "str", "tuple", "list", "dict"]
theorem isI_kit : (tyNames.all fun t => ["int", "bool", "str", "tuple", "list", "dict"].all fun c => decide (kitB t c = some (isI t c))) = true := by decide +kernel
def rIsi (xs : (List PV)) (G : GH) (P : PK1) : Prop := match xs with
  | [x, .ty c] => (match tyP G x with
    | some t => c ∈ ["int", "bool", "str", "tuple", "list", "dict"] ∧ P (.bl (isI t c)) G
    | none => False)
  | _ => False
theorem tyP_mem {G : GH} {x : PV} {t : String} (e : tyP G x = some t) : t ∈ tyNames := by
  cases x with
  | ref a =>
    unfold tyP at e
    dsimp only at e
    split at e <;> cases e <;> decide
  | non => cases e; decide
  | bl _ => cases e; decide
  | int _ => cases e; decide
  | str _ => cases e; decide
  | tup _ => cases e; decide
  | lst _ => cases e; decide
  | _ => cases e
theorem q_isi : Qn X (WC X (.builtin "isinstance")) rIsi := by
  intro F H G vs xs P Q hr ra h lq
  match xs, ra, h with
  | [x, .ty c], .cons r (.cons (.ty _) .nil), h =>
    have h' : (match tyP G x with
      | some t => c ∈ ["int", "bool", "str", "tuple", "list", "dict"] ∧ P (.bl (isI t c)) G
      | none => False) := h
    clear h
    split at h'
    · rename_i t e
      have k := List.all_eq_true.mp (List.all_eq_true.mp isI_kit t (tyP_mem e)) c h'.1
      exact wc_of call_isi ⟨_, _, _, .type c, isI t c, rfl, .ty c, tyP_ok hr r e, kit_ty (of_decide_eq_true k), lq F H G _ _ (Same.refl F) hr (.bl _) h'.2⟩
    · exact h'.elim
end
end PL
end

section
/-! POps4: methods of built-in types, repr, freezing inside a tuple. -/
namespace PL
open PySem PySem.Spec PyProof.Rows L2

/-! ### methods -/
def TyD (X : Cx) (T : String) (x : V) (H : Hp) : Prop := ∀ (pins : List (Addr × Obj)) (σ : List (Option V)) (s : Shared) (v : Value), Inv X pins σ H s → RelV x v → s.TypeIs v T ∧ ∀ a, v = .ref a → ∃ ob, s.heap.get? a = some ob ∧ ob.dict = none
theorem tyD_ok {X : Cx} {F H : Hp} {G : GH} {v : V} {x : PV} {T : String} (hr : Rl X.K F H G) (r : Rep X.K F v x) (e : tyP G x = some T) (hT : T ∈ ["str", "list", "tuple", "dict"]) : TyD X T v H := by
  intro pins σ s u I ru
  cases x with
  | str y => cases e; cases r; exact tyV_is I ru rfl
  | lst ys =>
    cases e
    cases r with
    | lst h1 h2 => exact tyV_is I ru (.inl ⟨rfl, _, .inl (.inl (hr.sub _ _ h1))⟩)
  | tup ys =>
    cases e
    cases r with
    | tup h1 h2 =>
      cases ru
      rcases h1 with ⟨o, h1, hd⟩ | ⟨o, its, n, h1, h2, hd, _⟩
      · obtain ⟨e1, _, us, _, ob, e2, hc, _⟩ := I.hok _ _ (hr.sub _ _ h1)
        exact ⟨⟨ob, e2, hc⟩, fun a q => by cases q; exact ⟨o, e1, hd⟩⟩
      · have e1 := I.kIn _ _ h1
        exact ⟨⟨o, e1, h2⟩, fun a q => by cases q; exact ⟨o, e1, hd⟩⟩
  | ref a =>
    cases r
    unfold tyP at e
    dsimp only at e
    split at e
    · rename_i ys ga
      cases e
      obtain ⟨_, us, e1, _⟩ := hr.own _ _ ga
      exact tyV_is I ru (.inl ⟨rfl, _, .inl (.inl e1)⟩)
    · rename_i ys ga
      cases e
      obtain ⟨_, us, e1, _⟩ := hr.own _ _ ga
      exact tyV_is I ru (.inr (.inr (.inl ⟨rfl, .inl ⟨_, e1⟩⟩)))
    · cases e
  | non => cases e; exact absurd hT (by decide)
  | bl _ => cases e; exact absurd hT (by decide)
  | int _ => cases e; exact absurd hT (by decide)
  | _ => cases e
def WMt (X : Cx) (id : String) (x : V) (xs : List V) : Hp → VK → Prop := fun H Q => ∀ (pins : List (Addr × Obj)) (s : Shared) (σ : List (Option V)) (v : Value) (us : List Value), Inv X pins σ H s → RelV x v → Vals xs us → wpAny (model X.prog X.w) X.A (call (.builtin id) (v :: us)) (EP X pins σ Q) X.xe s
theorem wmt_of {X : Cx} {id : String} {r : V → List V → Hp → VK → Prop} {x : V} {xs : List V} {H : Hp} {Q : VK} (h : MtR X id r) (q : r x xs H Q) : WMt X id x xs H Q := fun pins s σ v us I r1 r2 => h pins s σ H x xs v us Q I r1 r2 q
abbrev POm := PV → List PV → GH → PK1 → Prop
def Qm (X : Cx) (id : String) (r : POm) : Prop := ∀ (F H : Hp) (G : GH) (v : V) (x : PV) (vs : List V) (xs : List PV) (P : PK1) (Q : VK), Rl X.K F H G → Rep X.K F v x → RepA X.K F vs xs → r x xs G P → LkQ X.K F P Q → WMt X id v vs H Q
/-- a method by its name, for some built-in types -/
structure MethT (X : Cx) (T : String) (name : Str) (r : POm) : Prop where
  ex : ∃ id, PlainAttrs T ∧ Slot T name id ∧ typeOf (.builtin id) = pure (.type "method_descriptor") ∧ Qm X id r
  ty : T ∈ ["str", "list", "tuple", "dict"]
def pBM (r : String → POm) (Ts : List String) (to : PTE) (t : PTA) (env : PEn) (G : GH) (P : PK1) (Ex : PXK) : Prop := to env G (fun x G1 => match tyP G1 x with
  | some T => T ∈ Ts ∧ t env G1 (fun xs G2 => r T x xs G2 P) Ex
  | none => False) Ex
section
variable {X : Cx} {o e : Expr} {es : List Expr} {to : PTE} {t : PTA} {name : Str} {apos cpos : Pos} {r : String → POm} {Ts : List String}
theorem qe_bm0 (hm : ∀ T ∈ Ts, MethT X T name (r T)) (ho : QE X o to) (hbase : attributeBase o name X.env (eval o X.env) = eval o X.env := by rfl) (hline : (apos.endLine == cpos.line) = true := by rfl) :
    QE X (.Call (.Attribute o name apos) [] [] cpos) (pBM r Ts to pNil) := by
  refine ⟨fun W tk F H G σ env P Ex Q hr hv h lq lx pins s I => ?_⟩
  have hO : WE X o σ H (fun x H1 => ∃ T, (∃ id, PlainAttrs T ∧ Slot T name id ∧ typeOf (.builtin id) = pure (.type "method_descriptor") ∧ WMt X id x [] H1 Q) ∧ TyD X T x H1) := by
    refine ho.run W tk F H G σ env _ Ex _ hr hv h (fun F1 H1 G1 v x s1 r1 rv h1 => ?_) lx
    split at h1
    · rename_i T eT
      obtain ⟨id, a, b, c, d⟩ := (hm T h1.1).ex
      exact ⟨T, ⟨id, a, b, c, d F1 H1 G1 v x [] [] P Q r1 rv .nil h1.2 (lq.mono s1)⟩, tyD_ok r1 rv eT (hm T h1.1).ty⟩
    · exact h1.elim
  refine wpAny_Call_method0_late hbase hline (thn (hO pins s I) fun v s1 ⟨x, H1, I1, r1, T, ⟨id, pa, slot, hty, q1⟩, ty⟩ => ?_)
  obtain ⟨h1, h2⟩ := ty pins σ s1 v I1 r1
  exact ⟨T, id, pa, slot, hty, h1, h2, Calls.callWith_builtin rfl (PySem.evalArgs_none (q1 pins s1 σ v [] I1 r1 .nil))⟩
theorem qe_bm (hm : ∀ T ∈ Ts, MethT X T name (r T)) (ho : QE X o to) (ha : QA X (e :: es) t) (hbase : attributeBase o name X.env (eval o X.env) = eval o X.env := by rfl)
    (hfew : ((backTo cpos (starEach (e :: es) X.env)).all (fun x => !x.1) && (backToKw cpos (keywordEach [] X.env)).all (fun x => x.1.isSome)
      && decide ((e :: es).length + ([] : List Keyword).length + (if ([] : List Keyword).isEmpty then 0 else 1) < 30)) = true := by rfl)
    (hline : (apos.endLine == cpos.line) = true := by rfl) (hs : starEach (e :: es) X.env = (false, eval e X.env) :: starEach es X.env := by rfl) (hplain : (backTo cpos (starEach es X.env)).any (·.1) = false := by rfl) :
    QE X (.Call (.Attribute o name apos) (e :: es) [] cpos) (pBM r Ts to t) := by
  refine ⟨fun W tk F H G σ env P Ex Q hr hv h lq lx pins s I => ?_⟩
  have hO : WE X o σ H (fun x H1 => ∃ T, (∃ id, PlainAttrs T ∧ Slot T name id ∧ typeOf (.builtin id) = pure (.type "method_descriptor") ∧ WA X (e :: es) σ H1 (fun xs H2 => WMt X id x xs H2 Q)) ∧ TyD X T x H1) := by
    refine ho.run W tk F H G σ env _ Ex _ hr hv h (fun F1 H1 G1 v x s1 r1 rv h1 => ?_) lx
    split at h1
    · rename_i T eT
      obtain ⟨id, a, b, c, d⟩ := (hm T h1.1).ex
      refine ⟨T, ⟨id, a, b, c, ?_⟩, tyD_ok r1 rv eT (hm T h1.1).ty⟩
      exact ha.run W tk F1 H1 G1 σ env _ Ex _ r1 (hv.mono s1) h1.2 (fun F2 H2 G2 vs xs s2 r2 rvs h2 => d F2 H2 G2 v x vs xs P Q r2 (Rep.mono s2 _ _ rv) rvs h2 ((lq.mono s1).mono s2)) (lx.mono s1)
    · exact h1.elim
  refine wpAny_Call_method_late hbase hfew hline rfl (thn (hO pins s I) fun v s1 ⟨x, H1, I1, r1, T, ⟨id, pa, slot, hty, q1⟩, ty⟩ => ?_)
  obtain ⟨h1, h2⟩ := ty pins σ s1 v I1 r1
  refine ⟨T, id, pa, slot, hty, h1, h2, ?_⟩
  have hA := q1 cpos pins s1 I1
  rw [hs] at hA ⊢
  refine Calls.callWith_builtin (by show (false || (backTo cpos (starEach es X.env)).any (·.1)) = false; rw [hplain] <;> rfl) (Calls.evalArgs_plain ?_)
  exact thn hA fun us s2 ⟨vs, H2, I2, r2, q2⟩ => q2 pins s2 σ v us I2 r1 r2
end
section
variable {X : Cx}
def rAppend (x : PV) (vs : (List PV)) (G : GH) (P : PK1) : Prop := match x, vs with
  | .ref a, [y] => (match G a with
    | some (.lst xs) => xs.length < sizeLine ∧ P .non (gset G a (.lst (xs ++ [y])))
    | _ => False)
  | _, _ => False
theorem m_append : MethT X "list" "append" rAppend := by
  refine ⟨⟨_, PySem.F.plainAttrs_list, PySem.F.slot_list_append, PySem.F.type_list_append, fun F H G v x vs xs P Q hr rx ra h lq => ?_⟩, by decide⟩
  match x, rx, xs, ra, h with
  | .ref a, .ref _, [y], .cons ry .nil, h =>
    have h' : (match G a with
      | some (.lst xs) => xs.length < sizeLine ∧ P .non (gset G a (.lst (xs ++ [y])))
      | _ => False) := h
    clear h
    split at h'
    · rename_i ys ga
      obtain ⟨n, us, e1, r1⟩ := hr.own _ _ ga
      exact wmt_of mt_append ⟨a, us, _, rfl, rfl, e1, by rw [r1.length]; exact h'.1, lq F _ _ _ _ (Same.refl F) (hr.owned (g := .lst (ys ++ [y])) n ⟨_, upd_same, r1.append (.cons ry .nil)⟩) .non h'.2⟩
    · exact h'.elim
def rExtend (x : PV) (vs : (List PV)) (G : GH) (P : PK1) : Prop := match x, vs with
  | .ref a, [y] => (match G a, lstOf G y with
    | some (.lst xs), some zs => xs.length + zs.length ≤ sizeLine ∧ P .non (gset G a (.lst (xs ++ zs)))
    | _, _ => False)
  | _, _ => False
theorem m_extend : MethT X "list" "extend" rExtend := by
  refine ⟨⟨_, PySem.F.plainAttrs_list, PySem.F.slot_list_extend, PySem.F.type_list_extend, fun F H G v x vs xs P Q hr rx ra h lq => ?_⟩, by decide⟩
  match x, rx, xs, ra, h with
  | .ref a, .ref _, [y], .cons ry .nil, h =>
    have h' : (match G a, lstOf G y with
      | some (.lst xs), some zs => xs.length + zs.length ≤ sizeLine ∧ P .non (gset G a (.lst (xs ++ zs)))
      | _, _ => False) := h
    clear h
    split at h'
    · rename_i ys zs ga e
      obtain ⟨n, us, e1, r1⟩ := hr.own _ _ ga
      obtain ⟨b, ws, rfl, e2, r2⟩ := lstOf_ok hr ry e
      exact wmt_of mt_extend ⟨a, b, us, ws, rfl, rfl, e1, e2, by rw [r1.length, r2.length]; exact h'.1, lq F _ _ _ _ (Same.refl F) (hr.owned (g := .lst (ys ++ zs)) n ⟨_, upd_same, r1.append r2⟩) .non h'.2⟩
    · exact h'.elim
def rClear (x : PV) (vs : (List PV)) (G : GH) (P : PK1) : Prop := match x, vs with
  | .ref a, [] => (match G a with
    | some (.lst xs) => P .non (gset G a (.lst []))
    | _ => False)
  | _, _ => False
theorem m_clear : MethT X "list" "clear" rClear := by
  refine ⟨⟨_, PySem.F.plainAttrs_list, PySem.F.slot_list_clear, PySem.F.type_list_clear, fun F H G v x vs xs P Q hr rx ra h lq => ?_⟩, by decide⟩
  match x, rx, xs, ra, h with
  | .ref a, .ref _, [], .nil, h =>
    have h' : (match G a with
      | some (.lst xs) => P .non (gset G a (.lst []))
      | _ => False) := h
    clear h
    split at h'
    · rename_i ys ga
      obtain ⟨n, us, e1, r1⟩ := hr.own _ _ ga
      exact wmt_of mt_clear ⟨a, us, rfl, rfl, e1, lq F _ _ _ _ (Same.refl F) (hr.owned (g := .lst []) n ⟨_, upd_same, .nil⟩) .non h'⟩
    · exact h'.elim
/-- index of flat items in a list; of an int in a tuple of ints -/
def rIdxL (x : PV) (vs : (List PV)) (G : GH) (P : PK1) : Prop := match vs with
  | [y] => (match lstOf G x with
    | some ys => flatP y = true ∧ ys.all flatP = true ∧ (match ys.findIdx? fun z => eqP z y with
      | some j => P (.int j) G
      | none => False)
    | none => False)
  | _ => False
def rIdxT (x : PV) (vs : (List PV)) (G : GH) (P : PK1) : Prop := match x, vs with
  | .tup ys, [.int k] => (match intsP ys with
    | some ns => k ∈ ns ∧ P (.int (ns.idxOf k : Nat)) G
    | none => False)
  | _, _ => False
theorem m_indexL : MethT X "list" "index" rIdxL := by
  refine ⟨⟨_, PySem.F.plainAttrs_list, PySem.F.slot_list_index, PySem.F.type_list_index, fun F H G v x vs xs P Q hr rx ra h lq => ?_⟩, by decide⟩
  match xs, ra, h with
  | [y], .cons ry .nil, h =>
    have h' : (match lstOf G x with
      | some ys => flatP y = true ∧ ys.all flatP = true ∧ (match ys.findIdx? fun z => eqP z y with
        | some j => P (.int j) G
        | none => False)
      | none => False) := h
    clear h
    split at h'
    · rename_i ys e
      obtain ⟨b, ws, rfl, e2, r2⟩ := lstOf_ok hr rx e
      obtain ⟨f1, f2, h'⟩ := h'
      split at h'
      · rename_i j ej
        obtain ⟨hj, hit, hno⟩ := List.findIdx?_eq_some_iff_getElem.mp ej
        obtain ⟨w, hw, rw'⟩ := r2.get (List.getElem?_eq_getElem hj)
        have fl : ∀ (m : Nat) (z : PV), ys[m]? = some z → flatP z = true := fun m z q => List.all_eq_true.mp f2 z (List.mem_of_getElem? q)
        refine wmt_of mt_index ⟨b, ws, _, j, w, rfl, rfl, .inl (.inl e2), flat_v ry f1, allFlat r2 f2, hw, by rw [eqP_v rw' ry (fl j _ (List.getElem?_eq_getElem hj)) f1]; exact hit, fun m z' hm hz => ?_, lq F H G _ _ (Same.refl F) hr (.int _) h'⟩
        obtain ⟨z, hz1, hz2⟩ := r2.getV hz
        obtain ⟨hml, hme⟩ := List.getElem?_eq_some_iff.mp hz1
        rw [eqP_v hz2 ry (fl m _ hz1) f1, ← hme]
        have := hno m hm
        simpa using this
      · exact h'.elim
    · exact h'.elim
theorem m_indexT : MethT X "tuple" "index" rIdxT := by
  refine ⟨⟨_, PySem.F.plainAttrs_tuple, PySem.F.slot_tuple_index, PySem.F.type_tuple_index, fun F H G v x vs xs P Q hr rx ra h lq => ?_⟩, by decide⟩
  match x, rx, xs, ra, h with
  | .tup ys, .tup t1 t2, [.int k], .cons (.int _) .nil, h =>
    have h' : (match intsP ys with
      | some ns => k ∈ ns ∧ P (.int (ns.idxOf k : Nat)) G
      | none => False) := h
    clear h
    split at h'
    · rename_i ns e
      rw [intsP_eq e] at t2
      obtain rfl := t2.ints
      intro pins s σ v' us I r1 r2
      cases r1
      obtain ⟨u, rfl, ru⟩ := r2.one
      obtain ⟨t, rfl⟩ := ru
      obtain ⟨its, rv, it, _⟩ := I.tuple (Same.tupT hr.sub t1.sq)
      exact SeqAt.tuple_index_ints it rv.ints h'.1 ⟨.int _, H, I.tok _, ⟨_, rfl⟩, lq F H G _ _ (Same.refl F) hr (.int _) h'.2⟩
    · exact h'.elim
def rIdx (T : String) : POm := if T = "tuple" then rIdxT else rIdxL
theorem m_index : ∀ T ∈ ["list", "tuple"], MethT X T "index" (rIdx T) := fun T h => by
  simp only [List.mem_cons, List.mem_nil_iff, or_false] at h
  rcases h with rfl | rfl
  · exact m_indexL
  · exact m_indexT
theorem m_one {T : String} {name : Str} {r : POm} (h : MethT X T name r) : ∀ T' ∈ [T], MethT X T' name r := fun T' h' => by
  rw [List.mem_singleton] at h'
  subst h'
  exact h

/-! ### a list within a tuple becomes a value -/
def pFrzT (i : Nat) (t : PTE) (env : PEn) (G : GH) (P : PK1) (Ex : PXK) : Prop := t env G (fun x G1 => match x with
  | .tup xs => (match xs[i]? with
    | some (.ref a) => (match ownL G1 a with
      | some ys => P (.tup (xs.set i (.lst ys))) (gdel G1 a)
      | none => False)
    | _ => False)
  | _ => False) Ex
theorem qe_frzT {e : Expr} {te : PTE} (i : Nat) (h : QE X e te) : QE X e (pFrzT i te) := by
  refine ⟨fun W tk F H G σ env P Ex Q hr hv h' lq lx => ?_⟩
  refine h.run W tk F H G σ env _ Ex _ hr hv h' (fun F1 H1 G1 v x s1 r1 rv h1 => ?_) lx
  cases x with
  | tup xs =>
    cases rv with
    | tup t1 t2 =>
      dsimp only at h1
      split at h1
      · rename_i a ei
        split at h1
        · rename_i ys ey
          obtain ⟨F2, s2, r2, rep⟩ := r1.freeze (ownL_eq ey)
          obtain ⟨w, hw, rw'⟩ := t2.get ei
          cases rw'
          have r3 := RepA.set rep i (RepA.mono s2 _ _ t2)
          obtain ⟨hi, he⟩ := List.getElem?_eq_some_iff.mp hw
          rw [← he, List.set_getElem_self] at r3
          exact lq F2 H1 _ _ _ (s1.trans s2) r2 (.tup (t1.mono s2) r3) h1
        · exact h1.elim
      · exact h1.elim
  | _ => exact h1.elim

/-! ### repr -/
def rRepr (xs : (List PV)) (G : GH) (P : PK1) : Prop := match xs with
  | [x] => (match datOf G x with
    | some d => d.canLay0 = true ∧ d.depth ≤ 64 ∧ d.showable = true ∧ d.shown.length ≤ sizeLine ∧ (tyP G x = some "tuple" ∨ tyP G x = some "list") ∧ P (.str d.shown) G
    | none => False)
  | _ => False
theorem repr_tup {pins : List (Addr × Obj)} {σ : List (Option V)} {H : Hp} {s : Shared} {v : V} {u : Value} {ds : List PyData} {Q : VK} (hg : X.A.guards = some []) (hu : X.A.units + 100 < cLine) (I : Inv X pins σ H s) (ru : RelV v u) (hd : Dp X.K H v (.tuple ds))
    (hn : (PyData.tuple ds).hasDict = false) (hdp : (PyData.tuple ds).depth ≤ 64) (hs : (PyData.tuple ds).showable = true) (hz : (PyData.tuple ds).shown.length ≤ sizeLine) (q : Q (.str (PyData.tuple ds).shown) H) :
    wpAny (model X.prog X.w) X.A (call (.builtin "repr") [u]) (EP X pins σ Q) X.xe s := by
  obtain ⟨as, rd⟩ := Dp.reads I _ v u hd ru
  cases rd with
  | tuple h1 h2 h3 h4 =>
    have hz' : (tupleText (PyData.shownAll ds)).length ≤ sizeLine := by simpa only [PyData.shown] using hz
    have hn' : PyData.hasDictAll ds = false := by simpa only [PyData.hasDict] using hn
    obtain ⟨bs, hb, hk⟩ := ReprAllK.of_readsAll (prog := X.prog) (w := X.w) h4 (by simpa [PyData.showable] using hs) (fun hx => by rw [hn'] at hx; cases hx) (fun t ht => Nat.le_trans (tupleText_mem_le ht) hz')
    have hna := not_mem_of_deeper (.tuple h1 h2 h3 h4) (by simp only [PyData.depth]; omega) hb
    simp only [PyData.depth] at hdp
    refine call_repr_slot (by omega) ⟨_, h1, h2⟩ F.slot_tuple_repr (call_tuple_reprK h1 h2 h3 hna hk (g := []) hg (fun b _ => Clear.nil b) (by show X.A.units + 1 + _ < cLine; omega) (fun _ _ e => e) (fun h' u tk hk' => ⟨_, _, rfl, ?_⟩) hz')
    refine ⟨.str _, H, I.kept (t' := tk) hk', ⟨u, rfl⟩, ?_⟩
    simpa only [PyData.shown] using q
theorem repr_lst {pins : List (Addr × Obj)} {σ : List (Option V)} {H : Hp} {s : Shared} {v : V} {u : Value} {ds : List PyData} {Q : VK} (hg : X.A.guards = some []) (hu : X.A.units + 100 < cLine) (I : Inv X pins σ H s) (ru : RelV v u) (hd : Dp X.K H v (.list ds))
    (hn : (PyData.list ds).hasDict = false) (hdp : (PyData.list ds).depth ≤ 64) (hs : (PyData.list ds).showable = true) (hz : (PyData.list ds).shown.length ≤ sizeLine) (q : Q (.str (PyData.list ds).shown) H) :
    wpAny (model X.prog X.w) X.A (call (.builtin "repr") [u]) (EP X pins σ Q) X.xe s := by
  obtain ⟨as, rd⟩ := Dp.reads I _ v u hd ru
  cases rd with
  | @list a o items n _ as' h1 h2 h3 h4 =>
    have hz' : (listText (PyData.shownAll ds)).length ≤ sizeLine := by simpa only [PyData.shown] using hz
    have hn' : PyData.hasDictAll ds = false := by simpa only [PyData.hasDict] using hn
    obtain ⟨bs, hb, hk⟩ := ReprAllK.of_readsAll (prog := X.prog) (w := X.w) h4 (by simpa [PyData.showable] using hs) (fun hx => by rw [hn'] at hx; cases hx) (fun t ht => Nat.le_trans (listText_mem_le ht) hz')
    have hna := not_mem_of_deeper (.list h1 h2 h3 h4) (by simp only [PyData.depth]; omega) hb
    simp only [PyData.depth] at hdp
    have fin : ∀ (h' : Heap) (t tk : Nat), (∀ b o, s.heap.get? b = some o → h'.get? b = some o) → EP X pins σ Q (.str (listText (PyData.shownAll ds)) t) { s with heap := h', toks := tk } := fun h' t tk hk' => ⟨.str _, H, I.kept (t' := tk) hk', ⟨t, rfl⟩, by simpa only [PyData.shown] using q⟩
    obtain ⟨l⟩ := items
    cases l with
    | nil =>
      have h4' : ReadsAll s.heap [] ds _ := h4
      cases h4'
      have := fin s.heap s.toks (s.toks + 1) (fun _ _ e => e)
      simp only [PyData.shownAll, listText_nil] at this
      exact call_repr_slot (by omega) ⟨_, h1, h2⟩ F.slot_list_repr.toG (call_list_repr_empty ⟨_, h1, h2⟩ h1 h3 ⟨_, _, rfl, this⟩)
    | cons x l =>
      exact call_repr_slot (by omega) ⟨_, h1, h2⟩ F.slot_list_repr.toG (call_list_reprK h1 h2 h3 hna (by simpa using hk.length_eq) (fun i y e => hk.item i y (by simpa using e)) (g := []) hg (fun b _ => Clear.nil b) (by show X.A.units + 1 + _ < cLine; omega) (fun _ _ e => e) (fun h' u tk hk' => ⟨_, _, rfl, fin h' u tk hk'⟩) hz')
theorem q_repr (hg : X.A.guards = some []) (hu : X.A.units + 100 < cLine) : Qn X (WC X (.builtin "repr")) rRepr := by
  intro F H G vs xs P Q hr ra h lq
  match xs, ra, h with
  | [x], .cons r .nil, h =>
    have h' : (match datOf G x with
      | some d => d.canLay0 = true ∧ d.depth ≤ 64 ∧ d.showable = true ∧ d.shown.length ≤ sizeLine ∧ (tyP G x = some "tuple" ∨ tyP G x = some "list") ∧ P (.str d.shown) G
      | none => False) := h
    clear h
    split at h'
    · rename_i d e
      obtain ⟨h1, h2, h3, h4, h5, h6⟩ := h'
      intro pins s σ us I rv
      obtain ⟨u, rfl, ru⟩ := rv.one
      have hd := datOf_dp hr r e
      have hn := PyData.hasDict_of_canLay d h1
      have q : Q (.str d.shown) H := lq F H G _ _ (Same.refl F) hr (.str _) h6
      cases d with
      | tuple ds => exact repr_tup hg hu I ru hd hn h2 h3 h4 q
      | list ds => exact repr_lst hg hu I ru hd hn h2 h3 h4 q
      | _ =>
        exfalso
        cases hd <;> cases r <;> rcases h5 with h5 | h5 <;> exact absurd (Option.some.inj h5) (by decide)
    · exact h'.elim
end
end PL
end

section
/-! POps5: zip, enumerate, short words. -/
namespace PL
open PySem PySem.Spec PyProof.Rows L2 RZ

theorem room_64 {A : Around} {k : Nat} (hr : Room k A) : A.units + 64 < cLine := hr.units
theorem room_hu {A : Around} {k : Nat} (hr : Room k A) : A.units + 100 < cLine := by have := hr.un; omega
section
variable {X : Cx}
theorem q_in (hu : X.A.units + 1 < cLine) : Q2 X (WO X (compareOp .In)) (rMem false) := q_mem false hu
theorem q_nin (hu : X.A.units + 1 < cLine) : Q2 X (WO X (compareOp .NotIn)) (rMem true) := q_mem true hu
/-- the name of a built-in class -/
theorem qe_bty {x : Str} {n : String} {pos : Pos} (hg : Gl X x) (hm : X.mg x = none) (hv : bootBuiltins x = some (.type n)) (hn : x ≠ "__name__" := by decide) (hd : (x == ("__debug__" : Str)) = false := by decide) : QE X (.Name x pos) (pC (.ty n)) :=
  qe_c (pe_bltn hg hm hv (v := .ty n) rfl hn hd) fun _ => .ty n
def isNonP : PV → Bool
  | .non => true
  | _ => false
def rIsN (x : PV) (G : GH) (P : PK1) : Prop := P (.bl (isNonP x)) G
def rNotN (x : PV) (G : GH) (P : PK1) : Prop := P (.bl (!isNonP x)) G
theorem isN_eq {K : PySem.W.Frag} {F : Hp} {v : V} {x : PV} (r : Rep K F v x) : decide (v = .non) = isNonP x := by
  cases x with
  | non => cases r; rfl
  | bl _ => cases r; rfl
  | int _ => cases r; rfl
  | str _ => cases r; rfl
  | ref _ => cases r; rfl
  | ty _ => cases r; rfl
  | tup _ => cases r with | tup _ _ => rfl
  | lst _ => cases r with | lst _ _ => rfl
  | scr _ => cases r with | scr _ => rfl
theorem qe_isN {a : Expr} {ta : PTE} {j pos pos'} (ha : QE X a ta) : QE X (.Compare a [.Is] [.Constant .none j pos'] pos) (pUn rIsN ta) := by
  refine ⟨fun W tk F H G σ env P Ex Q hr hv h lq lx => we_of (pe_cmp (pc_isN pe_we)) ?_⟩
  refine ha.run W tk F H G σ env _ Ex _ hr hv h (fun F1 H1 G1 v x s1 r1 rv h1 => ?_) lx
  rw [isN_eq rv]
  exact lq F1 H1 G1 _ _ s1 r1 (.bl _) h1
theorem qe_notN {a : Expr} {ta : PTE} {j pos pos'} (ha : QE X a ta) : QE X (.Compare a [.IsNot] [.Constant .none j pos'] pos) (pUn rNotN ta) := by
  refine ⟨fun W tk F H G σ env P Ex Q hr hv h lq lx => we_of (pe_cmp (pc_notN pe_we)) ?_⟩
  refine ha.run W tk F H G σ env _ Ex _ hr hv h (fun F1 H1 G1 v x s1 r1 rv h1 => ?_) lx
  rw [isN_eq rv]
  exact lq F1 H1 G1 _ _ s1 r1 (.bl _) h1
theorem qt_isN {a : Expr} {ta : PTE} {j pos pos'} (ha : QE X a ta) : QT X (.Compare a [.Is] [.Constant .none j pos'] pos) (pTb (pUn rIsN ta)) := by
  refine ⟨fun W tk F H G σ env P Ex Q hr hv h lq lx => wt_of (pt_cmp (pc_isN pe_we)) ?_⟩
  refine ha.run W tk F H G σ env _ Ex _ hr hv h (fun F1 H1 G1 v x s1 r1 rv h1 => ?_) lx
  rw [isN_eq rv]
  exact ⟨_, rfl, lq F1 H1 G1 _ s1 r1 h1⟩
theorem qt_notN {a : Expr} {ta : PTE} {j pos pos'} (ha : QE X a ta) : QT X (.Compare a [.IsNot] [.Constant .none j pos'] pos) (pTb (pUn rNotN ta)) := by
  refine ⟨fun W tk F H G σ env P Ex Q hr hv h lq lx => wt_of (pt_cmp (pc_notN pe_we)) ?_⟩
  refine ha.run W tk F H G σ env _ Ex _ hr hv h (fun F1 H1 G1 v x s1 r1 rv h1 => ?_) lx
  rw [isN_eq rv]
  exact ⟨_, rfl, lq F1 H1 G1 _ s1 r1 h1⟩

/-! ### zip, enumerate -/
def lstS (G : GH) : PV → Option (List PV)
  | .lst xs => some xs
  | .scr ns => some (ns.map .int)
  | .ref a => ownL G a
  | _ => none
theorem lstS_ok {K : PySem.W.Frag} {F H : Hp} {G : GH} {v : V} {x : PV} {xs : List PV} (hr : Rl K F H G) (r : Rep K F v x) (e : lstS G x = some xs) : ∃ a vs, v = .ref a ∧ SqL K H a vs ∧ RepA K F vs xs := by
  cases x with
  | lst ys =>
    cases e
    cases r with
    | lst h1 h2 => exact ⟨_, _, rfl, .inl (.inl (hr.sub _ _ h1)), h2⟩
  | scr ns =>
    cases e
    cases r with
    | scr h1 => exact ⟨_, _, rfl, hr.sub.seq h1, RepA.of_ints ns⟩
  | ref a =>
    cases r
    obtain ⟨_, vs, h1, h2⟩ := hr.own _ _ (ownL_eq e)
    exact ⟨a, vs, rfl, .inl (.inl h1), h2⟩
  | _ => cases e
def pairP (p q : PV) : PV := .tup [p, q]
def itZ (x y : PV) : PIt := ⟨fun i G z => ∃ xs ys p q, lstS G x = some xs ∧ lstS G y = some ys ∧ xs[i]? = some p ∧ ys[i]? = some q ∧ z = pairP p q, fun i G => ∃ xs ys, lstS G x = some xs ∧ lstS G y = some ys ∧ (xs.length ≤ i ∨ ys.length ≤ i)⟩
theorem rel_zip {K : PySem.W.Frag} {F : Hp} {a b : Addr} {x y : PV} (rx : Rep K F (.ref a) x) (ry : Rep K F (.ref b) y) : ItRel false K F (Itz K a b) (itZ x y) := by
  refine ⟨fun F' H' G' i z s hr e => ?_, fun F' H' G' i s hr e => ?_⟩
  · obtain ⟨xs, ys, p, q, e1, e2, e3, e4, rfl⟩ := e
    obtain ⟨a', vs, ea, h1, r1⟩ := lstS_ok hr (Rep.mono s _ _ rx) e1
    obtain ⟨b', us, eb, h2, r2⟩ := lstS_ok hr (Rep.mono s _ _ ry) e2
    cases ea
    cases eb
    obtain ⟨v, g1, k1⟩ := r1.get e3
    obtain ⟨u, g2, k2⟩ := r2.get e4
    refine ⟨⟨vs, us, v, u, h1, h2, g1, g2⟩, fun w H3 y => ?_⟩
    obtain ⟨T, x1, x2, rfl, nT, rfl, y1, y2⟩ := y
    have n := hr.sub.free nT
    have q1 := y1 vs h1
    have q2 := y2 us h2
    rw [g1] at q1
    rw [g2] at q2
    cases q1
    cases q2
    exact ⟨_, Same.new n, hr.froze nT, .inr ⟨rfl, T, [v, u], [p, q], rfl, rfl, SqT.of upd_same, .cons (Rep.mono (Same.new n) _ _ k1) (.cons (Rep.mono (Same.new n) _ _ k2) .nil)⟩⟩
  · obtain ⟨xs, ys, e1, e2, e3⟩ := e
    obtain ⟨a', vs, ea, h1, r1⟩ := lstS_ok hr (Rep.mono s _ _ rx) e1
    obtain ⟨b', us, eb, h2, r2⟩ := lstS_ok hr (Rep.mono s _ _ ry) e2
    cases ea
    cases eb
    exact ⟨vs, us, h1, h2, by rw [r1.length, r2.length]; exact e3⟩
def zipP (xs ys : List PV) : List PV := List.zipWith pairP xs ys
theorem rel_zipT {K : PySem.W.Frag} {F : Hp} {a b : Addr} {xs ys : List PV} (rx : Rep K F (.ref a) (.tup xs)) (ry : Rep K F (.ref b) (.tup ys)) : ItRel false K F (ItzT K a b) (itL (zipP xs ys)) := by
  cases rx with
  | tup t1 r1 =>
    cases ry with
    | tup t2 r2 =>
      refine ⟨fun F' H' G' i z s hr e => ?_, fun F' H' G' i s hr e => ?_⟩
      · have e' : (List.zipWith pairP xs ys)[i]? = some z := e
        rw [List.getElem?_zipWith] at e'
        cases e3 : xs[i]? with
        | none => rw [e3] at e'; cases e'
        | some p =>
          cases e4 : ys[i]? with
          | none => rw [e3, e4] at e'; cases e'
          | some q =>
            rw [e3, e4] at e'
            cases e'
            have h1 := Same.tupT (s.trans hr.sub) t1.sq
            have h2 := Same.tupT (s.trans hr.sub) t2.sq
            obtain ⟨v, g1, k1⟩ := r1.get e3
            obtain ⟨u, g2, k2⟩ := r2.get e4
            refine ⟨⟨_, _, v, u, h1, h2, g1, g2⟩, fun w H3 y => ?_⟩
            obtain ⟨T, x1, x2, rfl, nT, rfl, y1, y2⟩ := y
            have n := hr.sub.free nT
            have q1 := y1 _ h1
            have q2 := y2 _ h2
            rw [g1] at q1
            rw [g2] at q2
            cases q1
            cases q2
            exact ⟨_, Same.new n, hr.froze nT, .inr ⟨rfl, T, [v, u], [p, q], rfl, rfl, SqT.of upd_same, .cons (Rep.mono (s.trans (Same.new n)) _ _ k1) (.cons (Rep.mono (s.trans (Same.new n)) _ _ k2) .nil)⟩⟩
      · have e' : (List.zipWith pairP xs ys).length ≤ i := e
        rw [List.length_zipWith] at e'
        exact ⟨_, _, Same.tupT (s.trans hr.sub) t1.sq, Same.tupT (s.trans hr.sub) t2.sq, by rw [r1.length, r2.length]; omega⟩
def zipA (x y : PV) (G : GH) (R : PIt → GH → Prop) : Prop := match x, y with
  | .tup xs, .tup ys => R (itL (zipP xs ys)) G
  | x, y => (lstS G x).isSome = true ∧ (lstS G y).isSome = true ∧ R (itZ x y) G
def pZip (t : PTA) (env : PEn) (G : GH) (R : (PIt → GH → Prop)) (Ex : PXK) : Prop := t env G (fun xs G1 => match xs with
  | [x, y] => zipA x y G1 R
  | _ => False) Ex
theorem qi_zip {e e2 : Expr} {ta : PTA} {p pos tpos : Pos} {elts : List Expr} {kk : Nat} (hg : Gl X "zip") (hm : X.mg "zip" = none) (ha : QA X [e, e2] ta)
    (hs : starEach [e, e2] X.env = (false, eval e X.env) :: starEach [e2] X.env := by rfl) (hpl : (backTo pos (starEach [e2] X.env)).any (·.1) = false := by rfl) : QI false X (.Tuple elts kk tpos) (.Call (.Name "zip" p) [e, e2] [] pos) (pZip ta) := by
  refine ⟨fun W tk F H G σ env R Ex R' hr hv h lr lx => wi_of (pi_zipA hg hm pa_wa hs hpl) ?_⟩
  refine ha.run W tk F H G σ env _ Ex _ hr hv h (fun F1 H1 G1 vs xs s1 r1 rvs h1 => ?_) lx
  have gen : ∀ (v u : V) (x y : PV), Rep X.K F1 v x → Rep X.K F1 u y → (lstS G1 x).isSome = true ∧ (lstS G1 y).isSome = true ∧ R (itZ x y) G1 → ∃ a b xs ys, [v, u] = [V.ref a, V.ref b] ∧ ((SqL X.K H1 a xs ∧ SqL X.K H1 b ys ∧ R' (Itz X.K a b) H1) ∨ (SqT X.K H1 a xs ∧ SqT X.K H1 b ys ∧ R' (ItzT X.K a b) H1)) := by
    intro v u x y rx ry h
    obtain ⟨h2, h3, h4⟩ := h
    obtain ⟨xs, ex⟩ := Option.isSome_iff_exists.mp h2
    obtain ⟨ys, ey⟩ := Option.isSome_iff_exists.mp h3
    obtain ⟨a, vs, rfl, q1, _⟩ := lstS_ok r1 rx ex
    obtain ⟨b, us, rfl, q2, _⟩ := lstS_ok r1 ry ey
    exact ⟨a, b, vs, us, rfl, .inl ⟨q1, q2, lr F1 H1 G1 _ _ s1 r1 (rel_zip rx ry) h4⟩⟩
  match xs, rvs, h1 with
  | [x, y], .cons rx (.cons ry .nil), h1 =>
    cases x with
    | tup xs =>
      cases y with
      | tup ys =>
        cases rx with
        | tup t1 r3 =>
          cases ry with
          | tup t2 r4 => exact ⟨_, _, _, _, rfl, .inr ⟨Same.tupT r1.sub t1.sq, Same.tupT r1.sub t2.sq, lr F1 H1 G1 _ _ s1 r1 (rel_zipT (.tup t1 r3) (.tup t2 r4)) h1⟩⟩
      | _ => exact gen _ _ _ _ rx ry h1
    | _ => exact gen _ _ _ _ rx ry (by cases y <;> exact h1)
end
end PL
end

section
/-! PTac: how readings are walked. -/
namespace PL
open PySem PySem.Spec PyProof.Rows L2

/-- the next statement alone: what follows is hidden behind K -/
theorem seq_gen {t u : PTS} {D : PEnds} {env : PEn} {G : GH} (h : ∀ K : PEn → GH → Prop, (∀ env' G', u D env' G' → K env' G') → t { D with nx := K } env G) : pSeq t u D env G := h _ fun _ _ h => h
/-- an if whose ways go on alike -/
theorem if_gen {c : PTT} {t u : PTS} {D : PEnds} {env : PEn} {G : GH} (h : c env G (fun b G1 => (b = true → t D env G1) ∧ (b = false → u D env G1)) D.xs) (hm : ∀ (P Q : Bool → GH → Prop), (∀ b G1, P b G1 → Q b G1) → c env G P D.xs → c env G Q D.xs) : pIf c t u D env G :=
  hm _ _ (fun b G1 h => by cases b; exact h.2 rfl; exact h.1 rfl) h
theorem ite_of {b : Bool} {A B : Prop} (h1 : b = true → A) (h2 : b = false → B) : if b = true then A else B := by
  cases b
  · exact h2 rfl
  · exact h1 rfl
theorem ite_dec {c : Prop} [Decidable c] {A B : Prop} (h1 : c → A) (h2 : ¬ c → B) : if decide c = true then A else B := by
  by_cases h : c
  · rw [decide_eq_true h]; exact h1 h
  · rw [decide_eq_false h]; exact h2 h
theorem ite_ndec {c : Prop} [Decidable c] {A B : Prop} (h1 : ¬ c → A) (h2 : c → B) : if (!decide c) = true then A else B := by
  by_cases h : c
  · rw [decide_eq_true h]; exact h2 h
  · rw [decide_eq_false h]; exact h1 h

/-- a for, its body hidden -/
theorem for_gen {ti : PTI} {g : PTG} {tb : PTS} {D : PEnds} {env : PEn} {G : GH} (h : ∀ (g' : PTG) (tb' : PTS), g' = g → tb' = tb → ti env G (fun J G1 => ∃ (I : Nat → PEn → GH → Prop) (n : Nat), I 0 env G1 ∧ ∀ i env G, i ≤ n → I i env G →
    (J.done i G ∧ D.nx env G) ∨ (i < n ∧ ∃ x, J.item i G x ∧ g' x env G (fun env' G' => tb' { D with nx := I (i + 1), ct := I (i + 1), bk := D.nx } env' G') D.xs)) D.xs) : pFor ti g tb D env G := h g tb rfl rfl
theorem lc_gen {o : Bool} {ti : PTI} {g : PTG} {tt : PTT} {te : PTE} {vs : List Nat} {env : PEn} {G : GH} {P : PK1} {Ex : PXK} (h : ∀ (g' : PTG) (tt' : PTT) (te' : PTE) (P' : PK1), g' = g → tt' = tt → te' = te → P' = P → ti env G (fun J G1 => ∀ D, G1 D = none → ∃ (I : Nat → List PV → GH → Prop) (n : Nat), I 0 [] (gset G1 D (.lst [])) ∧ ∀ i acc G, i ≤ n → I i acc G →
      (J.done i G ∧ G D = some (.lst acc) ∧ (if o = true then P' (.ref D) G else P' (.lst acc) (gdel G D))) ∨
      (i < n ∧ ∃ x, J.item i G x ∧ g' x (wipeE env vs) G (fun env2 G2 => tt' env2 G2 (fun b G3 => if b = true then te' env2 G3 (fun y G4 => G4 D = some (.lst acc) ∧ acc.length < sizeLine ∧ I (i + 1) (acc ++ [y]) (gset G4 D (.lst (acc ++ [y])))) noX else I (i + 1) acc G3) noX) noX)) Ex) : pLc o ti g tt te vs env G P Ex := h g tt te P rfl rfl rfl rfl
/-- for over a list that stays -/
theorem for_l {g : PTG} {tb : PTS} {nx : PEn → GH → Prop} {rt : PK1} {xk : PXK} {xs : List PV} {env : PEn} {G : GH} (I : Nat → PEn → GH → Prop) (h0 : I 0 env G)
    (hs : ∀ i x env G, xs[i]? = some x → I i env G → g x env G (fun env' G' => tb { nx := I (i + 1), rt := rt, bk := nx, ct := I (i + 1), xs := xk } env' G') xk) (he : ∀ env G, I xs.length env G → nx env G) :
    ∃ (I : Nat → PEn → GH → Prop) (n : Nat), I 0 env G ∧ ∀ i env G, i ≤ n → I i env G →
      ((itL xs).done i G ∧ nx env G) ∨ (i < n ∧ ∃ x, (itL xs).item i G x ∧ g x env G (fun env' G' => tb { nx := I (i + 1), rt := rt, bk := nx, ct := I (i + 1), xs := xk } env' G') xk) := by
  refine ⟨I, xs.length, h0, fun i env G hi h => ?_⟩
  by_cases l : i < xs.length
  · exact .inr ⟨l, xs[i], List.getElem?_eq_getElem l, hs i _ env G (List.getElem?_eq_getElem l) h⟩
  · have e : i = xs.length := by omega
    subst e
    exact .inl ⟨Nat.le_refl _, he env G h⟩
theorem for_r {g : PTG} {tb : PTS} {nx : PEn → GH → Prop} {rt : PK1} {xk : PXK} {lo : Int} {n : Nat} {env : PEn} {G : GH} (I : Nat → PEn → GH → Prop) (h0 : I 0 env G)
    (hs : ∀ i env G, i < n → I i env G → g (.int (lo + i)) env G (fun env' G' => tb { nx := I (i + 1), rt := rt, bk := nx, ct := I (i + 1), xs := xk } env' G') xk) (he : ∀ env G, I n env G → nx env G) :
    ∃ (I : Nat → PEn → GH → Prop) (m : Nat), I 0 env G ∧ ∀ i env G, i ≤ m → I i env G →
      ((itR lo n).done i G ∧ nx env G) ∨ (i < m ∧ ∃ x, (itR lo n).item i G x ∧ g x env G (fun env' G' => tb { nx := I (i + 1), rt := rt, bk := nx, ct := I (i + 1), xs := xk } env' G') xk) := by
  refine ⟨I, n, h0, fun i env G hi h => ?_⟩
  by_cases l : i < n
  · exact .inr ⟨l, _, ⟨l, rfl⟩, hs i env G l h⟩
  · have e : i = n := by omega
    subst e
    exact .inl ⟨Nat.le_refl _, he env G h⟩
/-- a for over any source whose items are told -/
theorem for_j {J : PIt} {g : PTG} {tb : PTS} {nx : PEn → GH → Prop} {rt : PK1} {xk : PXK} {n : Nat} {env : PEn} {G : GH} (I : Nat → PEn → GH → Prop) (h0 : I 0 env G)
    (hs : ∀ i env G, i < n → I i env G → ∃ x, J.item i G x ∧ g x env G (fun env' G' => tb { nx := I (i + 1), rt := rt, bk := nx, ct := I (i + 1), xs := xk } env' G') xk) (he : ∀ env G, I n env G → J.done n G ∧ nx env G) :
    ∃ (I : Nat → PEn → GH → Prop) (m : Nat), I 0 env G ∧ ∀ i env G, i ≤ m → I i env G →
      (J.done i G ∧ nx env G) ∨ (i < m ∧ ∃ x, J.item i G x ∧ g x env G (fun env' G' => tb { nx := I (i + 1), rt := rt, bk := nx, ct := I (i + 1), xs := xk } env' G') xk) := by
  refine ⟨I, n, h0, fun i env G hi h => ?_⟩
  by_cases l : i < n
  · exact .inr ⟨l, hs i env G l h⟩
  · have e : i = n := by omega
    subst e
    exact .inl (he env G h)

/-! ### comprehensions -/
/-- a turn of a comprehension, with what it makes told -/
def lcTurn (g : PTG) (tt : PTT) (te : PTE) (x : PV) (env : PEn) (G : GH) (Ky : PK1) (Kn : GH → Prop) : Prop := g x env G (fun env2 G2 => tt env2 G2 (fun b G3 => if b = true then te env2 G3 Ky noX else Kn G3) noX) noX
/-- a comprehension that changes nothing: f tells what is made of an item -/
theorem lc_pure {xs : List PV} {g : PTG} {tt : PTT} {te : PTE} {env : PEn} {G1 : GH} {P : PK1} {D : Addr} (own : Bool) (f : PV → Option PV) (hD : G1 D = none) (hl : xs.length < sizeLine)
    (hs : ∀ x ∈ xs, ∀ (G : GH) (Ky : PK1) (Kn : GH → Prop), Sub G1 G → (∀ y, f x = some y → Ky y G) → (f x = none → Kn G) → lcTurn g tt te x env G Ky Kn)
    (he : if own = true then P (.ref D) (gset G1 D (.lst (xs.filterMap f))) else P (.lst (xs.filterMap f)) G1) :
    ∃ (I : Nat → List PV → GH → Prop) (n : Nat), I 0 [] (gset G1 D (.lst [])) ∧ ∀ i acc G, i ≤ n → I i acc G →
      ((itL xs).done i G ∧ G D = some (.lst acc) ∧ (if own = true then P (.ref D) G else P (.lst acc) (gdel G D))) ∨
      (i < n ∧ ∃ x, (itL xs).item i G x ∧ g x env G (fun env2 G2 => tt env2 G2 (fun b G3 => if b = true then te env2 G3 (fun y G4 => G4 D = some (.lst acc) ∧ acc.length < sizeLine ∧ I (i + 1) (acc ++ [y]) (gset G4 D (.lst (acc ++ [y])))) noX else I (i + 1) acc G3) noX) noX) := by
  refine ⟨fun i acc G => acc = (xs.take i).filterMap f ∧ G = gset G1 D (.lst acc), xs.length, ⟨rfl, rfl⟩, fun i acc G hi h => ?_⟩
  obtain ⟨rfl, rfl⟩ := h
  by_cases l : i < xs.length
  · refine .inr ⟨l, xs[i], List.getElem?_eq_getElem l, ?_⟩
    have ht : xs.take (i + 1) = xs.take i ++ [xs[i]] := by rw [List.take_add_one, List.getElem?_eq_getElem l]; rfl
    refine hs _ (List.getElem_mem l) _ _ _ (Sub.new hD) (fun y e => ⟨gset_same, ?_, ?_, gset_gset⟩) (fun e => ⟨?_, rfl⟩)
    · exact Nat.lt_of_le_of_lt (Nat.le_trans (List.length_filterMap_le _ _) (by rw [List.length_take]; omega)) hl
    · rw [ht, List.filterMap_append, List.filterMap_cons, e]; rfl
    · rw [ht, List.filterMap_append, List.filterMap_cons, e, List.filterMap_nil, List.append_nil]
  · have e : i = xs.length := by omega
    subst e
    rw [List.take_length]
    refine .inl ⟨Nat.le_refl _, gset_same, ?_⟩
    cases own with
    | true => exact he
    | false => rw [gdel_gset hD]; exact he

/-! ### operations by what is known -/
theorem rIx_seq {G : GH} {s : PV} {xs : List PV} {i : Int} {v : PV} {Q : PK1} (hs : seqOf G s = some xs) (hi : atI xs i = some v) (q : Q v G) : PL.rIx s (.int i) G Q := by
  have go : ∀ {ys : List PV}, ys = xs → ixL ys (.int i) G Q := fun {ys} e => by
    subst e
    show (match atI ys i with
      | some v => Q v G
      | none => False)
    rw [hi]
    exact q
  cases s with
  | tup ys => exact go (Option.some.inj hs)
  | lst ys => exact go (Option.some.inj hs)
  | scr ys => exact go (Option.some.inj hs)
  | ref a =>
    have e := ownL_eq (show ownL G a = some xs from hs)
    show (match G a with
      | some (.lst xs) => ixL xs (.int i) G Q
      | some (.dk kvs) => ixD kvs (.int i) G Q
      | some (.fdk _ _ kvs) => ixD kvs (.int i) G Q
      | _ => False)
    rw [e]
    exact go rfl
  | _ => cases hs
theorem rIx_dict {G : GH} {a : Addr} {kvs : List (Key × PV)} {y : PV} {k : Key} {v : PV} {Q : PK1} (hG : G a = some (.dk kvs)) (hk : pkey y = some k) (hv : valP kvs k = some v) (q : Q v G) : PL.rIx (.ref a) y G Q := by
  show (match G a with
    | some (.lst xs) => ixL xs y G Q
    | some (.dk kvs) => ixD kvs y G Q
    | some (.fdk _ _ kvs) => ixD kvs y G Q
    | _ => False)
  rw [hG]
  show (match pkey y with
    | some k => (match valP kvs k with
      | some v => Q v G
      | none => False)
    | none => False)
  rw [hk]
  show (match valP kvs k with
      | some v => Q v G
      | none => False)
  rw [hv]
  exact q
theorem rSet_dict {G : GH} {a : Addr} {kvs : List (Key × PV)} {y x : PV} {k : Key} {Q : GH → Prop} (hG : G a = some (.dk kvs)) (hk : pkey y = some k) (hl : kvs.length < sizeLine) (q : Q (gset G a (.dk (putP kvs k x)))) : rSet (.ref a) y x G Q := by
  show (match G a with
    | some (.lst xs) => setL a xs y x G Q
    | some (.dk kvs) => setD a kvs y x G Q
    | _ => False)
  rw [hG]
  show (match pkey y with
    | some k => kvs.length < sizeLine ∧ Q (gset G a (.dk (putP kvs k x)))
    | none => False)
  rw [hk]
  exact ⟨hl, q⟩
theorem rSet_lst {G : GH} {a : Addr} {xs : List PV} {i : Int} {j : Nat} {x : PV} {Q : GH → Prop} (hG : G a = some (.lst xs)) (hj : ixN xs.length i = some j) (q : Q (gset G a (.lst (xs.set j x)))) : rSet (.ref a) (.int i) x G Q := by
  show (match G a with
    | some (.lst xs) => setL a xs (.int i) x G Q
    | some (.dk kvs) => setD a kvs (.int i) x G Q
    | _ => False)
  rw [hG]
  show (match ixN xs.length i with
    | some j => Q (gset G a (.lst (xs.set j x)))
    | none => False)
  rw [hj]
  exact q
theorem rLen_seq {G : GH} {s : PV} {xs : List PV} {Q : PK1} (hs : seqOf G s = some xs) (q : Q (.int xs.length) G) : rLen [s] G Q := by
  cases s with
  | tup ys => cases hs; exact q
  | lst ys => cases hs; exact q
  | scr ys => cases hs; rw [List.length_map] at q; exact q
  | ref a =>
    have e := ownL_eq (show ownL G a = some xs from hs)
    show (match G a with
      | some (.lst ys) => Q (.int ys.length) G
      | some (.dk kvs) => Q (.int kvs.length) G
      | some (.fdk _ _ kvs) => Q (.int kvs.length) G
      | _ => False)
    rw [e]
    exact q
  | _ => cases hs
theorem rIsi_of {G : GH} {x : PV} {t c : String} {Q : PK1} (ht : tyP G x = some t) (hc : c ∈ ["int", "bool", "str", "tuple", "list", "dict"]) (q : Q (.bl (isI t c)) G) : PL.rIsi [x, .ty c] G Q := by
  show (match tyP G x with
    | some t => c ∈ ["int", "bool", "str", "tuple", "list", "dict"] ∧ Q (.bl (isI t c)) G
    | none => False)
  rw [ht]
  exact ⟨hc, q⟩
def frzSeq : PV → Option (List PV)
  | .lst xs => some xs
  | .tup xs => some xs
  | .scr ns => some (ns.map .int)
  | _ => none
theorem iseq_of {G : GH} {x : PV} {xs : List PV} {R : PIt → GH → Prop} (h : frzSeq x = some xs) (r : R (itL xs) G) : iSeqR x G R := by
  cases x with
  | lst ys => cases h; exact r
  | tup ys => cases h; exact r
  | scr ys => cases h; exact r
  | _ => cases h
theorem rList_of {own : Bool} {G : GH} {s : PV} {xs : List PV} {Q : PK1} (hs : seqOf G s = some xs) (q : if own = true then ∀ p, G p = none → Q (.ref p) (gset G p (.lst xs)) else Q (.lst xs) G) : rList own [s] G Q := by
  show (match seqOf G s with
    | some ys => if own = true then ∀ p, G p = none → Q (.ref p) (gset G p (.lst ys)) else Q (.lst ys) G
    | none => False)
  rw [hs]
  exact q
theorem rTuple_of {G : GH} {s : PV} {xs : List PV} {Q : PK1} (hs : seqOf G s = some xs) (q : Q (.tup xs) G) : rTuple [s] G Q := by
  show (match seqOf G s with
    | some ys => Q (.tup ys) G
    | none => False)
  rw [hs]
  exact q
/-- a method at a list that is owned -/
theorem pBM_of {Ts : List String} {A : String → Prop} {G : GH} {x : PV} {T : String} (ht : tyP G x = some T) (hT : T ∈ Ts) (q : A T) :
    (match tyP G x with
      | some T => T ∈ Ts ∧ A T
      | none => False) := by
  rw [ht]
  exact ⟨hT, q⟩
theorem tyP_own {G : GH} {a : Addr} {xs : List PV} (h : G a = some (.lst xs)) : tyP G (.ref a) = some "list" := by
  show (match G a with
    | some (.lst _) => some "list"
    | some (.dk _) => some "dict"
    | _ => none) = _
  rw [h]
theorem rAppend_of {G : GH} {a : Addr} {xs : List PV} {y : PV} {P : PK1} (h : G a = some (.lst xs)) (hl : xs.length < sizeLine) (q : P .non (gset G a (.lst (xs ++ [y])))) : PL.rAppend (.ref a) [y] G P := by
  show (match G a with
    | some (.lst xs) => xs.length < sizeLine ∧ P .non (gset G a (.lst (xs ++ [y])))
    | _ => False)
  rw [h]
  exact ⟨hl, q⟩
theorem small {n : Nat} (h : n ≤ 10000000) : n ≤ sizeLine := Nat.le_trans h (by rw [sizeLine_eq]; decide)
theorem small' {n : Nat} (h : n ≤ 10000000) : n < sizeLine := Nat.lt_of_le_of_lt h (by rw [sizeLine_eq]; decide)
theorem ixN_in {n : Nat} {i : Int} (h0 : 0 ≤ i) (h : i < n) : ixN n i = some i.toNat := by
  unfold ixN
  rw [if_pos h0, if_pos h]
theorem atI_in {xs : List PV} {i : Int} {v : PV} (h0 : 0 ≤ i) (h : xs[i.toNat]? = some v) : atI xs i = some v := by
  have := atI_nat h
  rw [Int.toNat_of_nonneg h0] at this
  exact this

section
variable {G : GH} {P : PK1} {i j : Int} {a b : Str}
theorem rAdd_ii : rAdd (.int i) (.int j) G P = P (.int (i + j)) G := rfl
theorem rSub_ii : rSub (.int i) (.int j) G P = P (.int (i - j)) G := rfl
theorem rMul_ii : rMul (.int i) (.int j) G P = (CMul2 i j ∧ P (.int (i * j)) G) := rfl
theorem rFdiv_ii : rFdiv (.int i) (.int j) G P = (CDiv2 i j ∧ P (.int (i / j)) G) := rfl
theorem rMod_ii : rMod (.int i) (.int j) G P = (0 < j ∧ P (.int (i % j)) G) := rfl
theorem rPow_ii : rPow (.int i) (.int j) G P = (CPow i j ∧ P (.int (i ^ j.toNat)) G) := rfl
theorem rLt_ii : rLt (.int i) (.int j) G P = P (.bl (decide (i < j))) G := rfl
theorem rLe_ii : rLe (.int i) (.int j) G P = P (.bl (decide (i ≤ j))) G := rfl
theorem rGt_ii : rGt (.int i) (.int j) G P = P (.bl (decide (j < i))) G := rfl
theorem rGe_ii : rGe (.int i) (.int j) G P = P (.bl (decide (j ≤ i))) G := rfl
theorem rEq_ii : PL.rEq (.int i) (.int j) G P = P (.bl (decide (i = j))) G := rfl
theorem rNe_ii : PL.rNe (.int i) (.int j) G P = P (.bl (!decide (i = j))) G := rfl
theorem rEq_ss : PL.rEq (.str a) (.str b) G P = P (.bl (decide (a = b))) G := rfl
theorem rNe_ss : PL.rNe (.str a) (.str b) G P = P (.bl (!decide (a = b))) G := rfl
theorem rNeg_i : rNeg (.int i) G P = P (.int (-i)) G := rfl
theorem rAbs_i : rAbs [.int i] G P = P (.int (if i < 0 then -i else i)) G := rfl
theorem rMin_ii : rMinL [.int i, .int j] G P = P (.int (if j < i then j else i)) G := rfl
theorem rMax_ii : rMaxL [.int i, .int j] G P = P (.int (if j > i then j else i)) G := rfl
theorem rInt_i : rIntB [.int i] G P = P (.int i) G := rfl
theorem rInt_b {c : Bool} : rIntB [.bl c] G P = P (.int (if c = true then 1 else 0)) G := rfl
end
theorem abs_nn (i : Int) : 0 ≤ (if i < 0 then -i else i) := by split <;> omega
end PL
end

section
/-! PData: plain data (no truths, no objects): == is sameness; comprehensions with a state; a def that leaves objects behind. -/
namespace PL
open PySem PySem.Spec PyProof.Rows L2

mutual
def PV.pl : PV → Bool
  | .non => true
  | .int _ => true
  | .str x => PyData.strOk x
  | .tup xs => plA xs
  | .lst xs => plA xs
  | .bl _ => false
  | .ref _ => false
  | .ty _ => false
  | .scr _ => false
def plA : List PV → Bool
  | [] => true
  | x :: xs => PV.pl x && plA xs
end
mutual
def PV.dep : PV → Nat
  | .tup xs => depA xs + 1
  | .lst xs => depA xs + 1
  | _ => 0
def depA : List PV → Nat
  | [] => 0
  | x :: xs => max (PV.dep x) (depA xs)
end
mutual
theorem pl_isD : ∀ x : PV, x.pl = true → x.isD = true
  | .non, _ => rfl
  | .int _, _ => rfl
  | .str _, _ => rfl
  | .tup xs, h => by simp only [PV.isD]; exact plA_isD xs (by simpa only [PV.pl] using h)
  | .lst xs, h => by simp only [PV.isD]; exact plA_isD xs (by simpa only [PV.pl] using h)
  | .bl _, h => by simp only [PV.pl] at h; cases h
  | .ref _, h => by simp only [PV.pl] at h; cases h
  | .ty _, h => by simp only [PV.pl] at h; cases h
  | .scr _, h => by simp only [PV.pl] at h; cases h
theorem plA_isD : ∀ xs : List PV, plA xs = true → isDs xs = true
  | [], _ => rfl
  | x :: xs, h => by
    have h' : x.pl = true ∧ plA xs = true := by simpa only [plA, Bool.and_eq_true] using h
    simp only [isDs, pl_isD x h'.1, plA_isD xs h'.2, Bool.and_self]
end
mutual
theorem pl_lay : ∀ x : PV, x.pl = true → x.dat.canLay0 = true
  | .non, _ => by simp only [PV.dat, PyData.canLay0]
  | .int _, _ => by simp only [PV.dat, PyData.canLay0]
  | .str x, h => by simp only [PV.dat, PyData.canLay0]; simpa only [PV.pl] using h
  | .tup xs, h => by simp only [PV.dat, PyData.canLay0]; exact plA_lay xs (by simpa only [PV.pl] using h)
  | .lst xs, h => by simp only [PV.dat, PyData.canLay0]; exact plA_lay xs (by simpa only [PV.pl] using h)
  | .bl _, h => by simp only [PV.pl] at h; cases h
  | .ref _, h => by simp only [PV.pl] at h; cases h
  | .ty _, h => by simp only [PV.pl] at h; cases h
  | .scr _, h => by simp only [PV.pl] at h; cases h
theorem plA_lay : ∀ xs : List PV, plA xs = true → PyData.canLayAll0 (dats xs) = true
  | [], _ => by simp only [dats, PyData.canLayAll0]
  | x :: xs, h => by
    have h' : x.pl = true ∧ plA xs = true := by simpa only [plA, Bool.and_eq_true] using h
    simp only [dats, PyData.canLayAll0, pl_lay x h'.1, plA_lay xs h'.2, Bool.and_self]
end
mutual
theorem pl_dep : ∀ x : PV, x.pl = true → x.dat.depth = x.dep
  | .non, _ => by simp only [PV.dat, PyData.depth, PV.dep]
  | .int _, _ => by simp only [PV.dat, PyData.depth, PV.dep]
  | .str x, h => by simp only [PV.dat, PyData.depth, PV.dep]
  | .tup xs, h => by simp only [PV.dat, PyData.depth, PV.dep]; rw [plA_dep xs (by simpa only [PV.pl] using h)]
  | .lst xs, h => by simp only [PV.dat, PyData.depth, PV.dep]; rw [plA_dep xs (by simpa only [PV.pl] using h)]
  | .bl _, h => by simp only [PV.pl] at h; cases h
  | .ref _, h => by simp only [PV.pl] at h; cases h
  | .ty _, h => by simp only [PV.pl] at h; cases h
  | .scr _, h => by simp only [PV.pl] at h; cases h
theorem plA_dep : ∀ xs : List PV, plA xs = true → PyData.depthAll (dats xs) = depA xs
  | [], _ => by simp only [dats, PyData.depthAll, depA]
  | x :: xs, h => by
    have h' : x.pl = true ∧ plA xs = true := by simpa only [plA, Bool.and_eq_true] using h
    simp only [dats, PyData.depthAll, depA, pl_dep x h'.1, plA_dep xs h'.2]
end
mutual
theorem pl_eqv : ∀ x y : PV, x.pl = true → y.pl = true → (PyData.eqv x.dat y.dat = true ↔ x = y)
  | .non, y, _, hy => by cases y <;> simp_all [PV.dat, PyData.eqv, PV.pl]
  | .int i, y, _, hy => by cases y <;> simp_all [PV.dat, PyData.eqv, PV.pl]
  | .str x, y, _, hy => by cases y <;> simp_all [PV.dat, PyData.eqv, PV.pl]
  | .tup xs, y, hx, hy => by
    cases y with
    | tup ys =>
      simp only [PV.dat, PyData.eqv, PV.tup.injEq]
      exact plA_eqv xs ys (by simpa only [PV.pl] using hx) (by simpa only [PV.pl] using hy)
    | _ => simp_all [PV.dat, PyData.eqv, PV.pl]
  | .lst xs, y, hx, hy => by
    cases y with
    | lst ys =>
      simp only [PV.dat, PyData.eqv, PV.lst.injEq]
      exact plA_eqv xs ys (by simpa only [PV.pl] using hx) (by simpa only [PV.pl] using hy)
    | _ => simp_all [PV.dat, PyData.eqv, PV.pl]
  | .bl _, _, h, _ => by simp only [PV.pl] at h; cases h
  | .ref _, _, h, _ => by simp only [PV.pl] at h; cases h
  | .ty _, _, h, _ => by simp only [PV.pl] at h; cases h
  | .scr _, _, h, _ => by simp only [PV.pl] at h; cases h
theorem plA_eqv : ∀ xs ys : List PV, plA xs = true → plA ys = true → (PyData.eqvAll (dats xs) (dats ys) = true ↔ xs = ys)
  | [], [], _, _ => by simp only [dats, PyData.eqvAll]
  | [], _ :: _, _, _ => by simp [dats, PyData.eqvAll]
  | _ :: _, [], _, _ => by simp [dats, PyData.eqvAll]
  | x :: xs, y :: ys, hx, hy => by
    have h1 : x.pl = true ∧ plA xs = true := by simpa only [plA, Bool.and_eq_true] using hx
    have h2 : y.pl = true ∧ plA ys = true := by simpa only [plA, Bool.and_eq_true] using hy
    simp only [dats, PyData.eqvAll, Bool.and_eq_true, List.cons.injEq]
    rw [pl_eqv x y h1.1 h2.1, plA_eqv xs ys h1.2 h2.2]
end
theorem plA_map {α : Type} (f : α → PV) (h : ∀ a, (f a).pl = true) : ∀ l : List α, plA (l.map f) = true
  | [] => by simp only [List.map_nil, plA]
  | a :: l => by simp only [List.map_cons, plA, h a, plA_map f h l, Bool.and_self]
theorem depA_le {α : Type} (f : α → PV) (n : Nat) (h : ∀ a, (f a).dep ≤ n) : ∀ l : List α, depA (l.map f) ≤ n
  | [] => by simp only [List.map_nil, depA]; omega
  | a :: l => by
    have h1 := h a
    have h2 := depA_le f n h l
    simp only [List.map_cons, depA]
    omega
theorem plA_mem : ∀ {xs : List PV}, (∀ x ∈ xs, x.pl = true) → plA xs = true
  | [], _ => by simp only [plA]
  | x :: xs, h => by simp only [plA, h x List.mem_cons_self, plA_mem fun y hy => h y (List.mem_cons_of_mem _ hy), Bool.and_self]
theorem depA_mem {n : Nat} : ∀ {xs : List PV}, (∀ x ∈ xs, x.dep ≤ n) → depA xs ≤ n
  | [], _ => by simp only [depA]; omega
  | x :: xs, h => by
    have h1 := h x List.mem_cons_self
    have h2 := depA_mem fun y hy => h y (List.mem_cons_of_mem _ hy)
    simp only [depA]
    omega
theorem datOf_pl {G : GH} {x : PV} (h : x.pl = true) : datOf G x = some x.dat := by
  cases x with
  | ref a => simp only [PV.pl] at h; cases h
  | non => exact if_pos (e := none) (pl_isD _ h)
  | bl _ => exact if_pos (e := none) (pl_isD _ h)
  | int _ => exact if_pos (e := none) (pl_isD _ h)
  | str _ => exact if_pos (e := none) (pl_isD _ h)
  | ty _ => exact if_pos (e := none) (pl_isD _ h)
  | tup _ => exact if_pos (e := none) (pl_isD _ h)
  | lst _ => exact if_pos (e := none) (pl_isD _ h)
  | scr _ => exact if_pos (e := none) (pl_isD _ h)
theorem shaped_pl {x : PV} (h : x.pl = true) (hd : x.dep ≤ 64) : SeqAt.shaped x.dat = true := by
  show (x.dat.canLay0 && decide (x.dat.depth ≤ 64)) = true
  rw [pl_lay x h, pl_dep x h, decide_eq_true hd]
  rfl
theorem datOf_own {G : GH} {a : Addr} {xs : List PV} (e : G a = some (.lst xs)) (h : plA xs = true) : datOf G (.ref a) = some (PV.lst xs).dat := by
  show (match ownL G a with
    | some xs => if isDs xs = true then some (PyData.list (dats xs)) else none
    | none => none) = _
  rw [ownL_of e]
  dsimp only
  rw [if_pos (plA_isD xs h)]
  rfl
/-- x stands for y as data -/
def AsD (G : GH) (x y : PV) : Prop := y.pl = true ∧ y.dep ≤ 64 ∧ (x = y ∨ ∃ a xs, x = .ref a ∧ y = .lst xs ∧ G a = some (.lst xs))
theorem AsD.of {G : GH} {x : PV} (h : x.pl = true) (hd : x.dep ≤ 64) : AsD G x x := ⟨h, hd, .inl rfl⟩
theorem AsD.dat {G : GH} {x y : PV} (h : AsD G x y) : datOf G x = some y.dat := by
  obtain ⟨h1, _, rfl | ⟨a, xs, rfl, rfl, e⟩⟩ := h
  · exact datOf_pl h1
  · exact datOf_own e (by simpa only [PV.pl] using h1)
theorem rEq_d {G : GH} {x y : PV} {P : PK1} {d e : PyData} (hx : datOf G x = some d) (hy : datOf G y = some e) (sd : SeqAt.shaped d = true) (se : SeqAt.shaped e = true) (q : P (.bl (PyData.eqv d e)) G) : PL.rEq x y G P := by
  have gen : (match datOf G x, datOf G y with
    | some d, some e => SeqAt.shaped d = true ∧ SeqAt.shaped e = true ∧ P (.bl (PyData.eqv d e)) G
    | _, _ => False) := by
    rw [hx, hy]
    exact ⟨sd, se, q⟩
  cases x with
  | int i =>
    cases y with
    | int j =>
      cases hx
      cases hy
      show P (.bl (decide (i = j))) G
      rw [show PyData.eqv (PV.int i).dat (PV.int j).dat = decide (i = j) from Bool.beq_eq_decide_eq i j] at q
      exact q
    | _ => exact gen
  | str i =>
    cases y with
    | str j =>
      cases hx
      cases hy
      show P (.bl (decide (i = j))) G
      rw [show PyData.eqv (PV.str i).dat (PV.str j).dat = decide (i = j) from Bool.beq_eq_decide_eq i j] at q
      exact q
    | _ => exact gen
  | _ => cases y <;> exact gen
theorem rNe_d {G : GH} {x y : PV} {P : PK1} {d e : PyData} (hx : datOf G x = some d) (hy : datOf G y = some e) (sd : SeqAt.shaped d = true) (se : SeqAt.shaped e = true) (q : P (.bl (!PyData.eqv d e)) G) : PL.rNe x y G P := by
  have gen : (match datOf G x, datOf G y with
    | some d, some e => SeqAt.shaped d = true ∧ SeqAt.shaped e = true ∧ P (.bl (!PyData.eqv d e)) G
    | _, _ => False) := by
    rw [hx, hy]
    exact ⟨sd, se, q⟩
  cases x with
  | int i =>
    cases y with
    | int j =>
      cases hx
      cases hy
      show P (.bl (!decide (i = j))) G
      rw [show PyData.eqv (PV.int i).dat (PV.int j).dat = decide (i = j) from Bool.beq_eq_decide_eq i j] at q
      exact q
    | _ => exact gen
  | str i =>
    cases y with
    | str j =>
      cases hx
      cases hy
      show P (.bl (!decide (i = j))) G
      rw [show PyData.eqv (PV.str i).dat (PV.str j).dat = decide (i = j) from Bool.beq_eq_decide_eq i j] at q
      exact q
    | _ => exact gen
  | _ => cases y <;> exact gen
theorem rEq_pl {G : GH} {x y x' y' : PV} {P : PK1} (hx : AsD G x x') (hy : AsD G y y') (h1 : x' = y' → P (.bl true) G) (h2 : x' ≠ y' → P (.bl false) G) : PL.rEq x y G P := by
  refine rEq_d hx.dat hy.dat (shaped_pl hx.1 hx.2.1) (shaped_pl hy.1 hy.2.1) ?_
  have e := pl_eqv x' y' hx.1 hy.1
  by_cases h : x' = y'
  · rw [e.mpr h]; exact h1 h
  · rw [show PyData.eqv x'.dat y'.dat = false from Bool.eq_false_iff.mpr fun z => h (e.mp z)]; exact h2 h
theorem rNe_pl {G : GH} {x y x' y' : PV} {P : PK1} (hx : AsD G x x') (hy : AsD G y y') (h1 : x' = y' → P (.bl false) G) (h2 : x' ≠ y' → P (.bl true) G) : PL.rNe x y G P := by
  refine rNe_d hx.dat hy.dat (shaped_pl hx.1 hx.2.1) (shaped_pl hy.1 hy.2.1) ?_
  have e := pl_eqv x' y' hx.1 hy.1
  by_cases h : x' = y'
  · rw [e.mpr h]; exact h1 h
  · rw [show PyData.eqv x'.dat y'.dat = false from Bool.eq_false_iff.mpr fun z => h (e.mp z)]; exact h2 h

/-! ### a comprehension whose turns change one object -/
theorem lc_st {J : PIt} {g : PTG} {tt : PTT} {te : PTE} {env : PEn} {G1 : GH} {P : PK1} {D p : Addr} {o0 : GO} (own : Bool) (n : Nat) (xf : Nat → PV) (S : Nat → GO → Prop) (R : Nat → PV → Prop) (hD : G1 D = none) (hG : G1 p = some o0) (h0 : S 0 o0) (hl : n < sizeLine)
    (hJ : ∀ i G, i < n → J.item i G (xf i)) (hJe : ∀ G, J.done n G)
    (hs : ∀ i (G : GH) (o : GO) (Ky : PK1) (Kn : GH → Prop), i < n → G p = some o → S i o → (∀ a u, a ≠ p → G1 a = some u → G a = some u) → (∀ y o', R i y → S (i + 1) o' → Ky y (gset G p o')) → lcTurn g tt te (xf i) env G Ky Kn)
    (he : ∀ (ys : List PV) (o' : GO), ys.length = n → (∀ i y, ys[i]? = some y → R i y) → S n o' → if own = true then P (.ref D) (gset (gset G1 p o') D (.lst ys)) else P (.lst ys) (gset G1 p o')) :
    ∃ (I : Nat → List PV → GH → Prop) (n : Nat), I 0 [] (gset G1 D (.lst [])) ∧ ∀ i acc G, i ≤ n → I i acc G →
      (J.done i G ∧ G D = some (.lst acc) ∧ (if own = true then P (.ref D) G else P (.lst acc) (gdel G D))) ∨
      (i < n ∧ ∃ x, J.item i G x ∧ g x env G (fun env2 G2 => tt env2 G2 (fun b G3 => if b = true then te env2 G3 (fun y G4 => G4 D = some (.lst acc) ∧ acc.length < sizeLine ∧ I (i + 1) (acc ++ [y]) (gset G4 D (.lst (acc ++ [y])))) noX else I (i + 1) acc G3) noX) noX) := by
  have pD : p ≠ D := gne hG hD
  refine ⟨fun i acc G => ∃ o', acc.length = i ∧ (∀ j y, acc[j]? = some y → R j y) ∧ S i o' ∧ G = gset (gset G1 p o') D (.lst acc), n, ⟨o0, rfl, fun j y e => (by simp at e), h0, by rw [gset_id hG]⟩, fun i acc G hi h => ?_⟩
  obtain ⟨o', rfl, hR, hS, rfl⟩ := h
  have hD' : gset G1 p o' D = none := by rw [gset_ne (Ne.symm pD)]; exact hD
  by_cases l : acc.length < n
  · refine .inr ⟨l, xf acc.length, hJ _ _ l, ?_⟩
    refine hs _ _ o' _ _ l (by rw [gset_ne pD, gset_same]) hS (fun a u ha hu => by rw [gset_ne (gne hu hD), gset_ne ha]; exact hu) fun y o2 hy hS2 => ⟨by rw [gset_ne (Ne.symm pD), gset_same], Nat.lt_trans l hl, o2, by rw [List.length_append]; rfl, fun j z e => ?_, hS2, ?_⟩
    · by_cases hj : j < acc.length
      · rw [List.getElem?_append_left hj] at e
        exact hR j z e
      · rw [List.getElem?_append_right (by omega)] at e
        have ej : j - acc.length = 0 := by
          cases q : j - acc.length with
          | zero => rfl
          | succ k => rw [q] at e; simp at e
        rw [ej] at e
        cases e
        rw [show j = acc.length from by omega]
        exact hy
    · rw [gset_comm (a := D) (b := p) (Ne.symm pD), gset_gset, gset_gset]
  · have e : acc.length = n := by omega
    refine .inl ⟨by rw [e]; exact hJe _, gset_same, ?_⟩
    have q := he acc o' e hR (by rw [← e]; exact hS)
    cases own with
    | true => exact q
    | false => rw [gdel_gset hD']; exact q
theorem itR_item {lo : Int} {n i : Nat} {G : GH} (h : i < n) : (itR lo n).item i G (.int (lo + i)) := ⟨h, rfl⟩

/-! ### a def that leaves objects behind -/
def dropQ (Q : PK1) : PK1 := fun x G' => ∃ G0, Sub G0 G' ∧ Q x G0
theorem dropQ_of {Q : PK1} {x : PV} {G : GH} (h : Q x G) : dropQ Q x G := ⟨G, Sub.refl G, h⟩
theorem LkQ.drop {K : PySem.W.Frag} {F : Hp} {P : PK1} {Q : VK} (h : LkQ K F P Q) : LkQ K F (dropQ P) Q := fun F' H' G' v x s r rv ⟨G0, sb, q⟩ => h F' H' G0 v x s (r.drop sb) rv q
theorem def_byD {P : Program} {w : World} {K : PySem.W.Frag} {mg : Str → Option Value} {base : Heap} {x qual : Str} {st : Stmt} {f : Addr} {fd : FuncData} {N ps : List Str} {k : Nat} {psp : PSp} {t : PTS} (F : Fun K x qual st f fd) (S : FnScope N ps (defScope st))
    (hd : ∀ {cdv : Value} {A : Around} {outer : List Env} {s : Shared} {H : Hp} {E : XK}, A.guards = some [] → Room k (A.deeper (envOfC qual (defScope st) s.heap.objs.size f cdv)) → QB (cxOf (L2.CX P w) P w K mg base N qual (defScope st) f cdv A outer s H E) (defBody st) t)
    (hread : ∀ (xs : List PV) (G : GH) (Q : PK1) (Ex : Value → GH → Prop), psp xs G Q Ex → xs.length = ps.length ∧ t { nx := fun _ G => dropQ Q .non G, rt := dropQ Q, xs := fun c _ G' => ∃ G0, Sub G0 G' ∧ Ex c G0 } (startE N.length xs) G) :
    FnP P w K mg base (k + 1) f fd ps psp := by
  have F2 : FnP P w K mg base (k + 1) f fd ps (fun xs G Q Ex => ∃ Q0 Ex0, psp xs G Q0 Ex0 ∧ Q = dropQ Q0 ∧ Ex = fun c G' => ∃ G0, Sub G0 G' ∧ Ex0 c G0) := by
    refine def_by F S hd fun xs G Q Ex h => ?_
    obtain ⟨Q0, Ex0, h, rfl, rfl⟩ := h
    exact hread xs G Q0 Ex0 h
  have hh : ∀ vs H Q E, spOf K psp vs H Q E → spOf K (fun xs G Q Ex => ∃ Q0 Ex0, psp xs G Q0 Ex0 ∧ Q = dropQ Q0 ∧ Ex = fun c G' => ∃ G0, Sub G0 G' ∧ Ex0 c G0) vs H Q E := fun vs H Q E ⟨F', G, xs, P', Ex, a, b, c, d, e⟩ =>
    ⟨F', G, xs, _, _, a, b, ⟨P', Ex, c, rfl, rfl⟩, d.drop, fun F2 H2 G2 c2 s2 r2 ⟨G0, sb, q⟩ => e F2 H2 G0 c2 s2 (r2.drop sb) q⟩
  exact ⟨fun vs H Q E q => F2.len vs H Q E (hh _ _ _ _ q), fun A outer s H args us vs Q E hg hr he hb hv hs => F2.run A outer s H args us vs Q E hg hr he hb hv (hh _ _ _ _ hs)⟩
theorem Sub.set {G G' : GH} {a : Addr} {o : GO} (h : Sub G G') : Sub (gset G a o) (gset G' a o) := fun b u e => by
  unfold gset at e ⊢
  by_cases z : b = a
  · rw [if_pos z] at e ⊢; exact e
  · rw [if_neg z] at e ⊢; exact h b u e
theorem Sub.del {G G' : GH} {a : Addr} (h : Sub G G') (n : G a = none) : Sub G (gdel G' a) := fun b u e => by
  unfold gdel
  rw [if_neg (gne e n)]
  exact h b u e

/-! ### places -/
theorem findIdx_int (ns : List Int) (k : Int) (h : k ∈ ns) : (ns.map PV.int).findIdx? (fun z => eqP z (.int k)) = some (ns.idxOf k) := by
  induction ns with
  | nil => cases h
  | cons n r ih =>
    rw [List.map_cons, List.findIdx?_cons]
    have e : eqP (.int n) (.int k) = (n == k) := rfl
    rw [e, List.idxOf_cons]
    cases q : n == k with
    | true => rfl
    | false =>
      have hk : k ∈ r := by
        rcases List.mem_cons.mp h with rfl | h
        · simp at q
        · exact h
      rw [ih hk]
      rfl
theorem allFlat_int (ns : List Int) : (ns.map PV.int).all flatP = true := by
  rw [List.all_map]
  exact List.all_eq_true.mpr fun _ _ => rfl
theorem rIdxL_int {G : GH} {x : PV} {ns : List Int} {k : Int} {P : PK1} (h : lstOf G x = some (ns.map .int)) (hk : k ∈ ns) (q : P (.int (ns.idxOf k : Nat)) G) : rIdxL x [.int k] G P := by
  show (match lstOf G x with
    | some ys => flatP (.int k) = true ∧ ys.all flatP = true ∧ (match ys.findIdx? fun z => eqP z (.int k) with
      | some j => P (.int j) G
      | none => False)
    | none => False)
  rw [h]
  refine ⟨rfl, allFlat_int ns, ?_⟩
  rw [findIdx_int ns k hk]
  exact q
theorem rIdxT_int {G : GH} {ns : List Int} {k : Int} {P : PK1} (hk : k ∈ ns) (q : P (.int (ns.idxOf k : Nat)) G) : rIdxT (.tup (ns.map .int)) [.int k] G P := by
  show (match intsP (ns.map .int) with
    | some ns => k ∈ ns ∧ P (.int (ns.idxOf k : Nat)) G
    | none => False)
  rw [intsP_of]
  exact ⟨hk, q⟩
theorem any_int (ns : List Int) (k : Int) : ((ns.map PV.int).any fun z => eqP z (.int k)) = decide (k ∈ ns) := by
  induction ns with
  | nil => rfl
  | cons n r ih =>
    rw [List.map_cons, List.any_cons, ih]
    have e : eqP (.int n) (.int k) = (n == k) := rfl
    rw [e, Bool.beq_eq_decide_eq, ← Bool.decide_or]
    simp only [List.mem_cons, eq_comm]
theorem rMin_int {G : GH} {ns : List Int} {P : PK1} (h : 0 < ns.length) (q : ∀ m, m ∈ ns → (∀ y, y ∈ ns → m ≤ y) → P (.int m) G) : rMinL [.lst (ns.map .int)] G P := by
  show (match intsP (ns.map .int) with
    | some ns => 0 < ns.length ∧ ∀ m, m ∈ ns → (∀ y, y ∈ ns → m ≤ y) → P (.int m) G
    | none => False)
  rw [intsP_of]
  exact ⟨h, q⟩
theorem idxOf_map {l : List Int} {f : Int → Int} {c : Int} : (∀ d ∈ l.takeWhile (fun d => !decide (d = c)), f c < f d) → c ∈ l → l.idxOf c = (l.map f).idxOf (f c) := by
  induction l with
  | nil => intro _ h; cases h
  | cons d r ih =>
    intro h hc
    rw [List.map_cons, List.idxOf_cons, List.idxOf_cons]
    by_cases e : d = c
    · subst e
      simp
    · have ht : (d :: r).takeWhile (fun d => !decide (d = c)) = d :: r.takeWhile (fun d => !decide (d = c)) := by rw [List.takeWhile_cons, decide_eq_false e]; rfl
      rw [ht] at h
      have hd := h d List.mem_cons_self
      have e2 : f d ≠ f c := by omega
      rw [show (d == c) = false from beq_eq_false_iff_ne.mpr e, show (f d == f c) = false from beq_eq_false_iff_ne.mpr e2]
      have hc' : c ∈ r := by
        rcases List.mem_cons.mp hc with rfl | h
        · exact absurd rfl e
        · exact h
      rw [ih (fun x hx => h x (List.mem_cons_of_mem _ hx)) hc']
theorem filterMap_some {α β : Type} (f : α → β) (l : List α) : l.filterMap (fun x => some (f x)) = l.map f := by
  induction l with
  | nil => rfl
  | cons a l ih => rw [List.filterMap_cons, List.map_cons, ih]
theorem lc_pureF {xs : List PV} {g : PTG} {tt : PTT} {te : PTE} {env : PEn} {G1 : GH} {P : PK1} {D : Addr} (f : PV → Option PV) (hD : G1 D = none) (hl : xs.length < sizeLine)
    (hs : ∀ x ∈ xs, ∀ (G : GH) (Ky : PK1) (Kn : GH → Prop), Sub G1 G → (∀ y, f x = some y → Ky y G) → (f x = none → Kn G) → lcTurn g tt te x env G Ky Kn)
    (he : P (.lst (xs.filterMap f)) (G1)) : ∃ (I : Nat → List PV → GH → Prop) (n : Nat), I 0 [] (gset G1 D (.lst [])) ∧ ∀ i acc G, i ≤ n → I i acc G →
      ((itL xs).done i G ∧ G D = some (.lst acc) ∧ (if false = true then P (.ref D) G else P (.lst acc) (gdel G D))) ∨
      (i < n ∧ ∃ x, (itL xs).item i G x ∧ g x env G (fun env2 G2 => tt env2 G2 (fun b G3 => if b = true then te env2 G3 (fun y G4 => G4 D = some (.lst acc) ∧ acc.length < sizeLine ∧ I (i + 1) (acc ++ [y]) (gset G4 D (.lst (acc ++ [y])))) noX else I (i + 1) acc G3) noX) noX) :=
  lc_pure false f hD hl hs (by simpa using he)
/-- the same over told things c z, a kept one giving h z -/
theorem lc_mapF {α : Type} {xs : List PV} {g : PTG} {tt : PTT} {te : PTE} {env : PEn} {G1 : GH} {P : PK1} {D : Addr} (c : α → PV) (keep : α → Bool) (h : α → PV) (zs : List α) (hx : xs = zs.map c) (hD : G1 D = none) (hl : zs.length < sizeLine)
    (hs : ∀ z ∈ zs, ∀ (G : GH) (Ky : PK1) (Kn : GH → Prop), Sub G1 G → (keep z = true → Ky (h z) G) → (keep z = false → Kn G) → lcTurn g tt te (c z) env G Ky Kn)
    (he : P (.lst ((zs.filter keep).map h)) (G1)) : ∃ (I : Nat → List PV → GH → Prop) (n : Nat), I 0 [] (gset G1 D (.lst [])) ∧ ∀ i acc G, i ≤ n → I i acc G →
      ((itL xs).done i G ∧ G D = some (.lst acc) ∧ (if false = true then P (.ref D) G else P (.lst acc) (gdel G D))) ∨
      (i < n ∧ ∃ x, (itL xs).item i G x ∧ g x env G (fun env2 G2 => tt env2 G2 (fun b G3 => if b = true then te env2 G3 (fun y G4 => G4 D = some (.lst acc) ∧ acc.length < sizeLine ∧ I (i + 1) (acc ++ [y]) (gset G4 D (.lst (acc ++ [y])))) noX else I (i + 1) acc G3) noX) noX) := by
  subst hx
  refine ⟨fun i acc G => acc = ((zs.take i).filter keep).map h ∧ G = gset G1 D (.lst acc), zs.length, ⟨rfl, rfl⟩, fun i acc G hi e => ?_⟩
  obtain ⟨rfl, rfl⟩ := e
  by_cases l : i < zs.length
  · refine .inr ⟨l, c zs[i], ?_, ?_⟩
    · show (zs.map c)[i]? = _
      rw [List.getElem?_map, List.getElem?_eq_getElem l]
      rfl
    have ht : zs.take (i + 1) = zs.take i ++ [zs[i]] := by rw [List.take_add_one, List.getElem?_eq_getElem l]; rfl
    refine hs _ (List.getElem_mem l) _ _ _ (Sub.new hD) (fun e => ⟨gset_same, ?_, ?_, gset_gset⟩) (fun e => ⟨?_, rfl⟩)
    · rw [List.length_map]
      exact Nat.lt_of_le_of_lt (Nat.le_trans (List.length_filter_le _ _) (by rw [List.length_take]; omega)) hl
    · rw [ht, List.filter_append, List.filter_cons, e]; simp
    · rw [ht, List.filter_append, List.filter_cons, e]; simp
  · have e : i = zs.length := by omega
    subst e
    rw [List.take_length]
    refine .inl ⟨by show (zs.map c).length ≤ _; rw [List.length_map]; exact Nat.le_refl _, gset_same, ?_⟩
    rw [gdel_gset hD]; simpa using he
theorem lc_stF {J : PIt} {g : PTG} {tt : PTT} {te : PTE} {env : PEn} {G1 : GH} {P : PK1} {D p : Addr} {o0 : GO} (n : Nat) (xf : Nat → PV) (S : Nat → GO → Prop) (R : Nat → PV → Prop) (hD : G1 D = none) (hG : G1 p = some o0) (h0 : S 0 o0) (hl : n < sizeLine)
    (hJ : ∀ i G, i < n → J.item i G (xf i)) (hJe : ∀ G, J.done n G)
    (hs : ∀ i (G : GH) (o : GO) (Ky : PK1) (Kn : GH → Prop), i < n → G p = some o → S i o → (∀ a u, a ≠ p → G1 a = some u → G a = some u) → (∀ y o', R i y → S (i + 1) o' → Ky y (gset G p o')) → lcTurn g tt te (xf i) env G Ky Kn)
    (he : ∀ (ys : List PV) (o' : GO), ys.length = n → (∀ i y, ys[i]? = some y → R i y) → S n o' → P (.lst (ys)) (gset G1 p o')) : ∃ (I : Nat → List PV → GH → Prop) (n : Nat), I 0 [] (gset G1 D (.lst [])) ∧ ∀ i acc G, i ≤ n → I i acc G →
      ((J).done i G ∧ G D = some (.lst acc) ∧ (if false = true then P (.ref D) G else P (.lst acc) (gdel G D))) ∨
      (i < n ∧ ∃ x, (J).item i G x ∧ g x env G (fun env2 G2 => tt env2 G2 (fun b G3 => if b = true then te env2 G3 (fun y G4 => G4 D = some (.lst acc) ∧ acc.length < sizeLine ∧ I (i + 1) (acc ++ [y]) (gset G4 D (.lst (acc ++ [y])))) noX else I (i + 1) acc G3) noX) noX) :=
  lc_st false n xf S R hD hG h0 hl hJ hJe hs (by simpa using he)
theorem lc_pureT {xs : List PV} {g : PTG} {tt : PTT} {te : PTE} {env : PEn} {G1 : GH} {P : PK1} {D : Addr} (f : PV → Option PV) (hD : G1 D = none) (hl : xs.length < sizeLine)
    (hs : ∀ x ∈ xs, ∀ (G : GH) (Ky : PK1) (Kn : GH → Prop), Sub G1 G → (∀ y, f x = some y → Ky y G) → (f x = none → Kn G) → lcTurn g tt te x env G Ky Kn)
    (he : P (.ref D) (gset (G1) D (.lst (xs.filterMap f)))) : ∃ (I : Nat → List PV → GH → Prop) (n : Nat), I 0 [] (gset G1 D (.lst [])) ∧ ∀ i acc G, i ≤ n → I i acc G →
      ((itL xs).done i G ∧ G D = some (.lst acc) ∧ (if true = true then P (.ref D) G else P (.lst acc) (gdel G D))) ∨
      (i < n ∧ ∃ x, (itL xs).item i G x ∧ g x env G (fun env2 G2 => tt env2 G2 (fun b G3 => if b = true then te env2 G3 (fun y G4 => G4 D = some (.lst acc) ∧ acc.length < sizeLine ∧ I (i + 1) (acc ++ [y]) (gset G4 D (.lst (acc ++ [y])))) noX else I (i + 1) acc G3) noX) noX) :=
  lc_pure true f hD hl hs (by simpa using he)
/-- the same over told things c z, a kept one giving h z -/
theorem lc_mapT {α : Type} {xs : List PV} {g : PTG} {tt : PTT} {te : PTE} {env : PEn} {G1 : GH} {P : PK1} {D : Addr} (c : α → PV) (keep : α → Bool) (h : α → PV) (zs : List α) (hx : xs = zs.map c) (hD : G1 D = none) (hl : zs.length < sizeLine)
    (hs : ∀ z ∈ zs, ∀ (G : GH) (Ky : PK1) (Kn : GH → Prop), Sub G1 G → (keep z = true → Ky (h z) G) → (keep z = false → Kn G) → lcTurn g tt te (c z) env G Ky Kn)
    (he : P (.ref D) (gset (G1) D (.lst ((zs.filter keep).map h)))) : ∃ (I : Nat → List PV → GH → Prop) (n : Nat), I 0 [] (gset G1 D (.lst [])) ∧ ∀ i acc G, i ≤ n → I i acc G →
      ((itL xs).done i G ∧ G D = some (.lst acc) ∧ (if true = true then P (.ref D) G else P (.lst acc) (gdel G D))) ∨
      (i < n ∧ ∃ x, (itL xs).item i G x ∧ g x env G (fun env2 G2 => tt env2 G2 (fun b G3 => if b = true then te env2 G3 (fun y G4 => G4 D = some (.lst acc) ∧ acc.length < sizeLine ∧ I (i + 1) (acc ++ [y]) (gset G4 D (.lst (acc ++ [y])))) noX else I (i + 1) acc G3) noX) noX) := by
  subst hx
  refine ⟨fun i acc G => acc = ((zs.take i).filter keep).map h ∧ G = gset G1 D (.lst acc), zs.length, ⟨rfl, rfl⟩, fun i acc G hi e => ?_⟩
  obtain ⟨rfl, rfl⟩ := e
  by_cases l : i < zs.length
  · refine .inr ⟨l, c zs[i], ?_, ?_⟩
    · show (zs.map c)[i]? = _
      rw [List.getElem?_map, List.getElem?_eq_getElem l]
      rfl
    have ht : zs.take (i + 1) = zs.take i ++ [zs[i]] := by rw [List.take_add_one, List.getElem?_eq_getElem l]; rfl
    refine hs _ (List.getElem_mem l) _ _ _ (Sub.new hD) (fun e => ⟨gset_same, ?_, ?_, gset_gset⟩) (fun e => ⟨?_, rfl⟩)
    · rw [List.length_map]
      exact Nat.lt_of_le_of_lt (Nat.le_trans (List.length_filter_le _ _) (by rw [List.length_take]; omega)) hl
    · rw [ht, List.filter_append, List.filter_cons, e]; simp
    · rw [ht, List.filter_append, List.filter_cons, e]; simp
  · have e : i = zs.length := by omega
    subst e
    rw [List.take_length]
    refine .inl ⟨by show (zs.map c).length ≤ _; rw [List.length_map]; exact Nat.le_refl _, gset_same, ?_⟩
    simpa using he
theorem lc_stT {J : PIt} {g : PTG} {tt : PTT} {te : PTE} {env : PEn} {G1 : GH} {P : PK1} {D p : Addr} {o0 : GO} (n : Nat) (xf : Nat → PV) (S : Nat → GO → Prop) (R : Nat → PV → Prop) (hD : G1 D = none) (hG : G1 p = some o0) (h0 : S 0 o0) (hl : n < sizeLine)
    (hJ : ∀ i G, i < n → J.item i G (xf i)) (hJe : ∀ G, J.done n G)
    (hs : ∀ i (G : GH) (o : GO) (Ky : PK1) (Kn : GH → Prop), i < n → G p = some o → S i o → (∀ a u, a ≠ p → G1 a = some u → G a = some u) → (∀ y o', R i y → S (i + 1) o' → Ky y (gset G p o')) → lcTurn g tt te (xf i) env G Ky Kn)
    (he : ∀ (ys : List PV) (o' : GO), ys.length = n → (∀ i y, ys[i]? = some y → R i y) → S n o' → P (.ref D) (gset (gset G1 p o') D (.lst (ys)))) : ∃ (I : Nat → List PV → GH → Prop) (n : Nat), I 0 [] (gset G1 D (.lst [])) ∧ ∀ i acc G, i ≤ n → I i acc G →
      ((J).done i G ∧ G D = some (.lst acc) ∧ (if true = true then P (.ref D) G else P (.lst acc) (gdel G D))) ∨
      (i < n ∧ ∃ x, (J).item i G x ∧ g x env G (fun env2 G2 => tt env2 G2 (fun b G3 => if b = true then te env2 G3 (fun y G4 => G4 D = some (.lst acc) ∧ acc.length < sizeLine ∧ I (i + 1) (acc ++ [y]) (gset G4 D (.lst (acc ++ [y])))) noX else I (i + 1) acc G3) noX) noX) :=
  lc_st true n xf S R hD hG h0 hl hJ hJe hs (by simpa using he)
theorem ints_of : ∀ {ys : List PV}, (∀ y ∈ ys, ∃ z : Int, y = .int z) → ∃ zs : List Int, ys = zs.map .int
  | [], _ => ⟨[], rfl⟩
  | y :: ys, h => by
    obtain ⟨z, rfl⟩ := h y List.mem_cons_self
    obtain ⟨zs, rfl⟩ := ints_of fun y hy => h y (List.mem_cons_of_mem _ hy)
    exact ⟨z :: zs, rfl⟩
theorem lc_allF {α : Type} {xs : List PV} {g : PTG} {tt : PTT} {te : PTE} {env : PEn} {G1 : GH} {P : PK1} {D : Addr} (c : α → PV) (h : α → PV) (zs : List α) (hx : xs = zs.map c) (hD : G1 D = none) (hl : zs.length < sizeLine)
    (hs : ∀ z ∈ zs, ∀ (G : GH) (Ky : PK1) (Kn : GH → Prop), Sub G1 G → Ky (h z) G → lcTurn g tt te (c z) env G Ky Kn)
    (he : P (.lst (zs.map h)) (G1)) : ∃ (I : Nat → List PV → GH → Prop) (n : Nat), I 0 [] (gset G1 D (.lst [])) ∧ ∀ i acc G, i ≤ n → I i acc G →
      ((itL xs).done i G ∧ G D = some (.lst acc) ∧ (if false = true then P (.ref D) G else P (.lst acc) (gdel G D))) ∨
      (i < n ∧ ∃ x, (itL xs).item i G x ∧ g x env G (fun env2 G2 => tt env2 G2 (fun b G3 => if b = true then te env2 G3 (fun y G4 => G4 D = some (.lst acc) ∧ acc.length < sizeLine ∧ I (i + 1) (acc ++ [y]) (gset G4 D (.lst (acc ++ [y])))) noX else I (i + 1) acc G3) noX) noX) :=
  lc_mapF c (fun _ => true) h zs hx hD hl (fun z hz G Ky Kn hg h1 _ => hs z hz G Ky Kn hg (h1 rfl)) (by rw [List.filter_eq_self.mpr fun _ _ => rfl]; exact he)
theorem lc_allT {α : Type} {xs : List PV} {g : PTG} {tt : PTT} {te : PTE} {env : PEn} {G1 : GH} {P : PK1} {D : Addr} (c : α → PV) (h : α → PV) (zs : List α) (hx : xs = zs.map c) (hD : G1 D = none) (hl : zs.length < sizeLine)
    (hs : ∀ z ∈ zs, ∀ (G : GH) (Ky : PK1) (Kn : GH → Prop), Sub G1 G → Ky (h z) G → lcTurn g tt te (c z) env G Ky Kn)
    (he : P (.ref D) (gset (G1) D (.lst (zs.map h)))) : ∃ (I : Nat → List PV → GH → Prop) (n : Nat), I 0 [] (gset G1 D (.lst [])) ∧ ∀ i acc G, i ≤ n → I i acc G →
      ((itL xs).done i G ∧ G D = some (.lst acc) ∧ (if true = true then P (.ref D) G else P (.lst acc) (gdel G D))) ∨
      (i < n ∧ ∃ x, (itL xs).item i G x ∧ g x env G (fun env2 G2 => tt env2 G2 (fun b G3 => if b = true then te env2 G3 (fun y G4 => G4 D = some (.lst acc) ∧ acc.length < sizeLine ∧ I (i + 1) (acc ++ [y]) (gset G4 D (.lst (acc ++ [y])))) noX else I (i + 1) acc G3) noX) noX) :=
  lc_mapT c (fun _ => true) h zs hx hD hl (fun z hz G Ky Kn hg h1 _ => hs z hz G Ky Kn hg (h1 rfl)) (by rw [List.filter_eq_self.mpr fun _ _ => rfl]; exact he)
end PL
end

section
namespace PL
open PySem PySem.Spec PyProof.Rows L2 RZ
/-! ### repr of plain data with small numbers -/
mutual
def PV.sm : PV → Bool
  | .non => true
  | .int i => decide (i.natAbs ≤ 999999999999)
  | .tup xs => smA xs
  | .lst xs => smA xs
  | _ => false
def smA : List PV → Bool
  | [] => true
  | x :: xs => x.sm && smA xs
end
mutual
def PV.wt : PV → Nat
  | .int _ => 40
  | .tup xs => wtA xs
  | .lst xs => wtA xs
  | _ => 0
def wtA : List PV → Nat
  | [] => 0
  | x :: xs => x.wt + 1 + wtA xs
end
theorem log2_small {n : Nat} (h : n ≤ 999999999999) : n.log2 < 40 := by
  by_cases z : n = 0
  · subst z; decide
  · exact (Nat.log2_lt z).mpr (by omega)
mutual
theorem sm_leaf : ∀ x : PV, x.sm = true → x.dat.leavesShort 13 = true ∧ x.dat.showable = true ∧ x.dat.weight ≤ x.wt
  | .non, _ => by simp only [PV.dat, PyData.leavesShort, PyData.showable, PyData.weight, PV.wt]; exact ⟨True.intro, True.intro, Nat.le_refl _⟩
  | .int i, h => by
    have h' : i.natAbs ≤ 999999999999 := by simpa only [PV.sm, decide_eq_true_eq] using h
    have l := log2_small h'
    simp only [PV.dat, PyData.leavesShort, PyData.showable, PyData.weight, PV.wt, decide_eq_true_eq]
    refine ⟨PyData.shown_int_le2 (by omega) (by omega), by omega, ?_⟩
    split <;> omega
  | .tup xs, h => by
    simp only [PV.dat, PyData.leavesShort, PyData.showable, PyData.weight, PV.wt]
    exact smA_leaf xs (by simpa only [PV.sm] using h)
  | .lst xs, h => by
    simp only [PV.dat, PyData.leavesShort, PyData.showable, PyData.weight, PV.wt]
    exact smA_leaf xs (by simpa only [PV.sm] using h)
  | .bl _, h => by simp only [PV.sm] at h; cases h
  | .str _, h => by simp only [PV.sm] at h; cases h
  | .ref _, h => by simp only [PV.sm] at h; cases h
  | .ty _, h => by simp only [PV.sm] at h; cases h
  | .scr _, h => by simp only [PV.sm] at h; cases h
theorem smA_leaf : ∀ xs : List PV, smA xs = true → PyData.leavesShortAll 13 (dats xs) = true ∧ PyData.showableAll (dats xs) = true ∧ PyData.weightAll (dats xs) ≤ wtA xs
  | [], _ => by simp only [dats, PyData.leavesShortAll, PyData.showableAll, PyData.weightAll, wtA]; exact ⟨True.intro, True.intro, Nat.le_refl _⟩
  | x :: xs, h => by
    have h' : x.sm = true ∧ smA xs = true := by simpa only [smA, Bool.and_eq_true] using h
    obtain ⟨a1, a2, a3⟩ := sm_leaf x h'.1
    obtain ⟨b1, b2, b3⟩ := smA_leaf xs h'.2
    simp only [dats, PyData.leavesShortAll, PyData.showableAll, PyData.weightAll, wtA, a1, a2, b1, b2, Bool.and_self]
    exact ⟨True.intro, True.intro, by omega⟩
end
mutual
theorem sm_pl : ∀ x : PV, x.sm = true → x.pl = true
  | .non, _ => by simp only [PV.pl]
  | .int _, _ => by simp only [PV.pl]
  | .tup xs, h => by simp only [PV.pl]; exact smA_pl xs (by simpa only [PV.sm] using h)
  | .lst xs, h => by simp only [PV.pl]; exact smA_pl xs (by simpa only [PV.sm] using h)
  | .bl _, h => by simp only [PV.sm] at h; cases h
  | .str _, h => by simp only [PV.sm] at h; cases h
  | .ref _, h => by simp only [PV.sm] at h; cases h
  | .ty _, h => by simp only [PV.sm] at h; cases h
  | .scr _, h => by simp only [PV.sm] at h; cases h
theorem smA_pl : ∀ xs : List PV, smA xs = true → plA xs = true
  | [], _ => by simp only [plA]
  | x :: xs, h => by
    have h' : x.sm = true ∧ smA xs = true := by simpa only [smA, Bool.and_eq_true] using h
    simp only [plA, sm_pl x h'.1, smA_pl xs h'.2, Bool.and_self]
end
theorem smA_mem : ∀ {xs : List PV}, (∀ x ∈ xs, x.sm = true) → smA xs = true
  | [], _ => by simp only [smA]
  | x :: xs, h => by simp only [smA, h x List.mem_cons_self, smA_mem fun y hy => h y (List.mem_cons_of_mem _ hy), Bool.and_self]
theorem wtA_mem {n : Nat} : ∀ {xs : List PV}, (∀ x ∈ xs, x.wt ≤ n) → wtA xs ≤ xs.length * (n + 1)
  | [], _ => by simp only [wtA, List.length_nil]; omega
  | x :: xs, h => by
    have h1 := h x List.mem_cons_self
    have h2 := wtA_mem fun y hy => h y (List.mem_cons_of_mem _ hy)
    simp only [wtA, List.length_cons, Nat.succ_mul]
    omega
theorem rRepr_pl {G : GH} {x : PV} {P : PK1} (h : x.sm = true) (hd : x.dep ≤ 64) (hw : x.wt ≤ 600000) (ht : tyP G x = some "tuple" ∨ tyP G x = some "list") (q : P (.str x.dat.shown) G) : rRepr [x] G P := by
  have hp := sm_pl x h
  obtain ⟨h1, h2, h3⟩ := sm_leaf x h
  show (match datOf G x with
      | some d => d.canLay0 = true ∧ d.depth ≤ 64 ∧ d.showable = true ∧ d.shown.length ≤ sizeLine ∧ (tyP G x = some "tuple" ∨ tyP G x = some "list") ∧ P (.str d.shown) G
      | none => False)
  rw [datOf_pl hp]
  refine ⟨pl_lay x hp, by rw [pl_dep x hp]; exact hd, h2, ?_, ht, q⟩
  have := PyData.shown_le 13 (by decide) x.dat h1
  refine small ?_
  omega
theorem cutP_take {xs : List PV} {k : Nat} : cutP xs none (some (k : Int)) = xs.take k := by
  unfold cutP
  have e : HT.sIx xs.length xs.length (some (k : Int)) = min k xs.length := HT.sIx_nat _ _ k
  rw [e, HT.sIx_none, List.drop_zero, Nat.sub_zero]
  by_cases h : k ≤ xs.length
  · rw [Nat.min_eq_left h]
  · rw [Nat.min_eq_right (by omega), List.take_of_length_le (Nat.le_refl _), List.take_of_length_le (by omega)]
theorem cutP_drop {xs : List PV} {k : Nat} : cutP xs (some (k : Int)) none = xs.drop k := by
  unfold cutP
  have e : HT.sIx xs.length 0 (some (k : Int)) = min k xs.length := HT.sIx_nat _ _ k
  rw [e, HT.sIx_none]
  by_cases h : k ≤ xs.length
  · rw [Nat.min_eq_left h, List.take_of_length_le (by rw [List.length_drop]; omega)]
  · rw [Nat.min_eq_right (by omega), List.drop_of_length_le (Nat.le_refl _), List.drop_of_length_le (by omega), List.take_nil]
theorem cutP_take_i {xs : List PV} {k : Int} (h : 0 ≤ k) : cutP xs none (some k) = xs.take k.toNat := by
  have := cutP_take (xs := xs) (k := k.toNat)
  rwa [show ((k.toNat : Nat) : Int) = k by omega] at this
theorem cutP_drop_i {xs : List PV} {k : Int} (h : 0 ≤ k) : cutP xs (some k) none = xs.drop k.toNat := by
  have := cutP_drop (xs := xs) (k := k.toNat)
  rwa [show ((k.toNat : Nat) : Int) = k by omega] at this
theorem rIdx_t {x : PV} {vs : List PV} {G : GH} {P : PK1} (h : rIdxT x vs G P) : rIdx "tuple" x vs G P := by unfold rIdx; rw [if_pos rfl]; exact h
theorem rIdx_l {x : PV} {vs : List PV} {G : GH} {P : PK1} (h : rIdxL x vs G P) : rIdx "list" x vs G P := by unfold rIdx; rw [if_neg (by decide)]; exact h
theorem rFrz_of {G : GH} {a : Addr} {xs : List PV} {P : PK1} (h : G a = some (.lst xs)) (q : P (.lst xs) (gdel G a)) : (match (PV.ref a) with
  | .ref a => match G a with
    | some (.lst xs) => P (.lst xs) (gdel G a)
    | _ => False
  | _ => False) := by
  show (match G a with
    | some (.lst xs) => P (.lst xs) (gdel G a)
    | _ => False)
  rw [h]
  exact q
theorem rSl_lst {xs : List PV} {lo hi : Option Int} {G : GH} {P : PK1} (h : P (.lst (cutP xs lo hi)) G) : PL.rSl (.lst xs) lo hi G P := h
theorem rSl_tup {xs : List PV} {lo hi : Option Int} {G : GH} {P : PK1} (h : P (.tup (cutP xs lo hi)) G) : PL.rSl (.tup xs) lo hi G P := h
theorem rSl_own {a : Addr} {xs : List PV} {lo hi : Option Int} {G : GH} {P : PK1} (e : G a = some (.lst xs)) (h : P (.lst (cutP xs lo hi)) G) : PL.rSl (.ref a) lo hi G P := by
  show (match ownL G a with
    | some xs => P (.lst (cutP xs lo hi)) G
    | none => False)
  rw [ownL_of e]
  exact h
/-- two owned objects, each set anew -/
theorem gset_4 {G : GH} {p b : Addr} {x y z u : GO} (h : b ≠ p) : gset (gset (gset (gset G p x) b y) p z) b u = gset (gset G p z) b u := by
  funext c
  unfold gset
  by_cases e : c = b
  · subst e; simp
  · by_cases e2 : c = p
    · subst e2; simp [e]
    · simp [e, e2]
theorem gset_3 {G : GH} {p b : Addr} {x y z : GO} (h : b ≠ p) : gset (gset (gset G p x) b y) p z = gset (gset G p z) b y := by
  funext c
  unfold gset
  by_cases e : c = b
  · subst e; simp [h]
  · by_cases e2 : c = p
    · subst e2; simp [e]
    · simp [e, e2]
theorem ite_f {b : Bool} {A B : Prop} (e : b = false) (h : B) : if b = true then A else B := by rw [e]; exact h
theorem ite_t {b : Bool} {A B : Prop} (e : b = true) (h : A) : if b = true then A else B := by rw [e]; exact h
theorem bools_true {α : Type} : ∀ zs : List α, bools (zs.map fun _ => PV.bl true) = some (zs.map fun _ => true)
  | [] => rfl
  | z :: zs => by show (bools (zs.map fun _ => PV.bl true)).map _ = _; rw [bools_true zs]; rfl
theorem rAll_true {α : Type} {zs : List α} {G : GH} {P : PK1} (q : P (.bl true) G) : rAllB [.lst (zs.map fun _ => .bl true)] G P := by
  show (match bools (zs.map fun _ => PV.bl true) with
    | some bs => P (.bl (bs.all id)) G
    | none => False)
  rw [bools_true]
  have e : (zs.map fun _ => true).all id = true := by rw [List.all_map]; exact List.all_eq_true.mpr fun _ _ => rfl
  show P (.bl ((zs.map fun _ => true).all id)) G
  rw [e]
  exact q
theorem zipA_of {x y : PV} {xs ys : List PV} {G : GH} {R : PIt → GH → Prop} (hx : lstS G x = some xs) (hy : lstS G y = some ys) (r : R (itZ x y) G) : zipA x y G R := by
  cases x <;> first | (cases hx; done) | exact ⟨by rw [hx]; rfl, by rw [hy]; rfl, r⟩
theorem seqOf_lstS {G : GH} {y : PV} {ys : List PV} (h : lstS G y = some ys) : seqOf G y = some ys := by
  cases y <;> first | exact h | cases h
theorem lstS_new {G : GH} {y : PV} {ys : List PV} {a : Addr} {o : GO} (h : lstS G y = some ys) (ha : G a = none) : lstS (gset G a o) y = some ys := by
  cases y with
  | ref b =>
    have e := ownL_eq (show ownL G b = some ys from h)
    have ne : b ≠ a := fun z => by rw [z, ha] at e; cases e
    exact ownL_of (by rw [gset_ne ne]; exact e)
  | _ => exact h
theorem rClear_of {G : GH} {a : Addr} {xs : List PV} {P : PK1} (h : G a = some (.lst xs)) (q : P .non (gset G a (.lst []))) : rClear (.ref a) [] G P := by
  show (match G a with
    | some (.lst xs) => P .non (gset G a (.lst []))
    | _ => False)
  rw [h]
  exact q
/-- a list in a tuple is frozen -/
theorem rFrzT_of {G : GH} {i : Nat} {xs ys : List PV} {a : Addr} {P : PK1} (hi : xs[i]? = some (.ref a)) (h : G a = some (.lst ys)) (q : P (.tup (xs.set i (.lst ys))) (gdel G a)) : (match (PV.tup xs) with
  | .tup xs => (match xs[i]? with
    | some (.ref a) => (match ownL G a with
      | some ys => P (.tup (xs.set i (.lst ys))) (gdel G a)
      | none => False)
    | _ => False)
  | _ => False) := by
  show (match xs[i]? with
    | some (.ref a) => (match ownL G a with
      | some ys => P (.tup (xs.set i (.lst ys))) (gdel G a)
      | none => False)
    | _ => False)
  rw [hi]
  show (match ownL G a with
      | some ys => P (.tup (xs.set i (.lst ys))) (gdel G a)
      | none => False)
  rw [ownL_of h]
  exact q
end PL
end

section
/-! POps6: own classes, what is never reached, locks of dicts, pop and get. -/
namespace PL
open PySem PySem.Spec PyProof.Rows L2 RZ

theorem repA_nil_inv {K : PySem.W.Frag} {F : Hp} {xs : List PV} (h : RepA K F [] xs) : xs = [] := by cases h; rfl
/-! ### fields -/
theorem RepD.look {K : PySem.W.Frag} {F : Hp} (f : Str) : ∀ {vs : List (Str × V)} {xs : List (Str × PV)}, RepD K F vs xs → (∀ x, xs.lookup f = some x → ∃ v, vs.lookup f = some v ∧ Rep K F v x) ∧ (xs.lookup f = none → vs.lookup f = none)
  | [], [], _ => ⟨fun x e => (by cases e), fun _ => rfl⟩
  | [], _ :: _, h => by have := h.1; simp at this
  | _ :: _, [], h => by have := h.1; simp at this
  | (k, v) :: vs, (j, x) :: xs, h => by
    obtain ⟨h1, h2⟩ := h
    have ek : k = j := by injection h1
    have et : vs.map (·.1) = xs.map (·.1) := by injection h1
    subst ek
    cases h2 with
    | cons ra rt =>
      have ih := RepD.look f (vs := vs) (xs := xs) ⟨et, rt⟩
      by_cases e : f = k
      · subst e
        simp only [List.lookup, beq_self_eq_true]
        exact ⟨fun y q => (by cases q; exact ⟨v, rfl, ra⟩), fun q => (by cases q)⟩
      · have hb : (f == k) = false := beq_eq_false_iff_ne.mpr e
        simp only [List.lookup, hb]
        exact ih
def putS (f : Str) (v : PV) : List (Str × PV) → List (Str × PV)
  | [] => [(f, v)]
  | (g, x) :: r => if g = f then (g, v) :: r else (g, x) :: putS f v r
theorem RepD.putS {K : PySem.W.Frag} {F : Hp} {f : Str} {v : V} {x : PV} (h : Rep K F v x) : ∀ {vs : List (Str × V)} {xs : List (Str × PV)}, RepD K F vs xs → RepD K F (putF f v vs) (putS f x xs)
  | [], [], _ => ⟨rfl, .cons h .nil⟩
  | [], _ :: _, q => by have := q.1; simp at this
  | _ :: _, [], q => by have := q.1; simp at this
  | (k, v') :: vs, (j, x') :: xs, q => by
    obtain ⟨h1, h2⟩ := q
    have ek : k = j := by injection h1
    have et : vs.map (·.1) = xs.map (·.1) := by injection h1
    subst ek
    cases h2 with
    | cons ra rt =>
      have ih := RepD.putS (f := f) h (vs := vs) (xs := xs) ⟨et, rt⟩
      unfold PL.putS putF
      by_cases e : k = f
      · rw [if_pos e, if_pos e]
        exact ⟨by show k :: vs.map (·.1) = k :: xs.map (·.1); rw [et], .cons h rt⟩
      · rw [if_neg e, if_neg e]
        exact ⟨by show k :: (putF f v vs).map (·.1) = k :: (PL.putS f x xs).map (·.1); rw [ih.1], .cons ra ih.2⟩
def pFld (C : Addr) (f : Str) (te : PTE) (env : PEn) (G : GH) (P : PK1) (Ex : PXK) : Prop := te env G (fun x G1 => match x with
  | .ref a => (match G1 a with
    | some (.ins D fs) => D = C ∧ (match fs.lookup f with
      | some v => P v G1
      | none => False)
    | _ => False)
  | _ => False) Ex
def pSetF (C : Addr) (f : Str) (to tv : PTE) (D : PEnds) (env : PEn) (G : GH) : Prop := tv env G (fun y G1 => to env G1 (fun x G2 => match x with
  | .ref a => (match G2 a with
    | some (.ins E fs) => E = C ∧ fs.length < 1000 ∧ D.nx env (gset G2 a (.ins C (putS f y fs)))
    | _ => False)
  | _ => False) D.xs) D.xs
def pMeth (C : Addr) (m : Str) (psp : PSp) (to : PTE) (t : PTA) (env : PEn) (G : GH) (P : PK1) (Ex : PXK) : Prop := to env G (fun x G1 => match x with
  | .ref a => (match G1 a with
    | some (.ins D fs) => D = C ∧ fs.lookup m = none ∧ t env G1 (fun xs G2 => psp (.ref a :: xs) G2 P (fun c G3 => Ex c env G3)) Ex
    | _ => False)
  | _ => False) Ex
def pMake (C : Addr) (psp : PSp) (t : PTA) (env : PEn) (G : GH) (P : PK1) (Ex : PXK) : Prop := t env G (fun xs G1 => ∀ p, G1 p = none → psp (.ref p :: xs) (gset G1 p (.ins C [])) (fun v G2 => v = .non ∧ P (.ref p) G2) (fun c G3 => Ex c env G3)) Ex
section
variable {X : Cx} {C : Addr} {f m x : Str} {e o value : Expr} {es : List Expr} {te to tv : PTE} {t : PTA} {p pos pos' apos : Pos} {k : Nat} {fa : Addr} {fd : FuncData} {ps : List Str} {psp : PSp}
theorem qe_fld (c : Cls X.K C) (n : NoAttr X.K C f) (he : QE X e te) (hb : attributeBase e f X.env (eval e X.env) = eval e X.env := by rfl) : QE X (.Attribute e f pos) (pFld C f te) := by
  refine ⟨fun W tk F H G σ env P Ex Q hr hv h lq lx => we_of (pe_fld pe_we hb) ?_⟩
  refine he.run W tk F H G σ env _ Ex _ hr hv h (fun F1 H1 G1 v x s1 r1 rv h1 => ?_) lx
  cases x with
  | ref a =>
    cases rv
    dsimp only at h1
    split at h1
    · rename_i D fs ga
      obtain ⟨rfl, h1⟩ := h1
      obtain ⟨_, dx, vs, e1, rd⟩ := r1.own _ _ ga
      split at h1
      · rename_i v ev
        obtain ⟨u, e2, ru⟩ := (rd.look f).1 v ev
        exact ⟨a, D, dx, vs, u, rfl, e1, c, n, e2, lq F1 H1 G1 _ _ s1 r1 ru h1⟩
      · exact h1.elim
    · exact h1.elim
  | _ => exact h1.elim
theorem qs_fld (c : Cls X.K C) (n : NoAttr X.K C f) (ho : QE X o to) (hv : QE X value tv) (hs : swapsWith value (some (.Attribute o f pos')) pos.line X.env = pure false := by rfl) : QS X (.Assign [.Attribute o f pos'] value pos) (pSetF C f to tv) := by
  refine ⟨fun W tk F H G σ env P D hr hvs h ld lx => ws_of (ps_fld pe_we pe_we hs) ?_⟩
  refine hv.run W tk F H G σ env _ _ _ hr hvs h (fun F1 H1 G1 v y s1 r1 rv h1 => ?_) lx
  refine ho.run W tk F1 H1 G1 σ env _ _ _ r1 (hvs.mono s1) h1 (fun F2 H2 G2 u x s2 r2 ru h2 => ?_) (lx.mono s1)
  cases x with
  | ref a =>
    cases ru
    dsimp only at h2
    split at h2
    · rename_i E fs ga
      obtain ⟨rfl, h3, h4⟩ := h2
      obtain ⟨n0, dx, vs, e1, rd⟩ := r2.own _ _ ga
      have hl : vs.length = fs.length := by have := congrArg List.length rd.1; rwa [List.length_map, List.length_map] at this
      refine ⟨a, E, dx, vs, rfl, e1, c, n, by rw [hl]; exact h3, ?_⟩
      exact ld.nx F2 _ _ σ env (s1.trans s2) (r2.owned (g := .ins E (putS f y fs)) n0 ⟨dx, _, upd_same, rd.putS (Rep.mono s2 _ _ rv)⟩) ((hvs.mono s1).mono s2) h4
    · exact h2.elim
  | _ => exact h2.elim

/-! ### own methods -/
theorem qe_meth {pl : Sem Bool} (c : Cls X.K C) (hm : Meth X.K C m fa) (F : FnP X.prog X.w X.K X.mg X.base k fa fd ps psp) (hgd : X.A.guards = some []) (hr : Room k X.A) (hb : Binds X.K fd ps []) (ho : QE X o to) (ha : QA X (e :: es) t)
    (hst : starEach (e :: es) X.env = (false, eval e X.env) :: starEach es X.env := by rfl) (hpl : (backTo pos (starEach es X.env)).any (·.1) = false := by rfl)
    (ht : eval (.Call (.Attribute o m apos) (e :: es) [] pos) X.env = (do
      let ov ← eval o X.env
      standAt apos.atName
      let (f, first) ← holding [ov] (getMethod ov m pl)
      callWith pos f first (backTo pos (starEach (e :: es) X.env)) (backToKw pos (keywordEach [] X.env))) := by rfl) :
    QE X (.Call (.Attribute o m apos) (e :: es) [] pos) (pMeth C m psp to t) := by
  refine ⟨fun W tk F0 H G σ env P Ex Q hrl hv h lq lx pins s I => ?_⟩
  have hO : WE X o σ H (fun x H1 => ∃ a dx fs, x = .ref a ∧ H1 a = some (.ins C dx fs) ∧ fs.lookup m = none ∧ WA X (e :: es) σ H1 (fun vs H2 => spOf X.K psp (.ref a :: vs) H2 Q (L2.WE W σ))) := by
    refine ho.run W tk F0 H G σ env _ Ex _ hrl hv h (fun F1 H1 G1 v x s1 r1 rv h1 => ?_) lx
    cases x with
    | ref a =>
      cases rv
      dsimp only at h1
      split at h1
      · rename_i D fs ga
        obtain ⟨rfl, h2, h3⟩ := h1
        obtain ⟨_, dx, vs, e1, rd⟩ := r1.own _ _ ga
        refine ⟨a, dx, vs, rfl, e1, (rd.look m).2 h2, ?_⟩
        exact ha.run W tk F1 H1 G1 σ env _ Ex _ r1 (hv.mono s1) h3 (fun F2 H2 G2 us xs s2 r2 rvs h4 => ⟨F2, G2, _, P, _, r2, .cons (.ref a) rvs, h4, (lq.mono s1).mono s2, fun F3 H3 G3 c' s3 r3 q3 => lx F3 H3 G3 σ env c' ((s1.trans s2).trans s3) r3 (hv.mono ((s1.trans s2).trans s3)) q3⟩) (lx.mono s1)
      · exact h1.elim
    | _ => exact h1.elim
  refine PySem.W.methodCall_KW (pl := pl) (thn (hO pins s I) fun u s1 ⟨x, H1, I1, rx, a, dx, fs, ex, ea, l, q⟩ => ?_) ht
  subst ex
  obtain rfl : u = Value.ref a := rx
  refine getmeth_ok I1 ea c hm l ?_
  refine PySem.W.callWith_K (first := [.ref a]) (h₀ := X.base) I.ok.mod.kin hm.kp (thn (q pos pins s1 I1) fun us s2 ⟨vs, H2, I2, r, q2⟩ => ⟨I2.kIn, ?_⟩) hst hpl
  exact run_fnG (us := .ref a :: us) (vs := .ref a :: vs) F hgd hr hb tk I2 (.cons rfl r) q2
theorem qe_meth0 {pl : Sem Bool} (c : Cls X.K C) (hm : Meth X.K C m fa) (F : FnP X.prog X.w X.K X.mg X.base k fa fd ps psp) (hgd : X.A.guards = some []) (hr : Room k X.A) (hb : Binds X.K fd ps []) (ho : QE X o to)
    (ht : eval (.Call (.Attribute o m apos) [] [] pos) X.env = (do
      let ov ← eval o X.env
      standAt apos.atName
      let (f, first) ← holding [ov] (getMethod ov m pl)
      callWith pos f first (backTo pos (starEach [] X.env)) (backToKw pos (keywordEach [] X.env))) := by rfl) :
    QE X (.Call (.Attribute o m apos) [] [] pos) (pMeth C m psp to pNil) := by
  refine ⟨fun W tk F0 H G σ env P Ex Q hrl hv h lq lx pins s I => ?_⟩
  have hO : WE X o σ H (fun x H1 => ∃ a dx fs, x = .ref a ∧ H1 a = some (.ins C dx fs) ∧ fs.lookup m = none ∧ spOf X.K psp [.ref a] H1 Q (L2.WE W σ)) := by
    refine ho.run W tk F0 H G σ env _ Ex _ hrl hv h (fun F1 H1 G1 v x s1 r1 rv h1 => ?_) lx
    cases x with
    | ref a =>
      cases rv
      dsimp only at h1
      split at h1
      · rename_i D fs ga
        obtain ⟨rfl, h2, h3⟩ := h1
        obtain ⟨_, dx, vs, e1, rd⟩ := r1.own _ _ ga
        refine ⟨a, dx, vs, rfl, e1, (rd.look m).2 h2, ?_⟩
        exact ⟨F1, G1, _, P, _, r1, .cons (.ref a) .nil, h3, lq.mono s1, fun F3 H3 G3 c' s3 r3 q3 => lx F3 H3 G3 σ env c' (s1.trans s3) r3 (hv.mono (s1.trans s3)) q3⟩
      · exact h1.elim
    | _ => exact h1.elim
  refine PySem.W.methodCall_KW (pl := pl) (thn (hO pins s I) fun u s1 ⟨x, H1, I1, rx, a, dx, fs, ex, ea, l, q⟩ => ?_) ht
  subst ex
  obtain rfl : u = Value.ref a := rx
  refine getmeth_ok I1 ea c hm l ?_
  exact PySem.W.callWith_K0 (first := [.ref a]) I1.kIn hm.kp (run_fnG (us := [.ref a]) (vs := [.ref a]) F hgd hr hb tk I1 (.cons rfl .nil) q)

/-! ### a new instance -/
theorem run_makeG {pins : List (Addr × Obj)} {σ : List (Option V)} {H : Hp} {s : Shared} {Q : VK} {us : List Value} {vs : List V} {W : WX} {sp : Sp} (M : Mk X.K C fa) (F : FnG X.prog X.w X.K X.mg X.base k fa fd ps sp) (hgd : X.A.guards = some []) (hr : Room (k + 1) X.A) (hb : Binds X.K fd ps []) (tk : Takes X W)
    (I : Inv X pins σ H s) (r : Vals vs us) (hx : ∀ H2 c, L2.WE W σ c none H2 → L2.WE W σ c none H2)
    (h : ∀ x dx, H x = none → H dx = none → dx ≠ x → sp (.ref x :: vs) (upd (upd H dx (.own x)) x (.ins C dx [])) (fun v H2 => v = .non ∧ Q (.ref x) H2) (L2.WE W σ)) :
    wpAny (model X.prog X.w) X.A (call (.ref C) us) (EP X pins σ Q) X.xe s := by
  have hq := h (s.heap.objs.size + 1) s.heap.objs.size (I.hok.fresh (Nat.le_succ _)) (I.hok.fresh (Nat.le_refl _)) (Nat.ne_of_lt (Nat.lt_succ_self _))
  have I2 := Inv.made (C := C) I
  have r2 : Vals (V.ref (s.heap.objs.size + 1) :: vs) (Value.ref (s.heap.objs.size + 1) :: us) := .cons rfl r
  have hl : (Value.ref (s.heap.objs.size + 1) :: us).length = ps.length := by
    have e := r2.length
    rw [F.len _ _ _ _ hq] at e
    exact e.symm
  have b := hb _ (Value.ref (s.heap.objs.size + 1) :: us) I2.kIn (by rw [List.append_nil]; exact hl)
  rw [List.append_nil] at b
  refine wpAny_call (make_map (f := fa) I.kIn M.makes M.init (beq_iff_eq.mp M.fn) (codeAny_mono (F.run _ X.stack _ _ ⟨Value.ref (s.heap.objs.size + 1) :: us, []⟩ (Value.ref (s.heap.objs.size + 1) :: us) _ _ (L2.WE W σ) (show pushGuards [] X.A.guards = some [] by rw [hgd]; rfl) (hr.make C us [])
    (I2.env0.make C us []) b r2 hq) fun r s' hq' => ?_))
  cases r with
  | error e => exact passAt tk σ pins _ _ e s' I2 hq'
  | ok fl =>
    cases fl with
    | ret u =>
      obtain ⟨v, H', I3, rv, ev, q3⟩ := I2.after hq'
      subst ev
      exact ⟨rv, ⟨V.ref (s.heap.objs.size + 1), H', I3, rfl, q3⟩⟩
    | next => exact False.elim hq'
    | brk => exact False.elim hq'
    | cont => exact False.elim hq'
theorem Rl.ins {K : PySem.W.Frag} {F H : Hp} {G : GH} {p dx : Addr} (r : Rl K F H G) (n : H p = none) (nx : H dx = none) (ne : dx ≠ p) : Rl K F (upd (upd H dx (.own p)) p (.ins C dx [])) (gset G p (.ins C [])) := by
  have r1 : Rl K F (upd H dx (.own p)) G := by
    refine ⟨fun b u e => ?_, fun b u e => ?_⟩
    · have z : b ≠ dx := ne_of_none e (r.sub.free nx)
      rw [upd_ne z]; exact r.sub b u e
    · have z : b ≠ dx := gne e (r.free nx)
      obtain ⟨h1, h2⟩ := r.own b u e
      exact ⟨h1, h2.mono (Same.refl F) fun u q => by rw [upd_ne z]; exact q⟩
  exact r1.owned (r.sub.free n) ⟨dx, [], upd_same, rfl, .nil⟩
theorem qe_make (M : Mk X.K C fa) (F : FnP X.prog X.w X.K X.mg X.base k fa fd ps psp) (hgd : X.A.guards = some []) (hr : Room (k + 1) X.A) (hg : Gl X x) (hm : X.mg x = some (.ref C)) (hb : Binds X.K fd ps []) (ha : QA X (e :: es) t)
    (hdb : (x == ("__debug__" : Str)) = false := by decide) (he : starEach (e :: es) X.env = (false, eval e X.env) :: starEach es X.env := by rfl) (hpl : (backTo pos (starEach es X.env)).any (·.1) = false := by rfl) :
    QE X (.Call (.Name x p) (e :: es) [] pos) (pMake C psp t) := by
  refine ⟨fun W tk F1 H G σ env P Ex Q hrl hv h lq lx pins s I => ?_⟩
  refine wpAny_Call_Name_kw (ld_glob I hg hm ?_ hdb)
  have hA : WA X (e :: es) σ H (fun vs H1 => ∀ x dx, H1 x = none → H1 dx = none → dx ≠ x → spOf X.K psp (.ref x :: vs) (upd (upd H1 dx (.own x)) x (.ins C dx [])) (fun v H2 => v = .non ∧ Q (.ref x) H2) (L2.WE W σ)) :=
    ha.run W tk F1 H G σ env _ Ex _ hrl hv h (fun F2 H2 G2 vs xs s2 r2 rvs h2 x dx nx ndx ne => ⟨F2, _, _, _, _, r2.ins nx ndx ne, .cons (.ref x) rvs, h2 x (r2.free nx), fun F3 H3 G3 v y s3 r3 rv q3 => by
      obtain ⟨rfl, q3⟩ := q3
      cases rv
      exact ⟨rfl, lq F3 H3 G3 _ _ (s2.trans s3) r3 (.ref x) q3⟩, fun F3 H3 G3 c s3 r3 q3 => lx F3 H3 G3 σ env c (s2.trans s3) r3 (hv.mono (s2.trans s3)) q3⟩) lx
  exact PySem.W.callWith_K (h₀ := X.base) I.ok.mod.kin M.kp (thn (hA pos pins s I) fun us s1 ⟨vs, H1, I1, r, q⟩ => ⟨I1.kIn, run_makeG M F hgd hr hb tk I1 r (fun _ _ z => z) q⟩) he hpl
theorem qe_make0 (M : Mk X.K C fa) (F : FnP X.prog X.w X.K X.mg X.base k fa fd ps psp) (hgd : X.A.guards = some []) (hr : Room (k + 1) X.A) (hg : Gl X x) (hm : X.mg x = some (.ref C)) (hb : Binds X.K fd ps [])
    (hdb : (x == ("__debug__" : Str)) = false := by decide) : QE X (.Call (.Name x p) [] [] pos) (pMake C psp pNil) := by
  refine ⟨fun W tk F1 H G σ env P Ex Q hrl hv h lq lx pins s I => ?_⟩
  refine wpAny_Call_Name_kw (ld_glob I hg hm ?_ hdb)
  refine PySem.W.callWith_K0 I.kIn M.kp (run_makeG (us := []) (vs := []) M F hgd hr hb tk I .nil (fun _ _ z => z) fun x dx nx ndx ne => ⟨F1, _, _, _, _, hrl.ins nx ndx ne, .cons (.ref x) .nil, h x (hrl.free nx), fun F3 H3 G3 v y s3 r3 rv q3 => by
      obtain ⟨rfl, q3⟩ := q3
      cases rv
      exact ⟨rfl, lq F3 H3 G3 _ _ s3 r3 (.ref x) q3⟩, fun F3 H3 G3 c s3 r3 q3 => lx F3 H3 G3 σ env c s3 r3 (hv.mono s3) q3⟩)
end

/-! ### never reached -/
def pNever (_D : PEnds) (_env : PEn) (_G : GH) : Prop := False
theorem qs_never {X : Cx} {st : Stmt} : QS X st pNever := ⟨fun _ _ _ _ _ _ _ _ _ _ _ h => h.elim⟩
end PL
end

section
/-! POps7: locks of dicts and walks over them, pop and get, sorted, backwards. -/
namespace PL
open PySem PySem.Spec PyProof.Rows L2 RZ

/-! ### locks -/
def pLock (t : PTS) (D : PEnds) (env : PEn) (G : GH) : Prop := ∃ d kvs, G d = some (.dk kvs) ∧ ∀ od vs, t ⟨fun e G' => G' d = some (.fdk od vs kvs) ∧ D.nx e (gset G' d (.dk kvs)), fun v G' => G' d = some (.fdk od vs kvs) ∧ D.rt v (gset G' d (.dk kvs)),
  fun e G' => G' d = some (.fdk od vs kvs) ∧ D.bk e (gset G' d (.dk kvs)), fun e G' => G' d = some (.fdk od vs kvs) ∧ D.ct e (gset G' d (.dk kvs)), fun _ _ _ => False⟩ env (gset G d (.fdk od vs kvs))
def pLockE (t : PTE) (env : PEn) (G : GH) (P : PK1) (Ex : PXK) : Prop := ∃ d kvs, G d = some (.dk kvs) ∧ ∀ od vs, t env (gset G d (.fdk od vs kvs)) (fun v G' => G' d = some (.fdk od vs kvs) ∧ P v (gset G' d (.dk kvs))) fun _ _ _ => False
section
variable {X : Cx}
theorem Rl.unlock {K : PySem.W.Frag} {F F' H H' : Hp} {G : GH} {d : Addr} {od : Obj} {vs : List (Key × V)} {kvs : List (Key × PV)} (r : Rl K F' H' G) (e : G d = some (.fdk od vs kvs)) : H' d = some (.frz od (.dK vs)) ∧ Rl K F' (upd H' d (.dK vs)) (gset G d (.dk kvs)) := by
  obtain ⟨n, h1, h2⟩ := r.own _ _ e
  exact ⟨h1, r.owned n ⟨vs, upd_same, h2⟩⟩
theorem qs_lock {st : Stmt} {t : PTS} (h : QS X st t) : QS X st (pLock t) := by
  refine ⟨fun W tk F H G σ env P D hr hv hh ld lx => ws_of (ps_lock ⟨fun pins s σ H D I q => q pins s I⟩ (t := fun D σ H => WS X st D σ H)) ?_⟩
  obtain ⟨d, kvs, gd, hh⟩ := hh
  obtain ⟨n, vs, h1, h2⟩ := hr.own _ _ gd
  refine ⟨d, .dK vs, h1, True.intro, fun od => ?_⟩
  refine h.run W tk F _ _ σ env _ _ (hr.owned (g := .fdk od vs kvs) n ⟨upd_same, h2⟩) hv (hh od vs) ⟨?_, ?_, ?_, ?_⟩ fun _ _ _ _ _ _ _ _ _ z => z.elim
  · intro F' H' G' σ' env' s r v q
    obtain ⟨e, q⟩ := q
    obtain ⟨u1, u2⟩ := Rl.unlock (F := F) (H := H) r e
    exact ⟨u1, ld.nx F' _ _ σ' env' s u2 v q⟩
  · intro F' H' G' v' x' s r v q
    obtain ⟨e, q⟩ := q
    obtain ⟨u1, u2⟩ := Rl.unlock (F := F) (H := H) r e
    exact ⟨u1, ld.rt F' _ _ v' x' s u2 v q⟩
  · intro F' H' G' σ' env' s r v q
    obtain ⟨e, q⟩ := q
    obtain ⟨u1, u2⟩ := Rl.unlock (F := F) (H := H) r e
    exact ⟨u1, ld.bk F' _ _ σ' env' s u2 v q⟩
  · intro F' H' G' σ' env' s r v q
    obtain ⟨e, q⟩ := q
    obtain ⟨u1, u2⟩ := Rl.unlock (F := F) (H := H) r e
    exact ⟨u1, ld.ct F' _ _ σ' env' s u2 v q⟩
theorem qe_lock {e : Expr} {t : PTE} (h : QE X e t) : QE X e (pLockE t) := by
  refine ⟨fun W tk F H G σ env P Ex Q hr hv hh lq lx => we_of (pe_lock ⟨fun pins s σ H Q I q => q pins s I⟩ (t := fun σ H Q => WE X e σ H Q)) ?_⟩
  obtain ⟨d, kvs, gd, hh⟩ := hh
  obtain ⟨n, vs, h1, h2⟩ := hr.own _ _ gd
  refine ⟨d, .dK vs, h1, True.intro, fun od => ?_⟩
  refine h.run W tk F _ _ σ env _ _ _ (hr.owned (g := .fdk od vs kvs) n ⟨upd_same, h2⟩) hv (hh od vs) (fun F' H' G' v x s r rv q => ?_) fun _ _ _ _ _ _ _ _ _ z => z.elim
  obtain ⟨e, q⟩ := q
  obtain ⟨u1, u2⟩ := Rl.unlock (F := F) (H := H) r e
  exact ⟨u1, lq F' _ _ v x s u2 rv q⟩

/-! ### walks over a dict -/
def kP : Key → PV
  | .inl i => .int i
  | .inr x => .str x
theorem kP_rep {K : PySem.W.Frag} {F : Hp} (k : Key) : Rep K F (kV k) (kP k) := by
  cases k with
  | inl i => exact .int i
  | inr x => exact .str x
def itK (d : Addr) (od : Obj) (vs : List (Key × V)) (kvs : List (Key × PV)) : PIt :=
  ⟨fun i G x => G d = some (.fdk od vs kvs) ∧ ∃ k v, kvs[i]? = some (k, v) ∧ x = kP k, fun i G => G d = some (.fdk od vs kvs) ∧ kvs.length ≤ i⟩
theorem RepD.at {κ : Type} {K : PySem.W.Frag} {F : Hp} {vs : List (κ × V)} {xs : List (κ × PV)} {i : Nat} {k : κ} {x : PV} (h : RepD K F vs xs) (e : xs[i]? = some (k, x)) : ∃ v, vs[i]? = some (k, v) ∧ Rep K F v x := by
  obtain ⟨h1, h2⟩ := h
  obtain ⟨v, e2, r⟩ := h2.get (i := i) (x := x) (by rw [List.getElem?_map, e]; rfl)
  rw [List.getElem?_map] at e2
  have e1 : (vs.map (·.1))[i]? = some k := by rw [h1, List.getElem?_map, e]; rfl
  rw [List.getElem?_map] at e1
  cases q : vs[i]? with
  | none => rw [q] at e2; cases e2
  | some p =>
    obtain ⟨k', v'⟩ := p
    rw [q] at e1 e2
    cases e1
    cases e2
    exact ⟨v', rfl, r⟩
theorem RepD.len {κ : Type} {K : PySem.W.Frag} {F : Hp} {vs : List (κ × V)} {xs : List (κ × PV)} (h : RepD K F vs xs) : vs.length = xs.length := by
  have := congrArg List.length h.1
  rwa [List.length_map, List.length_map] at this
theorem rel_keys {K : PySem.W.Frag} {F : Hp} {d : Addr} {od : Obj} {vs : List (Key × V)} {kvs : List (Key × PV)} : ItRel true K F (Itk d od vs) (itK d od vs kvs) := by
  refine ⟨fun F' H' G' i x s hr e => ?_, fun F' H' G' i s hr e => ?_⟩
  · obtain ⟨e1, k, v, e2, rfl⟩ := e
    obtain ⟨_, h1, h2⟩ := hr.own _ _ e1
    obtain ⟨u, e3, _⟩ := h2.at e2
    refine ⟨⟨h1, (List.getElem?_eq_some_iff.mp e3).1⟩, fun w H3 y => ?_⟩
    obtain ⟨rfl, k', v', e4, rfl⟩ := y
    rw [e3] at e4
    cases e4
    exact ⟨F', Same.refl F', hr, .inl (kP_rep k)⟩
  · obtain ⟨e1, e2⟩ := e
    obtain ⟨_, h1, h2⟩ := hr.own _ _ e1
    exact ⟨h1, by rw [h2.len]; exact e2⟩
def pKeys (td : PTE) (env : PEn) (G : GH) (R : (PIt → GH → Prop)) (Ex : PXK) : Prop := td env G (fun x G1 => match x with
  | .ref d => (match G1 d with
    | some (.fdk od vs kvs) => R (itK d od vs kvs) G1
    | _ => False)
  | _ => False) Ex
theorem qi_keys {tg e : Expr} {td : PTE} (he : QE X e td) : QI true X tg e (pKeys td) := by
  refine ⟨fun W tk F H G σ env R Ex R' hr hv h lr lx => wi_of (pi_keys pe_we) ?_⟩
  refine he.run W tk F H G σ env _ Ex _ hr hv h (fun F1 H1 G1 v x s1 r1 rv h1 => ?_) lx
  cases x with
  | ref d =>
    cases rv
    dsimp only at h1
    split at h1
    · rename_i od vs kvs gd
      obtain ⟨_, e1, e2⟩ := r1.own _ _ gd
      exact ⟨d, od, rfl, .inl ⟨vs, e1, lr F1 H1 G1 _ _ s1 r1 rel_keys h1⟩⟩
    · exact h1.elim
  | _ => exact h1.elim

/-! ### pop, get, reverse -/
def rPopL (x : PV) (vs : (List PV)) (G : GH) (P : PK1) : Prop := match x, vs with
  | .ref a, [] => (match G a with
    | some (.lst xs) => (match xs[xs.length - 1]? with
      | some y => P y (gset G a (.lst xs.dropLast))
      | none => False)
    | _ => False)
  | .ref a, [.int i] => (match G a with
    | some (.lst xs) => -(2 ^ 63) ≤ i ∧ i < 2 ^ 63 ∧ (match ixN xs.length i with
      | some k => (match xs[k]? with
        | some y => P y (gset G a (.lst (xs.eraseIdx k)))
        | none => False)
      | none => False)
    | _ => False)
  | _, _ => False
theorem RepA.dropLast {K : PySem.W.Frag} {F : Hp} {vs : List V} {xs : List PV} (h : RepA K F vs xs) : RepA K F vs.dropLast xs.dropLast := by
  rw [List.dropLast_eq_take, List.dropLast_eq_take, h.length]
  exact h.take _
theorem RepA.eraseIdx {K : PySem.W.Frag} {F : Hp} : ∀ {vs : List V} {xs : List PV} (k : Nat), RepA K F vs xs → RepA K F (vs.eraseIdx k) (xs.eraseIdx k)
  | _, _, _, .nil => .nil
  | _, _, 0, .cons _ t => t
  | _, _, k + 1, .cons a t => .cons a (RepA.eraseIdx k t)
theorem m_popL : MethT X "list" "pop" rPopL := by
  refine ⟨⟨_, PySem.F.plainAttrs_list, PySem.F.slot_list_pop, PySem.F.type_list_pop, fun F H G v x vs xs P Q hr rx ra h lq => ?_⟩, by decide⟩
  match x, rx, xs, ra, h with
  | .ref a, .ref _, [], .nil, h =>
    have h' : (match G a with
      | some (.lst xs) => (match xs[xs.length - 1]? with
        | some y => P y (gset G a (.lst xs.dropLast))
        | none => False)
      | _ => False) := h
    clear h
    split at h'
    · rename_i ys ga
      obtain ⟨n, us, e1, r1⟩ := hr.own _ _ ga
      split at h'
      · rename_i y ey
        obtain ⟨u, e2, ru⟩ := r1.get ey
        exact wmt_of mt_pop ⟨a, us, u, rfl, rfl, e1, by rw [r1.length]; exact e2, lq F _ _ _ _ (Same.refl F) (hr.owned (g := .lst ys.dropLast) n ⟨_, upd_same, r1.dropLast⟩) ru h'⟩
      · exact h'.elim
    · exact h'.elim
  | .ref a, .ref _, [.int i], .cons (.int _) .nil, h =>
    have h' : (match G a with
      | some (.lst xs) => -(2 ^ 63) ≤ i ∧ i < 2 ^ 63 ∧ (match ixN xs.length i with
        | some k => (match xs[k]? with
          | some y => P y (gset G a (.lst (xs.eraseIdx k)))
          | none => False)
        | none => False)
      | _ => False) := h
    clear h
    split at h'
    · rename_i ys ga
      obtain ⟨n, us, e1, r1⟩ := hr.own _ _ ga
      obtain ⟨b1, b2, h'⟩ := h'
      split at h'
      · rename_i k ek
        split at h'
        · rename_i y ey
          obtain ⟨u, e2, ru⟩ := r1.get ey
          exact wmt_of mt_popAt ⟨a, us, i, k, u, rfl, rfl, e1, b1, b2, by rw [r1.length]; exact (L2.ixN_seq ek).1, e2, lq F _ _ _ _ (Same.refl F) (hr.owned (g := .lst (ys.eraseIdx k)) n ⟨_, upd_same, r1.eraseIdx k⟩) ru h'⟩
        · exact h'.elim
      · exact h'.elim
    · exact h'.elim
def dropP (kvs : List (Key × PV)) (k : Key) : List (Key × PV) := kvs.filter fun kv => decide (kv.1 ≠ k)
theorem RepD.drop {K : PySem.W.Frag} {F : Hp} (k : Key) : ∀ {vs : List (Key × V)} {xs : List (Key × PV)}, RepD K F vs xs → RepD K F (dropK vs k) (dropP xs k)
  | [], [], _ => ⟨rfl, .nil⟩
  | [], _ :: _, h => by have := h.1; simp at this
  | _ :: _, [], h => by have := h.1; simp at this
  | p :: vs, q :: xs, h => by
    obtain ⟨h1, h2, h3⟩ := repD_cons.mp h
    have ih := RepD.drop k h3
    unfold dropK dropP at ih ⊢
    rw [List.filter_cons, List.filter_cons, h1]
    by_cases e : q.1 = k
    · rw [if_neg (by simp [e]), if_neg (by simp [e])]
      exact ih
    · rw [if_pos (by simp [e]), if_pos (by simp [e])]
      exact repD_cons.mpr ⟨h1, h2, ih⟩
/-- d.pop(k), k there; d.pop(k, x) -/
def rPopD (x : PV) (vs : (List PV)) (G : GH) (P : PK1) : Prop := match x, vs with
  | .ref a, [y] => (match G a with
    | some (.dk kvs) => (match pkey y with
      | some k => (match valP kvs k with
        | some w => P w (gset G a (.dk (dropP kvs k)))
        | none => False)
      | none => False)
    | _ => False)
  | _, _ => False
theorem m_popD : MethT X "dict" "pop" rPopD := by
  refine ⟨⟨_, PySem.F.plainAttrs_dict, PySem.F.slot_dict_pop, PySem.F.type_dict_pop, fun F H G v x vs xs P Q hr rx ra h lq => ?_⟩, by decide⟩
  match x, rx, xs, ra, h with
  | .ref a, .ref _, [y], .cons ry .nil, h =>
    have h' : (match G a with
      | some (.dk kvs) => (match pkey y with
        | some k => (match valP kvs k with
          | some w => P w (gset G a (.dk (dropP kvs k)))
          | none => False)
        | none => False)
      | _ => False) := h
    clear h
    split at h'
    · rename_i kvs ga
      obtain ⟨n, us, e1, r1⟩ := hr.own _ _ ga
      split at h'
      · rename_i k ek
        split at h'
        · rename_i w ew
          obtain ⟨u, e2, ru⟩ := (r1.val k).1 w ew
          intro pins s σ v2 us2 I rv2 rvs2
          cases rv2
          obtain ⟨u2, rfl, ru2⟩ := rvs2.one
          exact d_pop I e1 (by rw [← pkey_v ry ek]; exact ru2) e2 (.inl rfl) fun w' s3 I3 rw' => ⟨u, _, I3, rw', lq F _ _ _ _ (Same.refl F) (hr.owned (g := .dk (dropP kvs k)) n ⟨_, upd_same, r1.drop k⟩) ru h'⟩
        · exact h'.elim
      · exact h'.elim
    · exact h'.elim
def rPop1 (T : String) : POm := if T = "list" then rPopL else rPopD
theorem m_pop1 : ∀ T ∈ ["list", "dict"], MethT X T "pop" (rPop1 T) := fun T h => by
  simp only [List.mem_cons, List.mem_nil_iff, or_false] at h
  rcases h with rfl | rfl
  · exact m_popL
  · exact m_popD
theorem rPop1_l {x : PV} {vs : List PV} {G : GH} {P : PK1} (h : rPopL x vs G P) : rPop1 "list" x vs G P := by unfold rPop1; rw [if_pos rfl]; exact h
theorem rPop1_d {x : PV} {vs : List PV} {G : GH} {P : PK1} (h : rPopD x vs G P) : rPop1 "dict" x vs G P := by unfold rPop1; rw [if_neg (by decide)]; exact h
/-- d.get(k), d.get(k, x) -/
def rGet (x : PV) (vs : (List PV)) (G : GH) (P : PK1) : Prop := match x, vs with
  | .ref a, [y] => (match G a with
    | some (.dk kvs) => (match pkey y with
      | some k => P ((valP kvs k).getD .non) G
      | none => False)
    | _ => False)
  | .ref a, [y, z] => (match G a with
    | some (.dk kvs) => (match pkey y with
      | some k => P ((valP kvs k).getD z) G
      | none => False)
    | _ => False)
  | _, _ => False
theorem RepD.getD {K : PySem.W.Frag} {F : Hp} {vs : List (Key × V)} {kvs : List (Key × PV)} (r1 : RepD K F vs kvs) (k : Key) {v : V} {z : PV} (rz : Rep K F v z) : Rep K F ((valV vs k).getD v) ((valP kvs k).getD z) := by
  cases e : valP kvs k with
  | none => rw [(r1.val k).2 e]; exact rz
  | some w =>
    obtain ⟨u, e2, ru⟩ := (r1.val k).1 w e
    rw [e2]
    exact ru
theorem m_get (hu : X.A.units + 1 < cLine) : MethT X "dict" "get" rGet := by
  refine ⟨⟨_, PySem.F.plainAttrs_dict, PySem.F.slot_dict_get, PySem.F.type_dict_get, fun F H G v x vs xs P Q hr rx ra h lq => ?_⟩, by decide⟩
  match x, rx, xs, ra, h with
  | .ref a, .ref _, [y], .cons ry .nil, h =>
    have h' : (match G a with
      | some (.dk kvs) => (match pkey y with
        | some k => P ((valP kvs k).getD .non) G
        | none => False)
      | _ => False) := h
    clear h
    split at h'
    · rename_i kvs ga
      obtain ⟨n, us, e1, r1⟩ := hr.own _ _ ga
      split at h'
      · rename_i k ek
        intro pins s σ v2 us2 I rv2 rvs2
        cases rv2
        obtain ⟨u2, rfl, ru2⟩ := rvs2.one
        exact d_get1 hu I (.inl ⟨us, k, .inl e1, pkey_v ry ek, rfl⟩) ru2 fun w' s3 I3 rw' => ⟨_, H, I3, rw', lq F H G _ _ (Same.refl F) hr (r1.getD k .non) h'⟩
      · exact h'.elim
    · exact h'.elim
  | .ref a, .ref _, [y, z], .cons ry (.cons rz .nil), h =>
    have h' : (match G a with
      | some (.dk kvs) => (match pkey y with
        | some k => P ((valP kvs k).getD z) G
        | none => False)
      | _ => False) := h
    clear h
    split at h'
    · rename_i kvs ga
      obtain ⟨n, us, e1, r1⟩ := hr.own _ _ ga
      split at h'
      · rename_i k ek
        intro pins s σ v2 us2 I rv2 rvs2
        cases rv2
        cases rvs2 with
        | cons q1 q2 =>
          obtain ⟨u3, rfl, ru3⟩ := L2.Vals.one q2
          exact d_get2 hu I (.inl ⟨us, k, .inl e1, pkey_v ry ek, rfl⟩) q1 ru3 fun w' s3 I3 rw' => ⟨_, H, I3, rw', lq F H G _ _ (Same.refl F) hr (r1.getD k rz) h'⟩
      · exact h'.elim
    · exact h'.elim

/-! ### sorted -/
def sortI (ns : List Int) : List Int := ns.mergeSort fun x y => decide (x ≤ y)
def sortD (ns : List Int) : List Int := ns.mergeSort fun x y => decide (y ≤ x)
theorem key_no (a : Addr) : Builtin.«list.sort» ⟨[.ref a], []⟩ = Builtin.«list.sort» ⟨[.ref a], [(Str.ofString "reverse", .bool false)]⟩ := by
  rw [PyProof.Rows.list_sort_rev]
  first | rfl | kernel_rfl
theorem args_ls1 (a : Value) : argsOk "list.sort" ⟨[a], []⟩ := by unfold argsOk; kernel_rfl
theorem args_so1 (a : Value) : argsOk "sorted" ⟨[a], []⟩ := by unfold argsOk; kernel_rfl
/-- collect of a list or a tuple, the heap grown -/
theorem collect_sz {prog : Program} {w : World} {A : Around} {E : Value → Shared → Prop} {st : Shared} {R : List Value → Shared → Prop} (a : Addr) {T : String} {ob : Obj} {xs : Array Value} {k : Nat} (hT : T = "list" ∨ T = "tuple") (h1 : st.heap.get? a = some ob) (h2 : ob.cls = .type T) (h3 : ob.data = .seq xs k) (hz : xs.size ≤ sizeLine)
    (hR : ∀ hp, (∀ b u, st.heap.get? b = some u → hp.get? b = some u) → st.heap.objs.size ≤ hp.objs.size → R xs.toList { st with heap := hp }) : wpAny (model prog w) A (collect (.ref a)) R E st := by
  unfold collect
  refine wpAny_bind (wpAny_runValue (codeAny_builtin PySem.F.entry_proto_collect ?_))
  rw [Around.under_plainId PySem.F.plain_proto_collect _]
  show wpAny _ _ (newList [] >>= fun y => again (.builtin "list.__iadd__" ⟨[y, .ref a], []⟩)) _ _ st
  refine wpAny_bind (wpAny_newObj_type ?_)
  refine wpAny_pure ⟨plainId_quiet PySem.F.plain_list_iadd _, codeAny_builtin PySem.F.entry_list_iadd ?_⟩
  rw [Around.under_plainId PySem.F.plain_list_iadd _]
  have e0 : (st.heap.push { cls := .type "list", data := .seq ([] : List Value).toArray }).get? st.heap.objs.size = some { cls := .type "list", data := .seq #[] 0 } := Heap.get?_push_size _ rfl
  have e1 := Heap.get?_update_self (Obj.mapSeq (· ++ xs)) e0 rfl
  have tail : wpAny (model prog w) A (match Value.ref st.heap.objs.size with
      | Value.ref q => do
        match (← load q).data with
          | Data.seq ys _ => pure ys.toList
          | _ => unsupported "internal:collect"
      | _ => unsupported "internal:collect") R E { st with heap := (st.heap.push { cls := .type "list", data := .seq ([] : List Value).toArray }).update st.heap.objs.size (Obj.mapSeq (· ++ xs)) } := by
    refine wpAny_bind (wpAny_load e1 (wpAny_pure ?_))
    show R ((#[] : Array Value) ++ xs).toList _
    rw [show ((#[] : Array Value) ++ xs).toList = xs.toList by simp]
    refine hR _ (fun b u hb => ?_) ?_
    · exact (Heap.get?_update_other _ _ (Nat.ne_of_gt (Heap.lt_size hb))).trans (Heap.get?_push_of_some _ hb)
    · rw [Heap.size_update, PyProof.Rows.size_push']; exact Nat.le_succ _
  refine wpAny_mono (wpAny_extend_seq (hsz := hz) (A := A) (R := fun r z => r = .ok (.ret (.ref st.heap.objs.size)) ∧ z = { st with heap := (st.heap.push { cls := .type "list", data := .seq ([] : List Value).toArray }).update st.heap.objs.size (Obj.mapSeq (· ++ xs)) })
    (s := { st with heap := st.heap.push { cls := .type "list", data := .seq ([] : List Value).toArray } }) _ a _ 0 hT e0 (Heap.get?_push_of_some _ h1) h2 h3 ⟨rfl, rfl⟩) (fun f z h => ?_) (fun e z h => absurd h.1 (by simp))
  cases f with
  | done f =>
    obtain ⟨e, rfl⟩ := h
    cases e
    exact tail
  | again c => exact ⟨h.1, codeAny_mono h.2 fun r z hr => by obtain ⟨rfl, rfl⟩ := hr; exact tail⟩
open PyProof.Rows in
theorem sorted_seqK {prog : Program} {w : World} {A : Around} {E : Value → Shared → Prop} {s : Shared} {l : Addr} {T : String} {o : Obj} {n : Nat} {vs : List Value} {b : Bool} {kw : List (Str × Value)} {ltv : Value → Value → Bool} {Q : Value → Shared → Prop}
    (hk : ∀ a, Builtin.«list.sort» ⟨[.ref a], kw⟩ = Builtin.«list.sort» ⟨[.ref a], [(Str.ofString "reverse", .bool b)]⟩)
    (ha1 : argsOk "sorted" ⟨[.ref l], kw⟩) (ha2 : ∀ a, argsOk "list.sort" ⟨[a], kw⟩) (O : SrtO.Swo ltv) (hT : T = "list" ∨ T = "tuple") (ho : s.heap.get? l = some o) (hc : o.cls = .type T) (hd : o.data = .seq vs.toArray n) (hz : vs.length ≤ sizeLine)
    (hS : 2 ≤ vs.length → ∀ (h₁ : Heap) (a : Addr), SrtO.SortableO prog w A.in1.in1 { s with heap := h₁ } a vs ltv)
    (h : ∀ (out : List Value) (h2 : Heap) (p : Addr) (ep : Nat), SrtO.Srtd ltv out → SrtO.Stb ltv out (if b = true then vs.reverse else vs) → s.heap.objs.size ≤ p → (∀ a u, s.heap.get? a = some u → h2.get? a = some u) → h2.get? p = some (seqObj "list" (if b = true then out.toArray.reverse else out.toArray) ep) → Q (.ref p) { s with heap := h2 }) :
    wpAny (model prog w) A (call (.builtin "sorted") [.ref l] kw) Q E s := by
  refine call_function_entry_kw kind_sorted plain_sorted entry_sorted ha1 ?_
  unfold Builtin.«sorted»
  refine wpAny_bind (m := checkCount "sorted" 1 1 _) (wpAny_pure ?_)
  refine wpAny_bind (collect_sz l hT ho hc hd (by rw [List.size_toArray]; exact hz) fun h1 k1 hp => ?_)
  refine wpAny_bind (wpAny_newList ?_ hz)
  have hoL : (h1.push (seqObj "list" vs.toArray 0)).get? h1.objs.size = some (seqObj "list" vs.toArray 0) := Heap.get?_push_size _ rfl
  show wpAny _ _ _ _ _ { s with heap := h1.push (seqObj "list" vs.toArray 0) }
  refine wpAny_bind (wpAny_holding (wpAny_call_entry_kw slot_list_sort ⟨_, hoL, rfl⟩ entry_list_sort ?_ (ha2 _)))
  rw [hk]
  refine SrtR.list_sort_ordR O hoL hz (fun h2 => hS h2 _ _) fun out hs hb => ⟨_, rfl, ?_⟩
  obtain ⟨ep, he⟩ := sortedHeap_at (n := 0) (vs := vs) (out := if b = true then out.toArray.reverse else out.toArray) hoL
  refine wpAny_pure ⟨_, rfl, h out _ _ ep hs hb hp (fun a u e => ?_) he⟩
  have e1 := k1 _ _ e
  have lt := Heap.lt_size e1
  rw [sortedHeap_old (Nat.ne_of_lt lt) (by rw [size_push']; exact Nat.lt_succ_of_lt lt)]
  exact Heap.get?_push_of_some _ e1
/-- sorted(xs) of whole numbers; own: the new list stays owned -/
def rSorted (own : Bool) (xs : (List PV)) (G : GH) (P : PK1) : Prop := match xs with
  | [x] => (match seqOf G x with
    | some ys => (match intsP ys with
      | some ns => if own = true then ∀ p, G p = none → P (.ref p) (gset G p (.lst ((sortI ns).map .int))) else P (.lst ((sortI ns).map .int)) G
      | none => False)
    | none => False)
  | _ => False
def rSortedR (own : Bool) (b : Bool) (xs : (List PV)) (G : GH) (P : PK1) : Prop := match xs with
  | [x] => (match seqOf G x with
    | some ys => (match intsP ys with
      | some ns => if own = true then ∀ p, G p = none → P (.ref p) (gset G p (.lst ((if b = true then sortD ns else sortI ns).map .int))) else P (.lst ((if b = true then sortD ns else sortI ns).map .int)) G
      | none => False)
    | none => False)
  | _ => False
theorem sorted_go {X : Cx} {b : Bool} {kw : List (Str × Value)} {pins : List (Addr × Obj)} {s : Shared} {σ : List (Option V)} {F H : Hp} {G : GH} {x : PV} {v : V} {u : Value} {ys : List PV} {ns : List Int} {own : Bool} {P : PK1} {Q : VK} (I : Inv X pins σ H s) (hr : Rl X.K F H G) (rx : Rep X.K F v x) (ru : RelV v u) (e : seqOf G x = some ys) (ei : intsP ys = some ns)
    (hk : ∀ a, Builtin.«list.sort» ⟨[.ref a], kw⟩ = Builtin.«list.sort» ⟨[.ref a], [(Str.ofString "reverse", .bool b)]⟩) (ha1 : ∀ a, argsOk "sorted" ⟨[.ref a], kw⟩) (ha2 : ∀ a, argsOk "list.sort" ⟨[a], kw⟩)
    (q : if own = true then ∀ p, G p = none → P (.ref p) (gset G p (.lst ((if b = true then sortD ns else sortI ns).map .int))) else P (.lst ((if b = true then sortD ns else sortI ns).map .int)) G) (lq : LkQ X.K F P Q) :
    wpAny (model X.prog X.w) X.A (call (.builtin "sorted") [u] kw) (EP X pins σ Q) X.xe s := by
  obtain ⟨a, vs, rfl, hs, ra⟩ := seqOf_ok hr rx e
  have ey := intsP_eq ei
  subst ey
  obtain rfl := ra.ints
  cases ru
  have core : ∀ (T : String) (o : Obj) (n : Nat) (its : List Value), (T = "list" ∨ T = "tuple") → s.heap.get? a = some o → o.cls = .type T → o.data = .seq its.toArray n → Vals (ns.map V.int) its → its.length ≤ sizeLine → wpAny (model X.prog X.w) X.A (call (.builtin "sorted") [.ref a] kw) (EP X pins σ Q) X.xe s := by
    intro T o n its hT ho hc hd rv hz
    have hi := rv.ints
    refine sorted_seqK (b := b) hk (ha1 _) ha2 SrtO.swo_int hT ho hc hd hz (fun h2 h₁ a' => SrtO.ints_sortable hi h2) fun out h2 p ep h1 h3 hp k1 he' => ?_
    obtain ⟨ns', k2, k3, k4⟩ := SrtR.ints_outR hi h1 h3
    have en : ns' = if b = true then sortD ns else sortI ns := by
      cases b with
      | true => exact PySem.W.Srt.down k3 k4
      | false => exact PySem.W.Srt.up k3 k4
    subst en
    have hlen : ((if b = true then sortD ns else sortI ns).map V.int).length ≤ sizeLine := by
      rw [List.length_map, k3.length_eq, ← rv.length.symm.trans (List.length_map ..)]
      exact hz
    have e0 : ((if b = true then out.toArray.reverse else out.toArray).toList).toArray = (if b = true then out.toArray.reverse else out.toArray) := by rw [Array.toArray_toList]
    have hn : H p = none := I.hok.fresh hp
    refine ⟨.ref p, upd H p (.lst ((if b = true then sortD ns else sortI ns).map V.int)), I.laid (t' := s.toks) k1 hp ⟨hlen, _, ep, vals_of_ints k2, by rw [e0]; exact he'⟩, rfl, ?_⟩
    cases own with
    | true => exact lq F _ _ _ _ (Same.refl F) (hr.owned (g := .lst _) (hr.sub.free hn) ⟨_, upd_same, RepA.of_ints _⟩) (.ref p) (q p (hr.free hn))
    | false => exact lq _ _ _ _ _ (Same.new (hr.sub.free hn)) (hr.froze hn) (.lst upd_same (RepA.of_ints _)) q
  rcases hs with hs | hs
  · obtain ⟨its, rv, hl, hz⟩ := I.list hs
    obtain ⟨o, ho, hc, n, hd⟩ := hl.isList
    exact core "list" o n its (.inl rfl) ho hc hd rv (by rw [← rv.length]; exact hz)
  · obtain ⟨its, rv, hl, hz⟩ := I.tuple hs
    obtain ⟨o, ho, hc, n, hd⟩ := hl
    exact core "tuple" o n its (.inr rfl) ho hc hd rv (by rw [← rv.length]; exact hz)
theorem q_sorted (own : Bool) : Qn X (WC X (.builtin "sorted")) (rSorted own) := by
  intro F H G vs xs P Q hr ra h lq
  match xs, ra, h with
  | [x], .cons r .nil, h =>
    have h' : (match seqOf G x with
      | some ys => (match intsP ys with
        | some ns => if own = true then ∀ p, G p = none → P (.ref p) (gset G p (.lst ((sortI ns).map .int))) else P (.lst ((sortI ns).map .int)) G
        | none => False)
      | none => False) := h
    clear h
    split at h'
    · rename_i ys e
      split at h'
      · rename_i ns ei
        intro pins s σ us I rv
        obtain ⟨u, rfl, ru⟩ := rv.one
        exact sorted_go (b := false) I hr r ru e ei key_no (fun a => args_so1 _) args_ls1 h' lq
      · exact h'.elim
    · exact h'.elim
/-- sorted(xs, reverse=b) -/
def pSortedR (own b : Bool) (t : PTA) (env : PEn) (G : GH) (P : PK1) (Ex : PXK) : Prop := t env G (fun xs G1 => rSortedR own b xs G1 P) Ex
theorem qe_sortedR {own b : Bool} {p pos kpos : Pos} {e : Expr} {ta : PTA} {kb : Nat} {bp : Pos} (hg : Gl X "sorted") (hm : X.mg "sorted" = none) (hv : bootBuiltins "sorted" = some (.builtin "sorted")) (ha : QA X [e] ta)
    (he : backTo pos (starEach [e] X.env) = (false, eval e X.env) :: backTo pos (starEach [] X.env) := by rfl) (hpl : (backTo pos (starEach [e] X.env)).any (·.1) = false := by rfl)
    (hall : (backToKw pos (keywordEach [⟨some "reverse", .Constant (.bool b) kb bp, kpos⟩] X.env)).all (·.1.isSome) = true := by rfl) (hnone : (backToKw pos (keywordEach [⟨some "reverse", .Constant (.bool b) kb bp, kpos⟩] X.env)).any (·.1.isNone) = false := by rfl) (hks : (backToKw pos (keywordEach [⟨some "reverse", .Constant (.bool b) kb bp, kpos⟩] X.env)).filterMap (·.1) = [Str.ofString "reverse"] := by rfl) :
    QE X (.Call (.Name "sorted" p) [e] [⟨some "reverse", .Constant (.bool b) kb bp, kpos⟩] pos) (pSortedR own b ta) := by
  refine ⟨fun W tk F H G σ env P Ex Q hr hv2 h lq lx pins s I => ?_⟩
  refine wpAny_Call_Name_kw (ld_blt I hg hm hv ?_ (by decide) (by decide))
  have hA : WA X [e] σ H (fun vs H1 => ∃ F1 G1 xs, Same F F1 ∧ Rl X.K F1 H1 G1 ∧ RepA X.K F1 vs xs ∧ rSortedR own b xs G1 P) :=
    ha.run W tk F H G σ env _ Ex _ hr hv2 h (fun F1 H1 G1 vs xs s1 r1 rvs h1 => ⟨F1, G1, xs, s1, r1, rvs, h1⟩) lx
  have hk : PK X [⟨some "reverse", .Constant (.bool b) kb bp, kpos⟩] (L2.tCons (L2.tC (.bl b)) L2.tNil) := pk_cons pe_bl pk_nil
  refine PyProof.Rows.callWith_kw (thn (hA pos pins s I) fun us s1 ⟨vs, H1, I1, r1, F1, G1, xs, s1', rl, ra, q1⟩ => thn (hk.run pos pins s1 σ H1 (fun zs H2 => zs = [.bl b] ∧ H2 = H1) I1 ⟨rfl, rfl⟩) fun ws s2 ⟨zs, H2, I2, r2, ez, eh⟩ => ?_) he hpl hall hnone
  subst ez eh
  obtain ⟨w1, rfl, e1⟩ := L2.Vals.one r2
  obtain rfl : w1 = Value.bool b := e1
  rw [hks]
  match xs, ra, q1 with
  | [x], .cons r .nil, h =>
    have h' : (match seqOf G1 x with
      | some ys => (match intsP ys with
        | some ns => if own = true then ∀ p, G1 p = none → P (.ref p) (gset G1 p (.lst ((if b = true then sortD ns else sortI ns).map .int))) else P (.lst ((if b = true then sortD ns else sortI ns).map .int)) G1
        | none => False)
      | none => False) := h
    clear h
    split at h'
    · rename_i ys e
      split at h'
      · rename_i ns ei
        obtain ⟨u, rfl, ru⟩ := L2.Vals.one r1
        exact sorted_go (b := b) I2 rl r ru e ei (fun _ => rfl) (fun a => PyProof.Rows.args_sorted_rev _ _) (fun _ => PyProof.Rows.args_list_sort_rev _ _) h' (lq.mono s1')
      · exact h'.elim
    · exact h'.elim
end
end PL
end

section
/-! POps8: xs[::-1]. -/
namespace PL
open PySem PySem.Spec PyProof.Rows L2 RZ

theorem rev_places (n : Nat) : Builtin.Slice.slicePlaces ((n : Int) - 1) (-1) (-1) = n := by
  unfold Builtin.Slice.slicePlaces
  rw [if_neg (by decide)]
  by_cases h : (n : Int) - 1 > -1
  · rw [if_pos h]
    have e : ((n : Int) - 1 - -1 - 1) / (- -1) = (n : Int) - 1 := by
      rw [show (- -1 : Int) = 1 by decide, Int.ediv_one]
      omega
    rw [e]
    omega
  · rw [if_neg h]
    omega
theorem rev_go (xs : Array Value) : ∀ l : List Nat, (∀ m ∈ l, m < xs.size) → (l.filterMap fun (m : Nat) => xs[(((xs.size : Int) - 1) + (m : Int) * (-1)).toNat]?) = l.filterMap ((xs[·]?) ∘ fun k => xs.size - 1 - k)
  | [], _ => rfl
  | m :: l, hl => by
    have hm := hl m List.mem_cons_self
    have ih := rev_go xs l fun k hk => hl k (List.mem_cons_of_mem _ hk)
    have e : xs[(((xs.size : Int) - 1) + (m : Int) * (-1)).toNat]? = ((xs[·]?) ∘ fun k => xs.size - 1 - k) m := by
      show _ = xs[xs.size - 1 - m]?
      rw [show (((xs.size : Int) - 1) + (m : Int) * (-1)).toNat = xs.size - 1 - m by omega]
    rw [List.filterMap_cons, List.filterMap_cons, e, ih]
theorem rev_pick (xs : Array Value) : ((List.range xs.size).filterMap fun (m : Nat) => xs[(((xs.size : Int) - 1) + (m : Int) * (-1)).toNat]?).toArray = xs.toList.reverse.toArray := by
  rw [rev_go xs _ fun m hm => List.mem_range.mp hm, ← List.filterMap_map, PySem.W.krv_range, List.filterMap_reverse, PySem.W.krv_all]
section
variable {prog : Program} {w : World} {A : Around} {E : Value → Shared → Prop} {s : Shared}
theorem applied_rev {sl : Addr} {vk : Value} {n : Nat} {Q : Int × Int × Nat → Shared → Prop} (hs : s.heap.IsSliceOf sl .none .none vk) (pk : IsPart vk (some (-1)))
    (h : Q ((n : Int) - 1, -1, n) s) : wpAny (model prog w) A (Builtin.Slice.sliceApplied (.ref sl) (pure (n : Int))) Q E s := by
  obtain ⟨ob, ho, hc, hf⟩ := id hs
  unfold Builtin.Slice.sliceApplied Builtin.Slice.sliceFields
  refine wpAny_bind (wpAny_bind (wpAny_field ho hf (x := .none) rfl (wpAny_bind (wpAny_field ho hf (x := .none) rfl (wpAny_bind (wpAny_field ho hf (x := vk) rfl (wpAny_pure ?_)))))))
  refine wpAny_bind (HT.slicePart_ pk ?_)
  show wpAny _ _ (if ((-1 : Int) == 0) = true then _ else _) _ _ s
  rw [if_neg (by decide)]
  refine wpAny_bind (PyProof.Rows.slicePart_none (wpAny_bind (PyProof.Rows.slicePart_none (wpAny_bind (wpAny_pure ?_)))))
  show wpAny _ _ (pure ((n : Int) - 1, (-1 : Int), Builtin.Slice.slicePlaces ((n : Int) - 1) (-1) (-1))) _ _ s
  rw [rev_places]
  exact wpAny_pure h
theorem getItem_tup_rev {t sl : Addr} {items : Array Value} {vk : Value} {Q : Value → Shared → Prop} (ht : IsTup s.heap t items) (hs : s.heap.IsSliceOf sl .none .none vk) (pk : IsPart vk (some (-1)))
    (h : Q (.ref s.heap.objs.size) { s with heap := s.heap.push { cls := .type "tuple", data := .seq items.toList.reverse.toArray } })
    (hz : items.size ≤ sizeLine) : wpAny (model prog w) A (getItem (.ref t) (.ref sl)) Q E s := by
  have ok : sizeOk (.seq items.toList.reverse.toArray) := by
    show items.toList.reverse.toArray.size ≤ sizeLine
    rw [List.size_toArray, List.length_reverse, Array.length_toList]
    exact hz
  obtain ⟨ob, ho, hc, hf⟩ := id hs
  have hsl : s.TypeIs (.ref sl) "slice" := ⟨ob, ho, hc⟩
  unfold getItem
  try with_reducible refine wpAny_holding ?_
  first | refine wpAny_bind (wpAny_pure ?_) | skip
  refine wpAny_bind (wpAny_sequenceKey ht.typeIs (by decide) ?_)
  refine wpAny_bind (wpAny_callSpecial?_slot (name := Str.ofString "__getitem__") ht.typeIs PyProof.Rows.slot_tuple_getitem
    (wpAny_call_entry PyProof.Rows.slot_tuple_getitem ht.typeIs entry_tuple_getitem ?_ (args_tuple_getitem _ _)))
  show wpAny _ _ (Builtin.Tuple.tupleItemsOf (.ref t) >>= _) _ _ s
  refine wpAny_bind (tupleItemsOf_ ht (wpAny_bind (wpAny_typeOf hsl ?_)))
  rw [if_pos (by decide)]
  refine wpAny_bind (applied_rev hs pk ?_)
  have hno : ¬ ((((items.size : Int) - 1) == 0 && (-1 : Int) == 1 && items.size == items.size) = true) := by
    rw [show ((-1 : Int) == 1) = false from rfl, Bool.and_false, Bool.false_and]
    exact Bool.false_ne_true
  show wpAny _ _ (if (((items.size : Int) - 1) == 0 && (-1 : Int) == 1 && items.size == items.size) = true then _ else _) _ _ s
  rw [if_neg hno, rev_pick]
  first
    | exact wpAny_bind (m := Builtin.Tuple.tupleExact _) (wpAny_newObj_type (wpAny_pure ⟨_, rfl, wpAny_pure h⟩) ok)
    | exact wpAny_bind (m := Builtin.Tuple.tupleExact _) (wpAny_newObj_type (wpAny_bind (wpAny_pure (wpAny_pure ⟨_, rfl, wpAny_pure h⟩))) ok)
    | exact wpAny_bind (wpAny_bind (m := Builtin.Tuple.tupleExact _) (wpAny_newObj_type (wpAny_pure (wpAny_pure ⟨_, rfl, wpAny_pure h⟩)) ok))
    | exact wpAny_bind (wpAny_bind (m := Builtin.Tuple.tupleExact _) (wpAny_newObj_type (wpAny_pure ⟨_, rfl, wpAny_pure h⟩) ok))
end
/-- x[::-1] -/
def pRev (te : PTE) (env : PEn) (G : GH) (P : PK1) (Ex : PXK) : Prop := te env G (fun x G1 => match x with
  | .tup xs => P (.tup xs.reverse) G1
  | .lst xs => P (.lst xs.reverse) G1
  | _ => False) Ex
theorem qe_rev {X : Cx} {e : Expr} {te : PTE} {k : Nat} {p1 p2 p3 pos : Pos} (he : QE X e te) : QE X (.Subscript e (.Slice none none (some (.UnaryOp .USub (.Constant (.int 1) k p1) p2)) p3) pos) (pRev te) := by
  refine ⟨fun W tk F H G σ env P Ex Q hr hv h lq lx pins s I => ?_⟩
  have hE : WE X e σ H (fun v H1 => ∃ F1 G1 x, Same F F1 ∧ Rl X.K F1 H1 G1 ∧ Rep X.K F1 v x ∧ (match x with
      | .tup xs => P (.tup xs.reverse) G1
      | .lst xs => P (.lst xs.reverse) G1
      | _ => False)) := he.run W tk F H G σ env _ Ex _ hr hv h (fun F1 H1 G1 v x s1 r1 rv h1 => ⟨F1, G1, x, s1, r1, rv, h1⟩) lx
  refine Subscript_ (thn (hE pins s I) fun v s1 ⟨y, H1, I1, rv1, F1, G1, x, sm, r1, rv, h1⟩ => ?_)
  have hst : PO X (some (.UnaryOp .USub (.Constant (.int 1) k p1) p2)) (L2.tPart (L2.tUn (L2.rU fun i => .int (-i)) (L2.tC (.int 1)))) := po_some (pe_un un_neg pe_int)
  refine wpAny_Slice (thn (po_none.run pins s1 σ H1 (fun o H2 => o = none ∧ H2 = H1) I1 ⟨rfl, rfl⟩) fun vl s2 ⟨l, H2, I2, pl, el, e2⟩ => ?_)
  subst el e2
  refine thn (po_none.run pins s2 σ H2 (fun o H3 => o = none ∧ H3 = H2) I2 ⟨rfl, rfl⟩) fun vu s3 ⟨u, H3, I3, pu, eu, e3⟩ => ?_
  subst eu e3
  refine thn (hst.run pins s3 σ H3 (fun o H4 => o = some (-1) ∧ H4 = H3) I3 ⟨1, rfl, -1, rfl, rfl, rfl⟩) fun vs s4 ⟨o, H4, I4, ps, eo, e4⟩ => ?_
  subst eo e4
  have I5 : Inv X pins σ H4 { s4 with heap := s4.heap.push { cls := .type "slice", data := .fields #[vl, vu, vs] } } := I4.kept (t' := s4.toks) fun b ob q => Heap.get?_push_of_some _ q
  have hvl : vl = .none := by cases pl; rfl
  have hvu : vu = .none := by cases pu; rfl
  cases x with
  | tup xs =>
    cases rv with
    | tup hT ra =>
      cases rv1
      obtain ⟨its, rr, ht, hz⟩ := I5.tuple (Same.tupT r1.sub hT.sq)
      subst hvl hvu
      refine tail_any (T := "tuple") ht.typeIs PyProof.Rows.slot_tuple_getitem.lookup ?_ (by with_unfolding_all rfl)
      refine getItem_tup_rev ht (Heap.IsSliceOf.new _ .none .none vs) ps ?_ (by rw [List.size_toArray, ← rr.length]; exact hz)
      have nf := I5.hok.fresh (Nat.le_refl _)
      exact ⟨.ref _, _, laidT (t' := s4.toks) I5 (by rw [List.length_reverse]; exact hz) rr.reverse, rfl, lq _ _ _ _ _ (sm.trans (Same.new (r1.sub.free nf))) (r1.froze nf) (.tup (TupOk.new rfl) (RepA.mono (Same.new (r1.sub.free nf)) _ _ ra.reverse)) h1⟩
  | lst xs =>
    cases rv with
    | lst hL ra =>
      cases rv1
      obtain ⟨its, rr, ht, hz⟩ := I5.list (.inl (.inl (r1.sub _ _ hL)))
      have hlen := rr.length
      refine tail_any (T := "list") ht.isList.typeIs (PySem.slot_list_getitem.lookup) ?_ (by with_unfolding_all rfl)
      refine wpAny_getItem_list_slice ht.isList (Heap.IsSliceOf.new _ vl vu vs) pl pu ps (by decide) ?_ (by rw [List.size_toArray]; omega)
      rw [PySem.W.krv_pick]
      have nf := I5.hok.fresh (Nat.le_refl _)
      refine ⟨.ref _, _, I5.laid (t' := s4.toks) (o := .lst _) (fun b ob q => Heap.get?_push_of_some _ q) (Nat.le_refl _) ?_, rfl, lq _ _ _ _ _ (sm.trans (Same.new (r1.sub.free nf))) (r1.froze nf) (.lst upd_same (RepA.mono (Same.new (r1.sub.free nf)) _ _ ra.reverse)) h1⟩
      exact ⟨by rw [List.length_reverse]; exact hz, _, 0, rr.reverse, Heap.get?_push_size _ rfl⟩
  | _ => exact h1.elim
end PL
end

section
/-! POps9: names of the module, list(range(..)). -/
namespace PL
open PySem PySem.Spec PyProof.Rows L2 RZ

section
variable {X : Cx}
theorem qe_gint {x : Str} {i : Int} {pos : Pos} (hg : Gl X x) (hm : ∃ t, X.mg x = some (.int i t)) (hd : (x == ("__debug__" : Str)) = false := by decide) : QE X (.Name x pos) (pC (.int i)) := by
  obtain ⟨t, hm⟩ := hm
  exact ⟨fun W tk F H G σ env P Ex Q hr hv h lq lx => we_of (pe_glob hg hm (v := .int i) ⟨t, rfl⟩ hd) (lq F H G _ _ (Same.refl F) hr (.int i) h)⟩
def rgP (a b : Int) : List PV := (List.range (b - a).toNat).map fun j => .int (a + (j : Nat))
theorem rgP_v {K : PySem.W.Frag} {F : Hp} (a b : Int) : RepA K F (rgV a b) (rgP a b) := by
  unfold rgV rgP
  generalize (b - a).toNat = n
  have : ∀ l : List Nat, RepA K F (l.map fun (j : Nat) => V.int (a + j)) (l.map fun j => .int (a + (j : Nat)))
    := fun l => by
      induction l with
      | nil => exact .nil
      | cons j l ih => exact .cons (.int _) ih
  exact this _
/-- list(range(n)) -/
def pListRg (own : Bool) (t : PTE) (env : PEn) (G : GH) (P : PK1) (Ex : PXK) : Prop := t env G (fun x G1 => match x with
  | .int n => n ≤ 16777216 ∧ 0 ≤ n ∧ (if own = true then ∀ p, G1 p = none → P (.ref p) (gset G1 p (.lst (rgP 0 n))) else P (.lst (rgP 0 n)) G1)
  | _ => False) Ex
theorem qe_listRg {own : Bool} {e : Expr} {te : PTE} {p q pos pos2 : Pos} (hc : X.calm = true) (hg : Gl X "list") (hm : X.mg "list" = none) (hg2 : Gl X "range") (hm2 : X.mg "range" = none) (he : QE X e te)
    (na : starEach [e] X.env = (false, eval e X.env) :: starEach [] X.env := by rfl) (na2 : starEach [.Call (.Name "range" q) [e] [] pos2] X.env = (false, eval (.Call (.Name "range" q) [e] [] pos2) X.env) :: starEach [] X.env := by rfl) :
    QE X (.Call (.Name "list" p) [.Call (.Name "range" q) [e] [] pos2] [] pos) (pListRg own te) := by
  refine ⟨fun W tk F H G σ env P Ex Q hr hv h lq lx => we_of (pe_listRg hc hg hm (prg_1 hg2 hm2 pe_we na) na2) ?_⟩
  refine he.run W tk F H G σ env _ Ex _ hr hv h (fun F1 H1 G1 v x s1 r1 rv h1 => ?_) lx
  cases x with
  | int n =>
    cases rv
    obtain ⟨h2, h3, h4⟩ := h1
    refine ⟨n, rfl, RgOk.of_le (Int.le_refl 0) h2 (by decide) h3, fun p hp => ?_⟩
    have nf := r1.sub.free hp
    cases own with
    | true => exact lq F1 _ _ _ _ s1 (r1.owned (g := .lst (rgP 0 n)) nf ⟨_, upd_same, rgP_v 0 n⟩) (.ref p) (h4 p (r1.free hp))
    | false => exact lq _ _ _ _ _ (s1.trans (Same.new nf)) (r1.froze hp) (.lst upd_same (rgP_v 0 n)) h4
  | _ => exact h1.elim
end
end PL
end

section
/-! PTac2: short ways through the readings of instances, dicts, pops. -/
namespace PL
open PySem PySem.Spec PyProof.Rows L2 RZ
theorem fld_var {C : Addr} {f : Str} {i : Nat} {a : Addr} {fs : List (Str × PV)} {v : PV} {env : PEn} {G : GH} {P : PK1} {Ex : PXK} (hv : env[i]? = some (some (.ref a))) (hG : G a = some (.ins C fs)) (hl : fs.lookup f = some v) (q : P v G) : pFld C f (pVar i) env G P Ex := by
  unfold pFld pVar
  rw [hv]
  show (match G a with
    | some (.ins D fs) => D = C ∧ (match fs.lookup f with
      | some v => P v G
      | none => False)
    | _ => False)
  rw [hG]
  refine ⟨rfl, ?_⟩
  show (match fs.lookup f with
      | some v => P v G
      | none => False)
  rw [hl]
  exact q
theorem setF_var {C : Addr} {f : Str} {i : Nat} {a : Addr} {tv : PTE} {D : PEnds} {env : PEn} {G : GH} (hv : env[i]? = some (some (.ref a)))
    (h : tv env G (fun y G1 => ∃ fs, G1 a = some (.ins C fs) ∧ fs.length < 1000 ∧ D.nx env (gset G1 a (.ins C (putS f y fs)))) D.xs) : pSetF C f (pVar i) tv D env G := by
  unfold pSetF pVar
  rw [hv]
  have e : (fun (y : PV) (G1 : GH) => (match (PV.ref a) with
      | .ref a => (match G1 a with
        | some (.ins E fs) => E = C ∧ fs.length < 1000 ∧ D.nx env (gset G1 a (.ins C (putS f y fs)))
        | _ => False)
      | _ => False)) = fun y G1 => ∃ fs, G1 a = some (.ins C fs) ∧ fs.length < 1000 ∧ D.nx env (gset G1 a (.ins C (putS f y fs))) := by
    funext y G1
    refine propext ⟨fun q => ?_, fun ⟨fs, h1, h2, h3⟩ => ?_⟩
    · have q' : (match G1 a with
        | some (.ins E fs) => E = C ∧ fs.length < 1000 ∧ D.nx env (gset G1 a (.ins C (putS f y fs)))
        | _ => False) := q
      split at q'
      · rename_i E fs e
        obtain ⟨rfl, q2, q3⟩ := q'
        exact ⟨fs, e, q2, q3⟩
      · exact q'.elim
    · show (match G1 a with
        | some (.ins E fs) => E = C ∧ fs.length < 1000 ∧ D.nx env (gset G1 a (.ins C (putS f y fs)))
        | _ => False)
      rw [h1]
      exact ⟨rfl, h2, h3⟩
  exact e ▸ h
theorem meth_var {C : Addr} {m : Str} {i : Nat} {a : Addr} {fs : List (Str × PV)} {psp : PSp} {t : PTA} {env : PEn} {G : GH} {P : PK1} {Ex : PXK} (hv : env[i]? = some (some (.ref a))) (hG : G a = some (.ins C fs)) (hl : fs.lookup m = none)
    (h : t env G (fun xs G2 => psp (.ref a :: xs) G2 P (fun c G3 => Ex c env G3)) Ex) : pMeth C m psp (pVar i) t env G P Ex := by
  unfold pMeth pVar
  rw [hv]
  show (match G a with
    | some (.ins D fs) => D = C ∧ fs.lookup m = none ∧ t env G (fun xs G2 => psp (.ref a :: xs) G2 P (fun c G3 => Ex c env G3)) Ex
    | _ => False)
  rw [hG]
  exact ⟨rfl, hl, h⟩
theorem rSortedR_of {b : Bool} {x : PV} {ns : List Int} {G : GH} {P : PK1} (hs : seqOf G x = some (ns.map .int)) (q : P (.lst ((if b = true then sortD ns else sortI ns).map .int)) G) : rSortedR false b [x] G P := by
  show (match seqOf G x with
    | some ys => (match intsP ys with
      | some ns => if false = true then ∀ p, G p = none → P (.ref p) (gset G p (.lst ((if b = true then sortD ns else sortI ns).map .int))) else P (.lst ((if b = true then sortD ns else sortI ns).map .int)) G
      | none => False)
    | none => False)
  rw [hs]
  show (match intsP (ns.map .int) with
      | some ns => if false = true then ∀ p, G p = none → P (.ref p) (gset G p (.lst ((if b = true then sortD ns else sortI ns).map .int))) else P (.lst ((if b = true then sortD ns else sortI ns).map .int)) G
      | none => False)
  rw [intsP_of]
  exact q
theorem rSorted_of {x : PV} {ns : List Int} {G : GH} {P : PK1} (hs : seqOf G x = some (ns.map .int)) (q : P (.lst ((sortI ns).map .int)) G) : rSorted false [x] G P := by
  show (match seqOf G x with
    | some ys => (match intsP ys with
      | some ns => if false = true then ∀ p, G p = none → P (.ref p) (gset G p (.lst ((sortI ns).map .int))) else P (.lst ((sortI ns).map .int)) G
      | none => False)
    | none => False)
  rw [hs]
  show (match intsP (ns.map .int) with
      | some ns => if false = true then ∀ p, G p = none → P (.ref p) (gset G p (.lst ((sortI ns).map .int))) else P (.lst ((sortI ns).map .int)) G
      | none => False)
  rw [intsP_of]
  exact q
theorem popL_of {a : Addr} {xs : List PV} {y : PV} {G : GH} {P : PK1} (hG : G a = some (.lst (xs ++ [y]))) (q : P y (gset G a (.lst xs))) : rPopL (.ref a) [] G P := by
  show (match G a with
    | some (.lst xs) => (match xs[xs.length - 1]? with
      | some y => P y (gset G a (.lst xs.dropLast))
      | none => False)
    | _ => False)
  rw [hG]
  show (match (xs ++ [y])[(xs ++ [y]).length - 1]? with
      | some z => P z (gset G a (.lst (xs ++ [y]).dropLast))
      | none => False)
  have e : (xs ++ [y])[(xs ++ [y]).length - 1]? = some y := by simp
  rw [e, List.dropLast_concat]
  exact q
theorem popLi_of {a : Addr} {xs : List PV} {y : PV} {i : Int} {k : Nat} {G : GH} {P : PK1} (hG : G a = some (.lst xs)) (h0 : -(2 ^ 63) ≤ i) (h1 : i < 2 ^ 63) (hi : ixN xs.length i = some k) (hk : xs[k]? = some y) (q : P y (gset G a (.lst (xs.eraseIdx k)))) : rPopL (.ref a) [.int i] G P := by
  show (match G a with
    | some (.lst xs) => -(2 ^ 63) ≤ i ∧ i < 2 ^ 63 ∧ (match ixN xs.length i with
      | some k => (match xs[k]? with
        | some y => P y (gset G a (.lst (xs.eraseIdx k)))
        | none => False)
      | none => False)
    | _ => False)
  rw [hG]
  refine ⟨h0, h1, ?_⟩
  show (match ixN xs.length i with
      | some k => (match xs[k]? with
        | some y => P y (gset G a (.lst (xs.eraseIdx k)))
        | none => False)
      | none => False)
  rw [hi]
  show (match xs[k]? with
        | some y => P y (gset G a (.lst (xs.eraseIdx k)))
        | none => False)
  rw [hk]
  exact q
theorem popD_of {a : Addr} {kvs : List (Key × PV)} {y w : PV} {k : Key} {G : GH} {P : PK1} (hG : G a = some (.dk kvs)) (hk : pkey y = some k) (hv : valP kvs k = some w) (q : P w (gset G a (.dk (dropP kvs k)))) : rPopD (.ref a) [y] G P := by
  show (match G a with
    | some (.dk kvs) => (match pkey y with
      | some k => (match valP kvs k with
        | some w => P w (gset G a (.dk (dropP kvs k)))
        | none => False)
      | none => False)
    | _ => False)
  rw [hG]
  show (match pkey y with
      | some k => (match valP kvs k with
        | some w => P w (gset G a (.dk (dropP kvs k)))
        | none => False)
      | none => False)
  rw [hk]
  show (match valP kvs k with
        | some w => P w (gset G a (.dk (dropP kvs k)))
        | none => False)
  rw [hv]
  exact q
theorem rLen_dict {a : Addr} {kvs : List (Key × PV)} {G : GH} {P : PK1} (hG : G a = some (.dk kvs)) (q : P (.int kvs.length) G) : rLen [.ref a] G P := by
  show (match G a with
    | some (.lst ys) => P (.int ys.length) G
    | some (.dk kvs) => P (.int kvs.length) G
    | some (.fdk _ _ kvs) => P (.int kvs.length) G
    | _ => False)
  rw [hG]
  exact q
theorem rMem_dict {neg : Bool} {a : Addr} {kvs : List (Key × PV)} {y : PV} {k : Key} {G : GH} {P : PK1} (hG : G a = some (.dk kvs)) (hk : pkey y = some k) (q : P (.bl (if neg = true then !(valP kvs k).isSome else (valP kvs k).isSome)) G) : rMem neg y (.ref a) G P := by
  show (match G a with
    | some (.lst ys) => flatP y = true ∧ ys.all flatP = true ∧ P (.bl (if neg = true then !(ys.any fun z => eqP z y) else ys.any fun z => eqP z y)) G
    | some (.dk kvs) => (match pkey y with
      | some k => P (.bl (if neg = true then !(valP kvs k).isSome else (valP kvs k).isSome)) G
      | none => False)
    | some (.fdk _ _ kvs) => (match pkey y with
      | some k => P (.bl (if neg = true then !(valP kvs k).isSome else (valP kvs k).isSome)) G
      | none => False)
    | _ => False)
  rw [hG]
  show (match pkey y with
      | some k => P (.bl (if neg = true then !(valP kvs k).isSome else (valP kvs k).isSome)) G
      | none => False)
  rw [hk]
  exact q
theorem rIx_fdk {a : Addr} {od : Obj} {vs : List (Key × V)} {kvs : List (Key × PV)} {y v : PV} {k : Key} {G : GH} {P : PK1} (hG : G a = some (.fdk od vs kvs)) (hk : pkey y = some k) (hv : valP kvs k = some v) (q : P v G) : PL.rIx (.ref a) y G P := by
  show (match G a with
    | some (.lst xs) => ixL xs y G P
    | some (.dk kvs) => ixD kvs y G P
    | some (.fdk _ _ kvs) => ixD kvs y G P
    | _ => False)
  rw [hG]
  show (match pkey y with
    | some k => (match valP kvs k with
      | some x => P x G
      | none => False)
    | none => False)
  rw [hk]
  show (match valP kvs k with
      | some x => P x G
      | none => False)
  rw [hv]
  exact q
theorem tyP_dk {G : GH} {a : Addr} {kvs : List (Key × PV)} (h : G a = some (.dk kvs)) : tyP G (.ref a) = some "dict" := by
  show (match G a with
    | some (.lst _) => some "list"
    | some (.dk _) => some "dict"
    | _ => none) = some "dict"
  rw [h]
/-- what is owned equals the empty list iff it is empty -/
theorem rEq_nil {a : Addr} {xs : List PV} {G : GH} {P : PK1} (hG : G a = some (.lst xs)) (hd : isDs xs = true) (hs : SeqAt.shaped (PyData.list (dats xs)) = true) (q : P (.bl (decide (xs = []))) G) : PL.rEq (.ref a) (.lst []) G P := by
  refine rEq_d (d := .list (dats xs)) (e := .list []) ?_ rfl hs (by decide +kernel) ?_
  · show (match ownL G a with
      | some xs => if isDs xs = true then some (PyData.list (dats xs)) else none
      | none => none) = _
    rw [ownL_of hG]
    exact if_pos hd
  · cases xs with
    | nil => simpa [PyData.eqv, dats, PyData.eqvAll] using q
    | cons x xs => simpa [PyData.eqv, dats, PyData.eqvAll] using q
/-- a comprehension by an invariant -/
theorem lc_invF {J : PIt} {g : PTG} {tt : PTT} {te : PTE} {env : PEn} {G1 : GH} {P : PK1} {D : Addr} (n : Nat) (S : Nat → List PV → GH → Prop) (hl : n < sizeLine) (h0 : S 0 [] (gset G1 D (.lst [])))
    (hs : ∀ i acc (G : GH) (Ky : PK1) (Kn : GH → Prop), i < n → S i acc G → G D = some (.lst acc) → acc.length ≤ i → (∀ y G2, G2 D = some (.lst acc) → S (i + 1) (acc ++ [y]) (gset G2 D (.lst (acc ++ [y]))) → Ky y G2) → (∀ G2, G2 D = some (.lst acc) → S (i + 1) acc G2 → Kn G2) → ∃ x, J.item i G x ∧ lcTurn g tt te x env G Ky Kn)
    (he : ∀ acc (G : GH), S n acc G → G D = some (.lst acc) → J.done n G ∧ P (.lst acc) (gdel G D)) : ∃ (I : Nat → List PV → GH → Prop) (n : Nat), I 0 [] (gset G1 D (.lst [])) ∧ ∀ i acc G, i ≤ n → I i acc G →
      ((J).done i G ∧ G D = some (.lst acc) ∧ (if false = true then P (.ref D) G else P (.lst acc) (gdel G D))) ∨
      (i < n ∧ ∃ x, (J).item i G x ∧ g x env G (fun env2 G2 => tt env2 G2 (fun b G3 => if b = true then te env2 G3 (fun y G4 => G4 D = some (.lst acc) ∧ acc.length < sizeLine ∧ I (i + 1) (acc ++ [y]) (gset G4 D (.lst (acc ++ [y])))) noX else I (i + 1) acc G3) noX) noX) := by
  refine ⟨fun i acc G => S i acc G ∧ G D = some (.lst acc) ∧ acc.length ≤ i, n, ⟨h0, gset_same, Nat.le_refl _⟩, fun i acc G hi h => ?_⟩
  obtain ⟨h1, h2, h3⟩ := h
  by_cases l : i < n
  · refine .inr ⟨l, hs i acc G _ _ l h1 h2 h3 (fun y G2 e2 s2 => ⟨e2, by omega, s2, gset_same, by rw [List.length_append]; exact Nat.succ_le_succ h3⟩) fun G2 e2 s2 => ⟨s2, e2, by omega⟩⟩
  · have e : i = n := by omega
    subst e
    obtain ⟨q1, q2⟩ := he acc G h1 h2
    exact .inl ⟨q1, h2, by simpa using q2⟩
/-- .. over range, nothing changed -/
theorem lc_rngF {lo : Int} {m : Nat} {g : PTG} {tt : PTT} {te : PTE} {env : PEn} {G1 : GH} {P : PK1} {D : Addr} (h : Nat → PV) (hD : G1 D = none) (hl : m < sizeLine)
    (hs : ∀ i, i < m → ∀ (G : GH) (Ky : PK1) (Kn : GH → Prop), Sub G1 G → Ky (h i) G → lcTurn g tt te (.int (lo + (i : Nat))) env G Ky Kn)
    (he : P (.lst ((List.range m).map h)) G1) : ∃ (I : Nat → List PV → GH → Prop) (n : Nat), I 0 [] (gset G1 D (.lst [])) ∧ ∀ i acc G, i ≤ n → I i acc G →
      ((itR lo m).done i G ∧ G D = some (.lst acc) ∧ (if false = true then P (.ref D) G else P (.lst acc) (gdel G D))) ∨
      (i < n ∧ ∃ x, (itR lo m).item i G x ∧ g x env G (fun env2 G2 => tt env2 G2 (fun b G3 => if b = true then te env2 G3 (fun y G4 => G4 D = some (.lst acc) ∧ acc.length < sizeLine ∧ I (i + 1) (acc ++ [y]) (gset G4 D (.lst (acc ++ [y])))) noX else I (i + 1) acc G3) noX) noX) := by
  refine lc_invF (J := itR lo m) (g := g) (tt := tt) (te := te) (env := env) (P := P) m (fun i acc G => acc = (List.range i).map h ∧ G = gset G1 D (.lst acc)) hl ⟨rfl, rfl⟩ (fun i acc G Ky Kn hi hS hG hle h1 h2 => ?_) fun acc G hS hG => ⟨Nat.le_refl _, ?_⟩
  · obtain ⟨rfl, rfl⟩ := hS
    refine ⟨_, itR_item hi, hs i hi _ _ _ (Sub.new hD) (h1 _ _ gset_same ⟨by rw [List.range_succ, List.map_append]; rfl, gset_gset⟩)⟩
  · obtain ⟨rfl, rfl⟩ := hS
    rw [gdel_gset hD]; exact he
/-- a comprehension by an invariant -/
theorem lc_invT {J : PIt} {g : PTG} {tt : PTT} {te : PTE} {env : PEn} {G1 : GH} {P : PK1} {D : Addr} (n : Nat) (S : Nat → List PV → GH → Prop) (hl : n < sizeLine) (h0 : S 0 [] (gset G1 D (.lst [])))
    (hs : ∀ i acc (G : GH) (Ky : PK1) (Kn : GH → Prop), i < n → S i acc G → G D = some (.lst acc) → acc.length ≤ i → (∀ y G2, G2 D = some (.lst acc) → S (i + 1) (acc ++ [y]) (gset G2 D (.lst (acc ++ [y]))) → Ky y G2) → (∀ G2, G2 D = some (.lst acc) → S (i + 1) acc G2 → Kn G2) → ∃ x, J.item i G x ∧ lcTurn g tt te x env G Ky Kn)
    (he : ∀ acc (G : GH), S n acc G → G D = some (.lst acc) → J.done n G ∧ P (.ref D) G) : ∃ (I : Nat → List PV → GH → Prop) (n : Nat), I 0 [] (gset G1 D (.lst [])) ∧ ∀ i acc G, i ≤ n → I i acc G →
      ((J).done i G ∧ G D = some (.lst acc) ∧ (if true = true then P (.ref D) G else P (.lst acc) (gdel G D))) ∨
      (i < n ∧ ∃ x, (J).item i G x ∧ g x env G (fun env2 G2 => tt env2 G2 (fun b G3 => if b = true then te env2 G3 (fun y G4 => G4 D = some (.lst acc) ∧ acc.length < sizeLine ∧ I (i + 1) (acc ++ [y]) (gset G4 D (.lst (acc ++ [y])))) noX else I (i + 1) acc G3) noX) noX) := by
  refine ⟨fun i acc G => S i acc G ∧ G D = some (.lst acc) ∧ acc.length ≤ i, n, ⟨h0, gset_same, Nat.le_refl _⟩, fun i acc G hi h => ?_⟩
  obtain ⟨h1, h2, h3⟩ := h
  by_cases l : i < n
  · refine .inr ⟨l, hs i acc G _ _ l h1 h2 h3 (fun y G2 e2 s2 => ⟨e2, by omega, s2, gset_same, by rw [List.length_append]; exact Nat.succ_le_succ h3⟩) fun G2 e2 s2 => ⟨s2, e2, by omega⟩⟩
  · have e : i = n := by omega
    subst e
    obtain ⟨q1, q2⟩ := he acc G h1 h2
    exact .inl ⟨q1, h2, by simpa using q2⟩
/-- .. over range, nothing changed -/
theorem lc_rngT {lo : Int} {m : Nat} {g : PTG} {tt : PTT} {te : PTE} {env : PEn} {G1 : GH} {P : PK1} {D : Addr} (h : Nat → PV) (hD : G1 D = none) (hl : m < sizeLine)
    (hs : ∀ i, i < m → ∀ (G : GH) (Ky : PK1) (Kn : GH → Prop), Sub G1 G → Ky (h i) G → lcTurn g tt te (.int (lo + (i : Nat))) env G Ky Kn)
    (he : P (.ref D) (gset G1 D (.lst ((List.range m).map h)))) : ∃ (I : Nat → List PV → GH → Prop) (n : Nat), I 0 [] (gset G1 D (.lst [])) ∧ ∀ i acc G, i ≤ n → I i acc G →
      ((itR lo m).done i G ∧ G D = some (.lst acc) ∧ (if true = true then P (.ref D) G else P (.lst acc) (gdel G D))) ∨
      (i < n ∧ ∃ x, (itR lo m).item i G x ∧ g x env G (fun env2 G2 => tt env2 G2 (fun b G3 => if b = true then te env2 G3 (fun y G4 => G4 D = some (.lst acc) ∧ acc.length < sizeLine ∧ I (i + 1) (acc ++ [y]) (gset G4 D (.lst (acc ++ [y])))) noX else I (i + 1) acc G3) noX) noX) := by
  refine lc_invT (J := itR lo m) (g := g) (tt := tt) (te := te) (env := env) (P := P) m (fun i acc G => acc = (List.range i).map h ∧ G = gset G1 D (.lst acc)) hl ⟨rfl, rfl⟩ (fun i acc G Ky Kn hi hS hG hle h1 h2 => ?_) fun acc G hS hG => ⟨Nat.le_refl _, ?_⟩
  · obtain ⟨rfl, rfl⟩ := hS
    refine ⟨_, itR_item hi, hs i hi _ _ _ (Sub.new hD) (h1 _ _ gset_same ⟨by rw [List.range_succ, List.map_append]; rfl, gset_gset⟩)⟩
  · obtain ⟨rfl, rfl⟩ := hS
    exact he
theorem lst_append {a : Addr} {xs : List PV} {G : GH} (h : G a = some (.lst xs)) : gset G a (.lst xs) = G := gset_id h
theorem gset_gdel {G : GH} {a : Addr} {o u : GO} (h : G a = some o) : gset (gdel G a) a u = gset G a u := by
  funext b
  unfold gset gdel
  by_cases e : b = a
  · rw [if_pos e, if_pos e]
  · rw [if_neg e, if_neg e, if_neg e]
theorem gdel_ne {G : GH} {a b : Addr} (h : b ≠ a) : gdel G a b = G b := by unfold gdel; rw [if_neg h]
theorem putS_len (f : Str) (v : PV) : ∀ fs : List (Str × PV), (putS f v fs).length ≤ fs.length + 1
  | [] => Nat.le_refl _
  | (g, x) :: r => by
    have := putS_len f v r
    unfold putS
    split
    · simp only [List.length_cons]; omega
    · simp only [List.length_cons]; omega
end PL
end

section
namespace K58
open PySem PySem.Spec PyProof.Rows L2 RZ PL
def topS (i : Nat) : Stmt := PySem.Challenge.pw_emptierbox_k58_whole_rooms_and_draws.main.body.getD i (.Pass ⟨0, 0, 0, 0⟩)
abbrev s_chosen : Stmt := topS 1
abbrev N_chosen : List Str := ["stand", "draw", "best", "box"]
theorem sc_chosen : FnScope N_chosen ["stand", "draw"] (defScope s_chosen) := ⟨rfl, rfl, rfl, by decide +kernel, rfl, by decide +kernel, by decide +kernel⟩
abbrev s_by_draws : Stmt := topS 2
abbrev N_by_draws : List Str := ["stand", "draws", "numbers", "boxes", "draw", "box"]
theorem sc_by_draws : FnScope N_by_draws ["stand", "draws"] (defScope s_by_draws) := ⟨rfl, rfl, rfl, by decide +kernel, rfl, by decide +kernel, by decide +kernel⟩
abbrev s_is_whole : Stmt := topS 9
abbrev N_is_whole : List Str := ["thing"]
theorem sc_is_whole : FnScope N_is_whole ["thing"] (defScope s_is_whole) := ⟨rfl, rfl, rfl, by decide +kernel, rfl, by decide +kernel, by decide +kernel⟩
abbrev s_sorted_load : Stmt := topS 11
abbrev N_sorted_load : List Str := ["numbers"]
theorem sc_sorted_load : FnScope N_sorted_load ["numbers"] (defScope s_sorted_load) := ⟨rfl, rfl, rfl, by decide +kernel, rfl, by decide +kernel, by decide +kernel⟩
abbrev s_Room___init__ : Stmt := inClass (topS 14) 0
abbrev N_Room___init__ : List Str := ["self", "n"]
theorem sc_Room___init__ : FnScope N_Room___init__ ["self", "n"] (defScope s_Room___init__) := ⟨rfl, rfl, rfl, by decide +kernel, rfl, by decide +kernel, by decide +kernel⟩
abbrev s_Room_put : Stmt := inClass (topS 14) 1
abbrev N_Room_put : List Str := ["self", "draw", "box", "ball"]
theorem sc_Room_put : FnScope N_Room_put ["self", "draw"] (defScope s_Room_put) := ⟨rfl, rfl, rfl, by decide +kernel, rfl, by decide +kernel, by decide +kernel⟩
abbrev s_Room_where : Stmt := inClass (topS 14) 2
abbrev N_Room_where : List Str := ["self", "ball"]
theorem sc_Room_where : FnScope N_Room_where ["self", "ball"] (defScope s_Room_where) := ⟨rfl, rfl, rfl, by decide +kernel, rfl, by decide +kernel, by decide +kernel⟩
abbrev s_Room_leave : Stmt := inClass (topS 14) 3
abbrev N_Room_leave : List Str := ["self", "ball", "box"]
theorem sc_Room_leave : FnScope N_Room_leave ["self", "ball"] (defScope s_Room_leave) := ⟨rfl, rfl, rfl, by decide +kernel, rfl, by decide +kernel, by decide +kernel⟩
abbrev s_Room_back : Stmt := inClass (topS 14) 4
abbrev N_Room_back : List Str := ["self", "came", "ball", "box"]
theorem sc_Room_back : FnScope N_Room_back ["self"] (defScope s_Room_back) := ⟨rfl, rfl, rfl, by decide +kernel, rfl, by decide +kernel, by decide +kernel⟩
abbrev s_Room_stand : Stmt := inClass (topS 14) 5
abbrev N_Room_stand : List Str := ["self", "counts", "ball", "box"]
theorem sc_Room_stand : FnScope N_Room_stand ["self"] (defScope s_Room_stand) := ⟨rfl, rfl, rfl, by decide +kernel, rfl, by decide +kernel, by decide +kernel⟩
abbrev s_Room_load : Stmt := inClass (topS 14) 6
abbrev N_Room_load : List Str := ["self"]
theorem sc_Room_load : FnScope N_Room_load ["self"] (defScope s_Room_load) := ⟨rfl, rfl, rfl, by decide +kernel, rfl, by decide +kernel, by decide +kernel⟩
abbrev s_l_pen : Stmt := topS 16
abbrev N_l_pen : List Str := ["_law_script"]
theorem sc_l_pen : FnScope N_l_pen ["_law_script"] (defScope s_l_pen) := ⟨rfl, rfl, rfl, by decide +kernel, rfl, by decide +kernel, by decide +kernel⟩
abbrev s_l_draw : Stmt := topS 17
abbrev N_l_draw : List Str := ["_law_pen_here", "_law_many", "_law_at", "_law_cell", "_law_prime", "_law_number", "_law_found"]
theorem sc_l_draw : FnScope N_l_draw ["_law_pen_here", "_law_many"] (defScope s_l_draw) := ⟨rfl, rfl, rfl, by decide +kernel, rfl, by decide +kernel, by decide +kernel⟩
abbrev s_l_draws : Stmt := topS 18
abbrev N_l_draws : List Str := ["_law_pen_here", "_law_n", "_law_most", "_law_way", "_law_size", "_law_many", "_law_found", "_law_k", "_law_boxes", "_law_j"]
theorem sc_l_draws : FnScope N_l_draws ["_law_pen_here", "_law_n", "_law_most"] (defScope s_l_draws) := ⟨rfl, rfl, rfl, by decide +kernel, rfl, by decide +kernel, by decide +kernel⟩
abbrev s_l_order : Stmt := topS 19
abbrev N_l_order : List Str := ["_law_pen_here", "_law_some", "_law_left", "_law_found", "_law_k"]
theorem sc_l_order : FnScope N_l_order ["_law_pen_here", "_law_some"] (defScope s_l_order) := ⟨rfl, rfl, rfl, by decide +kernel, rfl, by decide +kernel, by decide +kernel⟩
abbrev s_l_filled : Stmt := topS 20
abbrev N_l_filled : List Str := ["_law_n", "_law_draws_here", "_law_room", "_law_draw_here"]
theorem sc_l_filled : FnScope N_l_filled ["_law_n", "_law_draws_here"] (defScope s_l_filled) := ⟨rfl, rfl, rfl, by decide +kernel, rfl, by decide +kernel, by decide +kernel⟩
abbrev s_l_restless : Stmt := topS 21
abbrev N_l_restless : List Str := ["_law_n", "_law_draws_here", "_law_room", "_law_found", "_law_draw_here", "_law_ball", "_law_box"]
theorem sc_l_restless : FnScope N_l_restless ["_law_n", "_law_draws_here"] (defScope s_l_restless) := ⟨rfl, rfl, rfl, by decide +kernel, rfl, by decide +kernel, by decide +kernel⟩
abbrev s_l_left_right : Stmt := topS 22
abbrev N_l_left_right : List Str := ["_law_pen_here", "_law_n", "_law_draws_here", "_law_gone", "_law_stands", "_law_again", "_law_room", "_law_balls", "_law_full", "_law_ball", "_law_here", "_law_boxes", "_law_k", "_law_box"]
theorem sc_l_left_right : FnScope N_l_left_right ["_law_pen_here", "_law_n", "_law_draws_here", "_law_gone"] (defScope s_l_left_right) := ⟨rfl, rfl, rfl, by decide +kernel, rfl, by decide +kernel, by decide +kernel⟩
abbrev s_law : Stmt := topS 23
abbrev N_law : List Str := ["_law_script", "_law_pen_here", "_law_k", "_law_n", "_law_draws_here", "_law_room", "_law_balls", "_law_stand", "_law_boxes", "_law_gone", "_law_ball", "_law_box"]
theorem sc_law : FnScope N_law ["_law_script"] (defScope s_law) := ⟨rfl, rfl, rfl, by decide +kernel, rfl, by decide +kernel, by decide +kernel⟩
structure Txt (K : PySem.W.Frag) (mg : Str → Option Value) where
  c_Room : Addr
  m_Room : mg "Room" = some (.ref c_Room)
  cl_Room : Cls K c_Room
  a_chosen : Addr
  fd_chosen : FuncData
  F_chosen : Fun K "chosen" "chosen" s_chosen a_chosen fd_chosen
  b_chosen : Binds K fd_chosen ["stand", "draw"] []
  m_chosen : mg "chosen" = some (.ref a_chosen)
  a_by_draws : Addr
  fd_by_draws : FuncData
  F_by_draws : Fun K "by_draws" "by_draws" s_by_draws a_by_draws fd_by_draws
  b_by_draws : Binds K fd_by_draws ["stand", "draws"] []
  m_by_draws : mg "by_draws" = some (.ref a_by_draws)
  a_is_whole : Addr
  fd_is_whole : FuncData
  F_is_whole : Fun K "is_whole" "is_whole" s_is_whole a_is_whole fd_is_whole
  b_is_whole : Binds K fd_is_whole ["thing"] []
  m_is_whole : mg "is_whole" = some (.ref a_is_whole)
  a_sorted_load : Addr
  fd_sorted_load : FuncData
  F_sorted_load : Fun K "sorted_load" "sorted_load" s_sorted_load a_sorted_load fd_sorted_load
  b_sorted_load : Binds K fd_sorted_load ["numbers"] []
  m_sorted_load : mg "sorted_load" = some (.ref a_sorted_load)
  a_Room___init__ : Addr
  fd_Room___init__ : FuncData
  F_Room___init__ : Fun K "__init__" "Room.__init__" s_Room___init__ a_Room___init__ fd_Room___init__
  b_Room___init__ : Binds K fd_Room___init__ ["self", "n"] []
  mk_Room : Mk K c_Room a_Room___init__
  a_Room_put : Addr
  fd_Room_put : FuncData
  F_Room_put : Fun K "put" "Room.put" s_Room_put a_Room_put fd_Room_put
  b_Room_put : Binds K fd_Room_put ["self", "draw"] []
  me_Room_put : Meth K c_Room "put" a_Room_put
  a_Room_where : Addr
  fd_Room_where : FuncData
  F_Room_where : Fun K "where" "Room.where" s_Room_where a_Room_where fd_Room_where
  b_Room_where : Binds K fd_Room_where ["self", "ball"] []
  me_Room_where : Meth K c_Room "where" a_Room_where
  a_Room_leave : Addr
  fd_Room_leave : FuncData
  F_Room_leave : Fun K "leave" "Room.leave" s_Room_leave a_Room_leave fd_Room_leave
  b_Room_leave : Binds K fd_Room_leave ["self", "ball"] []
  me_Room_leave : Meth K c_Room "leave" a_Room_leave
  a_Room_back : Addr
  fd_Room_back : FuncData
  F_Room_back : Fun K "back" "Room.back" s_Room_back a_Room_back fd_Room_back
  b_Room_back : Binds K fd_Room_back ["self"] []
  me_Room_back : Meth K c_Room "back" a_Room_back
  a_Room_stand : Addr
  fd_Room_stand : FuncData
  F_Room_stand : Fun K "stand" "Room.stand" s_Room_stand a_Room_stand fd_Room_stand
  b_Room_stand : Binds K fd_Room_stand ["self"] []
  me_Room_stand : Meth K c_Room "stand" a_Room_stand
  a_Room_load : Addr
  fd_Room_load : FuncData
  F_Room_load : Fun K "load" "Room.load" s_Room_load a_Room_load fd_Room_load
  b_Room_load : Binds K fd_Room_load ["self"] []
  me_Room_load : Meth K c_Room "load" a_Room_load
  a_l_pen : Addr
  fd_l_pen : FuncData
  F_l_pen : Fun K "_law_pen" "_law_pen" s_l_pen a_l_pen fd_l_pen
  b_l_pen : Binds K fd_l_pen ["_law_script"] []
  m_l_pen : mg "_law_pen" = some (.ref a_l_pen)
  a_l_draw : Addr
  fd_l_draw : FuncData
  F_l_draw : Fun K "_law_draw" "_law_draw" s_l_draw a_l_draw fd_l_draw
  b_l_draw : Binds K fd_l_draw ["_law_pen_here", "_law_many"] []
  m_l_draw : mg "_law_draw" = some (.ref a_l_draw)
  a_l_draws : Addr
  fd_l_draws : FuncData
  F_l_draws : Fun K "_law_draws" "_law_draws" s_l_draws a_l_draws fd_l_draws
  b_l_draws : Binds K fd_l_draws ["_law_pen_here", "_law_n", "_law_most"] []
  m_l_draws : mg "_law_draws" = some (.ref a_l_draws)
  a_l_order : Addr
  fd_l_order : FuncData
  F_l_order : Fun K "_law_order" "_law_order" s_l_order a_l_order fd_l_order
  b_l_order : Binds K fd_l_order ["_law_pen_here", "_law_some"] []
  m_l_order : mg "_law_order" = some (.ref a_l_order)
  a_l_filled : Addr
  fd_l_filled : FuncData
  F_l_filled : Fun K "_law_filled" "_law_filled" s_l_filled a_l_filled fd_l_filled
  b_l_filled : Binds K fd_l_filled ["_law_n", "_law_draws_here"] []
  m_l_filled : mg "_law_filled" = some (.ref a_l_filled)
  a_l_restless : Addr
  fd_l_restless : FuncData
  F_l_restless : Fun K "_law_restless" "_law_restless" s_l_restless a_l_restless fd_l_restless
  b_l_restless : Binds K fd_l_restless ["_law_n", "_law_draws_here"] []
  m_l_restless : mg "_law_restless" = some (.ref a_l_restless)
  a_l_left_right : Addr
  fd_l_left_right : FuncData
  F_l_left_right : Fun K "_law_left_right" "_law_left_right" s_l_left_right a_l_left_right fd_l_left_right
  b_l_left_right : Binds K fd_l_left_right ["_law_pen_here", "_law_n", "_law_draws_here", "_law_gone"] []
  m_l_left_right : mg "_law_left_right" = some (.ref a_l_left_right)
  a_law : Addr
  fd_law : FuncData
  F_law : Fun K "law" "law" s_law a_law fd_law
  b_law : Binds K fd_law ["_law_script"] []
  m_law : mg "law" = some (.ref a_law)
  na_Room_known : NoAttr K c_Room "known"
  na_Room_lying : NoAttr K c_Room "lying"
  na_Room_many : NoAttr K c_Room "many"
  na_Room_past : NoAttr K c_Room "past"
  v_MOST_BALLS : ∃ t, mg "MOST_BALLS" = some (.int 60 t)
  z_abs : mg "abs" = none
  z_all : mg "all" = none
  z_bool : mg "bool" = none
  z_int : mg "int" = none
  z_isinstance : mg "isinstance" = none
  z_len : mg "len" = none
  z_list : mg "list" = none
  z_range : mg "range" = none
  z_sorted : mg "sorted" = none
  z_tuple : mg "tuple" = none

/-! ### mirrors -/
def tI (zs : List Int) : PV := .tup (zs.map .int)
def lI (zs : List Int) : PV := .lst (zs.map .int)
def atZ (zs : List Int) (i : Int) : Int := zs.getD i.toNat 0
def chooseGo (zs : List Int) (best : Int) : List Int → Int
  | [] => best
  | d :: r => chooseGo zs (if atZ zs d < atZ zs best then d else best) r
def choose (zs ds : List Int) : Int := chooseGo zs (ds.headD 0) ds
def incAt (zs : List Int) (i : Int) : List Int := zs.set i.toNat (atZ zs i + 1)
def byDraws (zs : List Int) : List (List Int) → List Int × List Int
  | [] => (zs, [])
  | ds :: r => let b := choose zs ds; let q := byDraws (incAt zs b) r; (q.1, b :: q.2)
def InB (n : Nat) (ds : List Int) : Prop := ds ≠ [] ∧ ∀ d ∈ ds, 0 ≤ d ∧ d < (n : Int)
def AllB (n : Nat) (dss : List (List Int)) : Prop := ∀ ds ∈ dss, InB n ds
/-! ### promises -/
def IsPen (n : Int) (o : GO) : Prop := ∃ (cs : List Int) (t l : Int), o = .dk [(.inr "cells", lI cs), (.inr "at", .int t), (.inr "left", .int l)] ∧ cs.length ≤ 63 ∧ 0 ≤ t ∧ t ≤ n ∧ 0 ≤ l
def sp_chosen : PSp := fun xs G Q _ => ∃ (s : PV) (zs ds : List Int), xs = [s, tI ds] ∧ seqOf G s = some (zs.map .int) ∧ InB zs.length ds ∧ Q (.int (choose zs ds)) G
def sp_by_draws : PSp := fun xs G Q _ => ∃ (zs : List Int) (dss : List (List Int)), xs = [tI zs, .lst (dss.map tI)] ∧ AllB zs.length dss ∧ dss.length ≤ 1000 ∧ ∀ b, G b = none → Q (.tup [tI (byDraws zs dss).1, .ref b]) (gset G b (.lst ((byDraws zs dss).2.map .int)))
def sp_l_pen : PSp := fun xs G Q _ => ∃ ns : List Int, xs = [.scr ns] ∧ ∀ p o, G p = none → IsPen 0 o → Q (.ref p) (gset G p o)
def sp_l_draw : PSp := fun xs G Q _ => ∃ (p : Addr) (m n : Int) (o : GO), xs = [.ref p, .int m] ∧ 0 < m ∧ m < 1000000000 ∧ G p = some o ∧ IsPen n o ∧ n ≤ 1000000 ∧ ∀ r o', 0 ≤ r → r < m → IsPen (n + 1) o' → Q (.int r) (gset G p o')
def sp_l_draws : PSp := fun xs G Q _ => ∃ (p : Addr) (n M k : Int) (o : GO), xs = [.ref p, .int n, .int M] ∧ 1 ≤ n ∧ n ≤ 6 ∧ 0 ≤ M ∧ M ≤ 60 ∧ G p = some o ∧ IsPen k o ∧ k ≤ 900000 ∧ ∀ (dss : List (List Int)) o', (dss.length : Int) ≤ max M 2 → AllB n.toNat dss → (∀ ds ∈ dss, ds.length ≤ 3) → IsPen (k + 300) o' → Q (.lst (dss.map tI)) (gset G p o')
/-! ### rooms -/
structure Rm where
  n : Nat
  ly : List (Int × Int)
  kn : Int
  pa : List (Bool × Int × Int)
def lyP (l : List (Int × Int)) : List (Key × PV) := l.map fun p => (.inl p.1, .int p.2)
def paP (l : List (Bool × Int × Int)) : List PV := l.map fun p => .tup [.bl p.1, .int p.2.1, .int p.2.2]
def RoomAt (C : Addr) (G : GH) (r a b : Addr) (S : Rm) : Prop := G r = some (.ins C [("many", .int S.n), ("lying", .ref a), ("known", .int S.kn), ("past", .ref b)]) ∧ G a = some (.dk (lyP S.ly)) ∧ G b = some (.lst (paP S.pa))
def Frm (G G' : GH) (r a b : Addr) : Prop := ∀ x, x ≠ r → x ≠ a → x ≠ b → G' x = G x
def Rm.Ok (S : Rm) : Prop := (∀ p ∈ S.ly, p.1 < S.kn ∧ 0 ≤ p.2 ∧ p.2 < (S.n : Int)) ∧ (S.ly.map (·.1)).Nodup ∧ S.n ≤ 1000
def standOf (n : Nat) (l : List (Int × Int)) : List Int := l.foldl (fun c p => incAt c p.2) (List.replicate n 0)
def Rm.stand (S : Rm) : List Int := standOf S.n S.ly
def Rm.new (n : Nat) : Rm := ⟨n, [], 0, []⟩
def Rm.put (S : Rm) (ds : List Int) : Rm := ⟨S.n, S.ly ++ [(S.kn, choose S.stand ds)], S.kn + 1, S.pa ++ [(true, S.kn, choose S.stand ds)]⟩
def Rm.find (S : Rm) (z : Int) : Option Int := (S.ly.find? fun p => decide (p.1 = z)).map (·.2)
def dropZ (l : List (Int × Int)) (z : Int) : List (Int × Int) := l.filter fun p => decide (p.1 ≠ z)
def Rm.leave (S : Rm) (z b : Int) : Rm := ⟨S.n, dropZ S.ly z, S.kn, S.pa ++ [(false, z, b)]⟩
def undo (l : List (Int × Int)) (c : Bool) (z b : Int) : List (Int × Int) := if c = true then dropZ l z else l ++ [(z, b)]
def sp_is_whole : PSp := fun xs G Q _ => ∃ (x : PV) (t : String), xs = [x] ∧ tyP G x = some t ∧ Q (.bl (t == "int")) G
def sp_sorted_load : PSp := fun xs G Q _ => ∃ zs : List Int, xs = [tI zs] ∧ Q (tI (sortD zs)) G
def sp_Room___init__ (C : Addr) : PSp := fun xs G Q _ => ∃ (r : Addr) (n : Nat), xs = [.ref r, .int n] ∧ G r = some (.ins C []) ∧ ∀ a b G', G a = none → G b = none → a ≠ b → RoomAt C G' r a b (Rm.new n) → Frm G G' r a b → Q .non G'
def sp_Room_put (C : Addr) : PSp := fun xs G Q _ => ∃ (r a b : Addr) (S : Rm) (ds : List Int), xs = [.ref r, tI ds] ∧ RoomAt C G r a b S ∧ S.Ok ∧ S.ly.length < 60 ∧ S.pa.length ≤ 1000 ∧ InB S.n ds ∧ ∀ G', RoomAt C G' r a b (S.put ds) → Frm G G' r a b → Q (.tup [.int S.kn, .int (choose S.stand ds)]) G'
def sp_Room_where (C : Addr) : PSp := fun xs G Q _ => ∃ (r a b : Addr) (S : Rm) (z x : Int), xs = [.ref r, .int z] ∧ RoomAt C G r a b S ∧ S.find z = some x ∧ Q (.int x) G
def sp_Room_leave (C : Addr) : PSp := fun xs G Q _ => ∃ (r a b : Addr) (S : Rm) (z x : Int), xs = [.ref r, .int z] ∧ RoomAt C G r a b S ∧ S.pa.length ≤ 1000 ∧ S.find z = some x ∧ ∀ G', RoomAt C G' r a b (S.leave z x) → Frm G G' r a b → Q (.int x) G'
def sp_Room_back (C : Addr) : PSp := fun xs G Q _ => ∃ (r a b : Addr) (n : Nat) (ly : List (Int × Int)) (kn : Int) (pa : List (Bool × Int × Int)) (c : Bool) (z x : Int), xs = [.ref r] ∧ RoomAt C G r a b ⟨n, ly, kn, pa ++ [(c, z, x)]⟩ ∧ ly.length ≤ 60 ∧ (c = true → ∃ y, Rm.find ⟨n, ly, kn, pa⟩ z = some y) ∧ (c = false → Rm.find ⟨n, ly, kn, pa⟩ z = none) ∧
  ∀ G', RoomAt C G' r a b ⟨n, undo ly c z x, kn, pa⟩ → Frm G G' r a b → Q (.int z) G'
def sp_Room_stand (C : Addr) : PSp := fun xs G Q _ => ∃ (r a b : Addr) (S : Rm), xs = [.ref r] ∧ RoomAt C G r a b S ∧ S.Ok ∧ Q (tI S.stand) G
def sp_Room_load (C : Addr) : PSp := fun xs G Q _ => ∃ (r a b : Addr) (S : Rm), xs = [.ref r] ∧ RoomAt C G r a b S ∧ S.Ok ∧ Q (tI (sortD S.stand)) G
def putAll (S : Rm) (dss : List (List Int)) : Rm := dss.foldl Rm.put S
def ballsOf (S : Rm) : List (List Int) → List (Int × Int)
  | [] => []
  | ds :: r => (S.kn, choose S.stand ds) :: ballsOf (S.put ds) r
def pairZ (p : Int × Int) : PV := .tup [.int p.1, .int p.2]
def sp_l_order : PSp := fun xs G Q _ => ∃ (p : Addr) (zs : List Int) (k : Int) (o : GO), xs = [.ref p, .lst (zs.map .int)] ∧ G p = some o ∧ IsPen k o ∧ zs.length ≤ 60 ∧ k ≤ 900000 ∧ ∀ (ys : List Int) o', ys.Perm zs → IsPen (k + 60) o' → Q (.lst (ys.map .int)) (gset G p o')
def sp_l_filled (C : Addr) : PSp := fun xs G Q _ => ∃ (n : Nat) (dss : List (List Int)), xs = [.int n, .lst (dss.map tI)] ∧ n ≤ 6 ∧ AllB n dss ∧ dss.length ≤ 30 ∧
  ∀ r a b G', G r = none → G a = none → G b = none → a ≠ b → RoomAt C G' r a b (putAll (Rm.new n) dss) → Frm G G' r a b → Q (.tup [.ref r, .lst ((ballsOf (Rm.new n) dss).map pairZ)]) G'
def sp_l_restless (C : Addr) : PSp := fun xs G Q _ => ∃ (n : Nat) (dss : List (List Int)), xs = [.int n, .lst (dss.map tI)] ∧ n ≤ 6 ∧ AllB n dss ∧ dss.length ≤ 30 ∧ Q (.lst ((byDraws (List.replicate n 0) dss).2.map .int)) G
def sp_l_left_right (C : Addr) : PSp := fun xs G Q _ => ∃ (p : Addr) (n : Nat) (dss : List (List Int)) (gone : List Int) (k : Int) (o : GO), xs = [.ref p, .int n, .lst (dss.map tI), .lst (gone.map .int)] ∧ 1 ≤ n ∧ n ≤ 6 ∧ AllB n dss ∧ dss.length ≤ 30 ∧ gone.Nodup ∧ (∀ z ∈ gone, 0 ≤ z ∧ z < (dss.length : Int)) ∧ G p = some o ∧ IsPen k o ∧ k ≤ 800000 ∧
  ∀ o', IsPen (k + 120) o' → Q (.bl true) (gset G p o')
def sp_law : PSp := lawSp 63
def t_chosen : PTS :=
    (pSeq (pSet 2 (pOp rIx (pVar 1) (pC (.int 0))))
    (pSeq (pFor (pISeq (pVar 1)) (pgName 3)
    (pIf (pTb (pOp rLt (pOp rIx (pVar 0) (pVar 3)) (pOp rIx (pVar 0) (pVar 2))))
    (pSet 2 (pVar 3))
    pNext))
    (pRet (pVar 2))))
theorem d_chosen {P : Program} {w : World} {K : PySem.W.Frag} {mg : Str → Option Value} {base : Heap} (T : Txt K mg) {cdv : Value} {A : Around} {outer : List Env} {s : Shared} {H : Hp} {E : XK} (hgd : A.guards = some []) (hr : Room 0 (A.deeper (envOfC "chosen" (defScope s_chosen) s.heap.objs.size T.a_chosen cdv))) :
    QB (cxOf (L2.CX P w) P w K mg base N_chosen "chosen" (defScope s_chosen) T.a_chosen cdv A outer s H E) (defBody s_chosen) (t_chosen) :=
  have hp : PassesOwn (model P w) (cxOf (L2.CX P w) P w K mg base N_chosen "chosen" (defScope s_chosen) T.a_chosen cdv A outer s H E).A (cxOf (L2.CX P w) P w K mg base N_chosen "chosen" (defScope s_chosen) T.a_chosen cdv A outer s H E).env (cxOf (L2.CX P w) P w K mg base N_chosen "chosen" (defScope s_chosen) T.a_chosen cdv A outer s H E).xe := passes_of rfl
  (qb_cons (qs_set (i := 2) sc_chosen.nd rfl (Or.inl rfl) (qe_ix (q_ix (hu_of hr)) (qe_var 1) qe_int))
    (qb_cons (qs_for hp rfl (qi_seq (qe_var 1)) (qg_name (i := 3) (ws := [3]) sc_chosen.nd rfl (by first | exact Or.inl rfl | exact Or.inr rfl))
    (qb_one (qs_if (qt_cmp q_lt (qe_ix (q_ix (hu_of hr)) (qe_var 0) (qe_var 3)) (qe_ix (q_ix (hu_of hr)) (qe_var 0) (qe_var 2)))
    (qb_one (qs_set (i := 2) sc_chosen.nd rfl (Or.inl rfl) (qe_var 3)))
    qb_nil)))
    (qb_one (qs_ret (qe_var 2)))))
abbrev Ok_chosen (P : Program) (w : World) (K : PySem.W.Frag) (mg : Str → Option Value) (base : Heap) (T : Txt K mg) : Prop := FnP P w K mg base 1 T.a_chosen T.fd_chosen ["stand", "draw"] sp_chosen

def t_is_whole : PTS :=
    (pRet (pAndV (pCB rIsi (pCons (pVar 0) (pCons (pC (.ty "int")) pNil))) (pNotV (pCB rIsi (pCons (pVar 0) (pCons (pC (.ty "bool")) pNil))))))
theorem d_is_whole {P : Program} {w : World} {K : PySem.W.Frag} {mg : Str → Option Value} {base : Heap} (T : Txt K mg) {cdv : Value} {A : Around} {outer : List Env} {s : Shared} {H : Hp} {E : XK} (hgd : A.guards = some []) (hr : Room 0 (A.deeper (envOfC "is_whole" (defScope s_is_whole) s.heap.objs.size T.a_is_whole cdv))) :
    QB (cxOf (L2.CX P w) P w K mg base N_is_whole "is_whole" (defScope s_is_whole) T.a_is_whole cdv A outer s H E) (defBody s_is_whole) (t_is_whole) :=
  have hp : PassesOwn (model P w) (cxOf (L2.CX P w) P w K mg base N_is_whole "is_whole" (defScope s_is_whole) T.a_is_whole cdv A outer s H E).A (cxOf (L2.CX P w) P w K mg base N_is_whole "is_whole" (defScope s_is_whole) T.a_is_whole cdv A outer s H E).env (cxOf (L2.CX P w) P w K mg base N_is_whole "is_whole" (defScope s_is_whole) T.a_is_whole cdv A outer s H E).xe := passes_of rfl
  (qb_one (qs_ret (qe_and (qe_callB q_isi rfl T.z_isinstance boot_isinstance (qa_cons (qe_var 0) (qa_cons (qe_bty rfl T.z_int boot_int) qa_nil))) (qe_one (qe_not (qe_callB q_isi rfl T.z_isinstance boot_isinstance (qa_cons (qe_var 0) (qa_cons (qe_bty rfl T.z_bool boot_bool) qa_nil))))))))
abbrev Ok_is_whole (P : Program) (w : World) (K : PySem.W.Frag) (mg : Str → Option Value) (base : Heap) (T : Txt K mg) : Prop := FnP P w K mg base 1 T.a_is_whole T.fd_is_whole ["thing"] sp_is_whole

def t_sorted_load : PTS :=
    (pRet (pCB rTuple (pCons (pSortedR false true (pCons (pVar 0) pNil)) pNil)))
theorem d_sorted_load {P : Program} {w : World} {K : PySem.W.Frag} {mg : Str → Option Value} {base : Heap} (T : Txt K mg) {cdv : Value} {A : Around} {outer : List Env} {s : Shared} {H : Hp} {E : XK} (hgd : A.guards = some []) (hr : Room 0 (A.deeper (envOfC "sorted_load" (defScope s_sorted_load) s.heap.objs.size T.a_sorted_load cdv))) :
    QB (cxOf (L2.CX P w) P w K mg base N_sorted_load "sorted_load" (defScope s_sorted_load) T.a_sorted_load cdv A outer s H E) (defBody s_sorted_load) (t_sorted_load) :=
  have hp : PassesOwn (model P w) (cxOf (L2.CX P w) P w K mg base N_sorted_load "sorted_load" (defScope s_sorted_load) T.a_sorted_load cdv A outer s H E).A (cxOf (L2.CX P w) P w K mg base N_sorted_load "sorted_load" (defScope s_sorted_load) T.a_sorted_load cdv A outer s H E).env (cxOf (L2.CX P w) P w K mg base N_sorted_load "sorted_load" (defScope s_sorted_load) T.a_sorted_load cdv A outer s H E).xe := passes_of rfl
  (qb_one (qs_ret (qe_callT q_tuple rfl T.z_tuple boot_tuple (qa_cons (qe_sortedR (own := false) (b := true) rfl T.z_sorted boot_sorted (qa_cons (qe_var 0) qa_nil)) qa_nil))))
abbrev Ok_sorted_load (P : Program) (w : World) (K : PySem.W.Frag) (mg : Str → Option Value) (base : Heap) (T : Txt K mg) : Prop := FnP P w K mg base 1 T.a_sorted_load T.fd_sorted_load ["numbers"] sp_sorted_load

def t_Room___init__ (c_Room : Addr) : PTS :=
    (pSeq (pSetF c_Room "many" (pVar 0) (pVar 1))
    (pSeq (pSetF c_Room "lying" (pVar 0) pDict0)
    (pSeq (pSetF c_Room "known" (pVar 0) (pC (.int 0)))
    (pSetF c_Room "past" (pVar 0) (pOwn pNil)))))
theorem d_Room___init__ {P : Program} {w : World} {K : PySem.W.Frag} {mg : Str → Option Value} {base : Heap} (T : Txt K mg) {cdv : Value} {A : Around} {outer : List Env} {s : Shared} {H : Hp} {E : XK} (hgd : A.guards = some []) (hr : Room 0 (A.deeper (envOfC "Room.__init__" (defScope s_Room___init__) s.heap.objs.size T.a_Room___init__ cdv))) :
    QB (cxOf (L2.CX P w) P w K mg base N_Room___init__ "Room.__init__" (defScope s_Room___init__) T.a_Room___init__ cdv A outer s H E) (defBody s_Room___init__) (t_Room___init__ T.c_Room) :=
  have hp : PassesOwn (model P w) (cxOf (L2.CX P w) P w K mg base N_Room___init__ "Room.__init__" (defScope s_Room___init__) T.a_Room___init__ cdv A outer s H E).A (cxOf (L2.CX P w) P w K mg base N_Room___init__ "Room.__init__" (defScope s_Room___init__) T.a_Room___init__ cdv A outer s H E).env (cxOf (L2.CX P w) P w K mg base N_Room___init__ "Room.__init__" (defScope s_Room___init__) T.a_Room___init__ cdv A outer s H E).xe := passes_of rfl
  (qb_cons (qs_fld T.cl_Room T.na_Room_many (qe_var 0) (qe_var 1))
    (qb_cons (qs_fld T.cl_Room T.na_Room_lying (qe_var 0) qe_dict0)
    (qb_cons (qs_fld T.cl_Room T.na_Room_known (qe_var 0) qe_int)
    (qb_one (qs_fld T.cl_Room T.na_Room_past (qe_var 0) (qe_own qa_nil))))))
abbrev Ok_Room___init__ (P : Program) (w : World) (K : PySem.W.Frag) (mg : Str → Option Value) (base : Heap) (T : Txt K mg) : Prop := FnP P w K mg base 1 T.a_Room___init__ T.fd_Room___init__ ["self", "n"] (sp_Room___init__ T.c_Room)

def t_Room_back (c_Room : Addr) : PTS :=
    (pSeq (pIf (pTb (pOp rEq (pFld c_Room "past" (pVar 0)) (pLst pNil)))
    pNever
    pNext)
    (pSeq (pAsg (pBM rPop1 ["list", "dict"] (pFld c_Room "past" (pVar 0)) pNil) (pgTup 3 (pgCons (pgName 1) (pgCons (pgName 2) (pgCons (pgName 3) pgNil)))))
    (pSeq (pIf (pTb (pVar 1))
    (pDrop (pBM rPop1 ["list", "dict"] (pFld c_Room "lying" (pVar 0)) (pCons (pVar 2) pNil)))
    (pAsg (pVar 3) (pgSub rSet (pFld c_Room "lying" (pVar 0)) (pVar 2))))
    (pRet (pVar 2)))))
theorem d_Room_back {P : Program} {w : World} {K : PySem.W.Frag} {mg : Str → Option Value} {base : Heap} (T : Txt K mg) {cdv : Value} {A : Around} {outer : List Env} {s : Shared} {H : Hp} {E : XK} (hgd : A.guards = some []) (hr : Room 0 (A.deeper (envOfC "Room.back" (defScope s_Room_back) s.heap.objs.size T.a_Room_back cdv))) :
    QB (cxOf (L2.CX P w) P w K mg base N_Room_back "Room.back" (defScope s_Room_back) T.a_Room_back cdv A outer s H E) (defBody s_Room_back) (t_Room_back T.c_Room) :=
  have hp : PassesOwn (model P w) (cxOf (L2.CX P w) P w K mg base N_Room_back "Room.back" (defScope s_Room_back) T.a_Room_back cdv A outer s H E).A (cxOf (L2.CX P w) P w K mg base N_Room_back "Room.back" (defScope s_Room_back) T.a_Room_back cdv A outer s H E).env (cxOf (L2.CX P w) P w K mg base N_Room_back "Room.back" (defScope s_Room_back) T.a_Room_back cdv A outer s H E).xe := passes_of rfl
  (qb_cons (qs_if (qt_cmp (q_eq (room_64 hr)) (qe_fld T.cl_Room T.na_Room_past (qe_var 0)) (qe_lst qa_nil))
    (qb_one qs_never)
    qb_nil)
    (qb_cons (qs_asg (qe_bm0 m_pop1 (qe_fld T.cl_Room T.na_Room_past (qe_var 0))) (qg_tup rfl (qgs_cons (qg_name (i := 1) (ws := [1, 2, 3]) sc_Room_back.nd rfl (by first | exact Or.inl rfl | exact Or.inr rfl)) (qgs_cons (qg_name (i := 2) (ws := [1, 2, 3]) sc_Room_back.nd rfl (by first | exact Or.inl rfl | exact Or.inr rfl)) (qgs_cons (qg_name (i := 3) (ws := [1, 2, 3]) sc_Room_back.nd rfl (by first | exact Or.inl rfl | exact Or.inr rfl)) (qgs_nil (ws := [1, 2, 3])))))))
    (qb_cons (qs_if (qt_val (qe_var 1))
    (qb_one (qs_expr (qe_bm m_pop1 (qe_fld T.cl_Room T.na_Room_lying (qe_var 0)) (qa_cons (qe_var 2) qa_nil))))
    (qb_one (qs_asg (qe_var 3) (qg_sub (ws := []) (qe_fld T.cl_Room T.na_Room_lying (qe_var 0)) (qe_var 2) (q_set (hu_of hr))))))
    (qb_one (qs_ret (qe_var 2))))))
abbrev Ok_Room_back (P : Program) (w : World) (K : PySem.W.Frag) (mg : Str → Option Value) (base : Heap) (T : Txt K mg) : Prop := FnP P w K mg base 1 T.a_Room_back T.fd_Room_back ["self"] (sp_Room_back T.c_Room)

def t_Room_stand (c_Room : Addr) : PTS :=
    (pSeq (pSet 1 (pLc true (pRng1 (pCons (pFld c_Room "many" (pVar 0)) pNil)) (pgName 3) pYes (pC (.int 0)) [3]))
    (pSeq (pLock (pFor (pKeys (pFld c_Room "lying" (pVar 0))) (pgName 2)
    (pAsg (pOp rAdd (pOp rIx (pVar 1) (pOp rIx (pFld c_Room "lying" (pVar 0)) (pVar 2))) (pC (.int 1))) (pgSub rSet (pVar 1) (pOp rIx (pFld c_Room "lying" (pVar 0)) (pVar 2))))))
    (pRet (pCB rTuple (pCons (pVar 1) pNil)))))
theorem d_Room_stand {P : Program} {w : World} {K : PySem.W.Frag} {mg : Str → Option Value} {base : Heap} (T : Txt K mg) {cdv : Value} {A : Around} {outer : List Env} {s : Shared} {H : Hp} {E : XK} (hgd : A.guards = some []) (hr : Room 0 (A.deeper (envOfC "Room.stand" (defScope s_Room_stand) s.heap.objs.size T.a_Room_stand cdv))) :
    QB (cxOf (L2.CX P w) P w K mg base N_Room_stand "Room.stand" (defScope s_Room_stand) T.a_Room_stand cdv A outer s H E) (defBody s_Room_stand) (t_Room_stand T.c_Room) :=
  have hp : PassesOwn (model P w) (cxOf (L2.CX P w) P w K mg base N_Room_stand "Room.stand" (defScope s_Room_stand) T.a_Room_stand cdv A outer s H E).A (cxOf (L2.CX P w) P w K mg base N_Room_stand "Room.stand" (defScope s_Room_stand) T.a_Room_stand cdv A outer s H E).env (cxOf (L2.CX P w) P w K mg base N_Room_stand "Room.stand" (defScope s_Room_stand) T.a_Room_stand cdv A outer s H E).xe := passes_of rfl
  (qb_cons (qs_setLc (i := 1) rfl sc_Room_stand.nd rfl rfl (sw_true rfl rfl rfl (by kernel_rfl)) (own := [("box", 3)]) (o := true) (qi_rng1 rfl T.z_range (qa_cons (qe_fld T.cl_Room T.na_Room_many (qe_var 0)) qa_nil)) (blkOk_by (N := N_Room_stand) (by kernel_rfl)) (fun _ _ _ _ _ => (qg_name (i := 3) (ws := [3]) sc_Room_stand.nd rfl (by first | exact Or.inl rfl | exact Or.inr rfl))) (fun _ _ _ _ _ => qts_nil) (fun _ _ _ _ _ => qe_int))
    (qb_cons (qs_lock (qs_for hp rfl (qi_keys (qe_fld T.cl_Room T.na_Room_lying (qe_var 0))) (qg_name (i := 2) (ws := [2]) sc_Room_stand.nd rfl (by first | exact Or.inl rfl | exact Or.inr rfl))
    (qb_one (qs_asg (qe_op q_add (qe_ix (q_ix (hu_of hr)) (qe_var 1) (qe_ix (q_ix (hu_of hr)) (qe_fld T.cl_Room T.na_Room_lying (qe_var 0)) (qe_var 2))) qe_int) (qg_sub (ws := []) (qe_var 1) (qe_ix (q_ix (hu_of hr)) (qe_fld T.cl_Room T.na_Room_lying (qe_var 0)) (qe_var 2)) (q_set (hu_of hr)))))))
    (qb_one (qs_ret (qe_callT q_tuple rfl T.z_tuple boot_tuple (qa_cons (qe_var 1) qa_nil))))))
abbrev Ok_Room_stand (P : Program) (w : World) (K : PySem.W.Frag) (mg : Str → Option Value) (base : Heap) (T : Txt K mg) : Prop := FnP P w K mg base 1 T.a_Room_stand T.fd_Room_stand ["self"] (sp_Room_stand T.c_Room)

def t_l_pen : PTS :=
    (pRet (pDict (((pC (.str "cells")), (pSl (pVar 0) pNoPart (pPart (pC (.int 63))))) :: (((pC (.str "at")), (pC (.int 0))) :: (((pC (.str "left")), (pC (.int 0))) :: [])))))
theorem d_l_pen {P : Program} {w : World} {K : PySem.W.Frag} {mg : Str → Option Value} {base : Heap} (T : Txt K mg) {cdv : Value} {A : Around} {outer : List Env} {s : Shared} {H : Hp} {E : XK} (hgd : A.guards = some []) (hr : Room 0 (A.deeper (envOfC "_law_pen" (defScope s_l_pen) s.heap.objs.size T.a_l_pen cdv))) :
    QB (cxOf (L2.CX P w) P w K mg base N_l_pen "_law_pen" (defScope s_l_pen) T.a_l_pen cdv A outer s H E) (defBody s_l_pen) (t_l_pen) :=
  have hp : PassesOwn (model P w) (cxOf (L2.CX P w) P w K mg base N_l_pen "_law_pen" (defScope s_l_pen) T.a_l_pen cdv A outer s H E).A (cxOf (L2.CX P w) P w K mg base N_l_pen "_law_pen" (defScope s_l_pen) T.a_l_pen cdv A outer s H E).env (cxOf (L2.CX P w) P w K mg base N_l_pen "_law_pen" (defScope s_l_pen) T.a_l_pen cdv A outer s H E).xe := passes_of rfl
  (qb_one (qs_ret (qe_dict (QPs.cons qe_str (qe_sl (qe_var 0) qo_none (qo_some qe_int)) (QPs.cons qe_str qe_int (QPs.cons qe_str qe_int QPs.nil))))))
abbrev Ok_l_pen (P : Program) (w : World) (K : PySem.W.Frag) (mg : Str → Option Value) (base : Heap) (T : Txt K mg) : Prop := FnP P w K mg base 1 T.a_l_pen T.fd_l_pen ["_law_script"] sp_l_pen

def t_l_draw : PTS :=
    (pSeq (pIf (pTb (pOp rGt (pOp rIx (pVar 0) (pC (.str "left"))) (pC (.int 0))))
    (pSeq (pSet 6 (pOp rMod (pOp rIx (pVar 0) (pC (.str "left"))) (pVar 1)))
    (pSeq (pAsg (pOp rFdiv (pOp rIx (pVar 0) (pC (.str "left"))) (pVar 1)) (pgSub rSet (pVar 0) (pC (.str "left"))))
    (pRet (pVar 6))))
    pNext)
    (pSeq (pSet 2 (pOp rIx (pVar 0) (pC (.str "at"))))
    (pSeq (pAsg (pOp rAdd (pVar 2) (pC (.int 1))) (pgSub rSet (pVar 0) (pC (.str "at"))))
    (pSeq (pSet 3 (pOp rAdd (pOp rMul (pC (.int 23)) (pVar 2)) (pC (.int 5))))
    (pSeq (pIf (pTb (pOp rGt (pCB rLen (pCons (pOp rIx (pVar 0) (pC (.str "cells"))) pNil)) (pC (.int 0))))
    (pSet 3 (pOp rIx (pOp rIx (pVar 0) (pC (.str "cells"))) (pOp rMod (pVar 2) (pCB rLen (pCons (pOp rIx (pVar 0) (pC (.str "cells"))) pNil)))))
    pNext)
    (pSeq (pIf (pAnd (pTb (pOp rLt (pVar 2) (pCB rLen (pCons (pOp rIx (pVar 0) (pC (.str "cells"))) pNil)))) (pTb (pOp rGe (pCB rAbs (pCons (pVar 3) pNil)) (pOp rPow (pC (.int 10)) (pC (.int 18))))))
    (pSeq (pAsg (pOp rFdiv (pCB rAbs (pCons (pVar 3) pNil)) (pVar 1)) (pgSub rSet (pVar 0) (pC (.str "left"))))
    (pRet (pOp rMod (pCB rAbs (pCons (pVar 3) pNil)) (pVar 1))))
    pNext)
    (pSeq (pSet 4 (pOp rIx (pTup (pCons (pC (.int 2147483647)) (pCons (pC (.int 2147483629)) (pCons (pC (.int 2147483587)) (pCons (pC (.int 2147483579)) (pCons (pC (.int 2147483563)) (pCons (pC (.int 2147483549)) (pCons (pC (.int 2147483543)) pNil)))))))) (pOp rMod (pVar 2) (pC (.int 7)))))
    (pSeq (pSet 5 (pOp rMod (pOp rPow (pOp rAdd (pOp rAdd (pOp rAdd (pOp rMod (pVar 3) (pC (.int 2147483497))) (pOp rMul (pOp rMul (pC (.int 75329)) (pVar 2)) (pVar 2))) (pOp rMul (pC (.int 30011)) (pVar 2))) (pC (.int 271))) (pC (.int 3))) (pVar 4)))
    (pSeq (pSet 5 (pOp rMod (pOp rPow (pOp rAdd (pOp rAdd (pVar 5) (pOp rMul (pC (.int 11)) (pVar 2))) (pC (.int 5))) (pC (.int 2))) (pC (.int 2147483489))))
    (pRet (pOp rMod (pOp rFdiv (pOp rMod (pOp rMul (pVar 5) (pC (.int 69621))) (pC (.int 2147483477))) (pC (.int 1013))) (pVar 1))))))))))))
theorem d_l_draw {P : Program} {w : World} {K : PySem.W.Frag} {mg : Str → Option Value} {base : Heap} (T : Txt K mg) {cdv : Value} {A : Around} {outer : List Env} {s : Shared} {H : Hp} {E : XK} (hgd : A.guards = some []) (hr : Room 0 (A.deeper (envOfC "_law_draw" (defScope s_l_draw) s.heap.objs.size T.a_l_draw cdv))) :
    QB (cxOf (L2.CX P w) P w K mg base N_l_draw "_law_draw" (defScope s_l_draw) T.a_l_draw cdv A outer s H E) (defBody s_l_draw) (t_l_draw) :=
  have hp : PassesOwn (model P w) (cxOf (L2.CX P w) P w K mg base N_l_draw "_law_draw" (defScope s_l_draw) T.a_l_draw cdv A outer s H E).A (cxOf (L2.CX P w) P w K mg base N_l_draw "_law_draw" (defScope s_l_draw) T.a_l_draw cdv A outer s H E).env (cxOf (L2.CX P w) P w K mg base N_l_draw "_law_draw" (defScope s_l_draw) T.a_l_draw cdv A outer s H E).xe := passes_of rfl
  (qb_cons (qs_if (qt_cmp q_gt (qe_ix (q_ix (hu_of hr)) (qe_var 0) qe_str) qe_int)
    (qb_cons (qs_set (i := 6) sc_l_draw.nd rfl (Or.inl rfl) (qe_op q_mod (qe_ix (q_ix (hu_of hr)) (qe_var 0) qe_str) (qe_var 1)))
    (qb_cons (qs_asg (qe_op q_fdiv (qe_ix (q_ix (hu_of hr)) (qe_var 0) qe_str) (qe_var 1)) (qg_sub (ws := []) (qe_var 0) qe_str (q_set (hu_of hr))))
    (qb_one (qs_ret (qe_var 6)))))
    qb_nil)
    (qb_cons (qs_set (i := 2) sc_l_draw.nd rfl (Or.inl rfl) (qe_ix (q_ix (hu_of hr)) (qe_var 0) qe_str))
    (qb_cons (qs_asg (qe_op q_add (qe_var 2) qe_int) (qg_sub (ws := []) (qe_var 0) qe_str (q_set (hu_of hr))))
    (qb_cons (qs_set (i := 3) sc_l_draw.nd rfl (Or.inl rfl) (qe_op q_add (qe_op q_mul qe_int (qe_var 2)) qe_int))
    (qb_cons (qs_if (qt_cmp q_gt (qe_callB q_len rfl T.z_len boot_len (qa_cons (qe_ix (q_ix (hu_of hr)) (qe_var 0) qe_str) qa_nil)) qe_int)
    (qb_one (qs_set (i := 3) sc_l_draw.nd rfl (Or.inl rfl) (qe_ix (q_ix (hu_of hr)) (qe_ix (q_ix (hu_of hr)) (qe_var 0) qe_str) (qe_op q_mod (qe_var 2) (qe_callB q_len rfl T.z_len boot_len (qa_cons (qe_ix (q_ix (hu_of hr)) (qe_var 0) qe_str) qa_nil))))))
    qb_nil)
    (qb_cons (qs_if (qt_w (qw_and (qt_cmp q_lt (qe_var 2) (qe_callB q_len rfl T.z_len boot_len (qa_cons (qe_ix (q_ix (hu_of hr)) (qe_var 0) qe_str) qa_nil))) (qw_and1 (qt_cmp q_ge (qe_callB q_abs rfl T.z_abs (by decide +kernel) (qa_cons (qe_var 3) qa_nil)) (qe_op q_pow qe_int qe_int)))))
    (qb_cons (qs_asg (qe_op q_fdiv (qe_callB q_abs rfl T.z_abs (by decide +kernel) (qa_cons (qe_var 3) qa_nil)) (qe_var 1)) (qg_sub (ws := []) (qe_var 0) qe_str (q_set (hu_of hr))))
    (qb_one (qs_ret (qe_op q_mod (qe_callB q_abs rfl T.z_abs (by decide +kernel) (qa_cons (qe_var 3) qa_nil)) (qe_var 1)))))
    qb_nil)
    (qb_cons (qs_set (i := 4) sc_l_draw.nd rfl (Or.inl rfl) (qe_ix (q_ix (hu_of hr)) (qe_tup (qa_cons qe_int (qa_cons qe_int (qa_cons qe_int (qa_cons qe_int (qa_cons qe_int (qa_cons qe_int (qa_cons qe_int qa_nil)))))))) (qe_op q_mod (qe_var 2) qe_int)))
    (qb_cons (qs_set (i := 5) sc_l_draw.nd rfl (Or.inl rfl) (qe_op q_mod (qe_op q_pow (qe_op q_add (qe_op q_add (qe_op q_add (qe_op q_mod (qe_var 3) qe_int) (qe_op q_mul (qe_op q_mul qe_int (qe_var 2)) (qe_var 2))) (qe_op q_mul qe_int (qe_var 2))) qe_int) qe_int) (qe_var 4)))
    (qb_cons (qs_set (i := 5) sc_l_draw.nd rfl (Or.inl rfl) (qe_op q_mod (qe_op q_pow (qe_op q_add (qe_op q_add (qe_var 5) (qe_op q_mul qe_int (qe_var 2))) qe_int) qe_int) qe_int))
    (qb_one (qs_ret (qe_op q_mod (qe_op q_fdiv (qe_op q_mod (qe_op q_mul (qe_var 5) qe_int) qe_int) qe_int) (qe_var 1)))))))))))))
abbrev Ok_l_draw (P : Program) (w : World) (K : PySem.W.Frag) (mg : Str → Option Value) (base : Heap) (T : Txt K mg) : Prop := FnP P w K mg base 1 T.a_l_draw T.fd_l_draw ["_law_pen_here", "_law_many"] sp_l_draw

def t_by_draws : PTS :=
    (pSeq (pSet 2 (pCB (rList true) (pCons (pVar 0) pNil)))
    (pSeq (pSet 3 (pOwn pNil))
    (pSeq (pFor (pISeq (pVar 1)) (pgName 4)
    (pSeq (pSet 5 (pCall sp_chosen (pCons (pVar 2) (pCons (pVar 4) pNil))))
    (pSeq (pAsg (pOp rAdd (pOp rIx (pVar 2) (pVar 5)) (pC (.int 1))) (pgSub rSet (pVar 2) (pVar 5)))
    (pDrop (pBM (fun _ => rAppend) ["list"] (pVar 3) (pCons (pVar 5) pNil))))))
    (pRet (pTup (pCons (pCB rTuple (pCons (pVar 2) pNil)) (pCons (pVar 3) pNil)))))))
theorem d_by_draws {P : Program} {w : World} {K : PySem.W.Frag} {mg : Str → Option Value} {base : Heap} (T : Txt K mg) (C_chosen : FnP P w K mg base 1 T.a_chosen T.fd_chosen ["stand", "draw"] sp_chosen) {cdv : Value} {A : Around} {outer : List Env} {s : Shared} {H : Hp} {E : XK} (hgd : A.guards = some []) (hr : Room 1 (A.deeper (envOfC "by_draws" (defScope s_by_draws) s.heap.objs.size T.a_by_draws cdv))) :
    QB (cxOf (L2.CX P w) P w K mg base N_by_draws "by_draws" (defScope s_by_draws) T.a_by_draws cdv A outer s H E) (defBody s_by_draws) (t_by_draws) :=
  have hp : PassesOwn (model P w) (cxOf (L2.CX P w) P w K mg base N_by_draws "by_draws" (defScope s_by_draws) T.a_by_draws cdv A outer s H E).A (cxOf (L2.CX P w) P w K mg base N_by_draws "by_draws" (defScope s_by_draws) T.a_by_draws cdv A outer s H E).env (cxOf (L2.CX P w) P w K mg base N_by_draws "by_draws" (defScope s_by_draws) T.a_by_draws cdv A outer s H E).xe := passes_of rfl
  (qb_cons (qs_set (i := 2) sc_by_draws.nd rfl (Or.inl rfl) (qe_callT (q_list true) rfl T.z_list boot_list (qa_cons (qe_var 0) qa_nil)))
    (qb_cons (qs_set (i := 3) sc_by_draws.nd rfl (Or.inl rfl) (qe_own qa_nil))
    (qb_cons (qs_for hp rfl (qi_seq (qe_var 1)) (qg_name (i := 4) (ws := [4]) sc_by_draws.nd rfl (by first | exact Or.inl rfl | exact Or.inr rfl))
    (qb_cons (qs_set (i := 5) sc_by_draws.nd rfl (Or.inl rfl) (qe_call C_chosen hgd (hr.mono (by decide)) rfl T.m_chosen T.F_chosen.kp T.b_chosen (qa_cons (qe_var 2) (qa_cons (qe_var 4) qa_nil))))
    (qb_cons (qs_asg (qe_op q_add (qe_ix (q_ix (hu_of hr)) (qe_var 2) (qe_var 5)) qe_int) (qg_sub (ws := []) (qe_var 2) (qe_var 5) (q_set (hu_of hr))))
    (qb_one (qs_expr (qe_bm (m_one m_append) (qe_var 3) (qa_cons (qe_var 5) qa_nil)))))))
    (qb_one (qs_ret (qe_tup (qa_cons (qe_callT q_tuple rfl T.z_tuple boot_tuple (qa_cons (qe_var 2) qa_nil)) (qa_cons (qe_var 3) qa_nil))))))))
abbrev Ok_by_draws (P : Program) (w : World) (K : PySem.W.Frag) (mg : Str → Option Value) (base : Heap) (T : Txt K mg) : Prop := FnP P w K mg base 2 T.a_by_draws T.fd_by_draws ["stand", "draws"] sp_by_draws

def t_Room_put (c_Room : Addr) : PTS :=
    (pSeq (pIf (pTb (pOp rEq (pCB rLen (pCons (pFld c_Room "lying" (pVar 0)) pNil)) (pC (.int 60))))
    pNever
    pNext)
    (pSeq (pSet 2 (pCall sp_chosen (pCons (pMeth c_Room "stand" (sp_Room_stand c_Room) (pVar 0) pNil) (pCons (pVar 1) pNil))))
    (pSeq (pSet 3 (pFld c_Room "known" (pVar 0)))
    (pSeq (pSetF c_Room "known" (pVar 0) (pOp rAdd (pVar 3) (pC (.int 1))))
    (pSeq (pAsg (pVar 2) (pgSub rSet (pFld c_Room "lying" (pVar 0)) (pVar 3)))
    (pSeq (pDrop (pBM (fun _ => rAppend) ["list"] (pFld c_Room "past" (pVar 0)) (pCons (pTup (pCons (pC (.bl true)) (pCons (pVar 3) (pCons (pVar 2) pNil)))) pNil)))
    (pRet (pTup (pCons (pVar 3) (pCons (pVar 2) pNil))))))))))
theorem d_Room_put {P : Program} {w : World} {K : PySem.W.Frag} {mg : Str → Option Value} {base : Heap} (T : Txt K mg) (C_chosen : FnP P w K mg base 1 T.a_chosen T.fd_chosen ["stand", "draw"] sp_chosen) (C_Room_stand : FnP P w K mg base 1 T.a_Room_stand T.fd_Room_stand ["self"] (sp_Room_stand T.c_Room)) {cdv : Value} {A : Around} {outer : List Env} {s : Shared} {H : Hp} {E : XK} (hgd : A.guards = some []) (hr : Room 1 (A.deeper (envOfC "Room.put" (defScope s_Room_put) s.heap.objs.size T.a_Room_put cdv))) :
    QB (cxOf (L2.CX P w) P w K mg base N_Room_put "Room.put" (defScope s_Room_put) T.a_Room_put cdv A outer s H E) (defBody s_Room_put) (t_Room_put T.c_Room) :=
  have hp : PassesOwn (model P w) (cxOf (L2.CX P w) P w K mg base N_Room_put "Room.put" (defScope s_Room_put) T.a_Room_put cdv A outer s H E).A (cxOf (L2.CX P w) P w K mg base N_Room_put "Room.put" (defScope s_Room_put) T.a_Room_put cdv A outer s H E).env (cxOf (L2.CX P w) P w K mg base N_Room_put "Room.put" (defScope s_Room_put) T.a_Room_put cdv A outer s H E).xe := passes_of rfl
  (qb_cons (qs_if (qt_cmp (q_eq (room_64 hr)) (qe_callB q_len rfl T.z_len boot_len (qa_cons (qe_fld T.cl_Room T.na_Room_lying (qe_var 0)) qa_nil)) (qe_gint rfl T.v_MOST_BALLS))
    (qb_one qs_never)
    qb_nil)
    (qb_cons (qs_set (i := 2) sc_Room_put.nd rfl (Or.inl rfl) (qe_call C_chosen hgd (hr.mono (by decide)) rfl T.m_chosen T.F_chosen.kp T.b_chosen (qa_cons (qe_meth0 T.cl_Room T.me_Room_stand C_Room_stand hgd (hr.mono (by decide)) T.b_Room_stand (qe_var 0)) (qa_cons (qe_var 1) qa_nil))))
    (qb_cons (qs_set (i := 3) sc_Room_put.nd rfl (Or.inl rfl) (qe_fld T.cl_Room T.na_Room_known (qe_var 0)))
    (qb_cons (qs_fld T.cl_Room T.na_Room_known (qe_var 0) (qe_op q_add (qe_var 3) qe_int))
    (qb_cons (qs_asg (qe_var 2) (qg_sub (ws := []) (qe_fld T.cl_Room T.na_Room_lying (qe_var 0)) (qe_var 3) (q_set (hu_of hr))))
    (qb_cons (qs_expr (qe_bm (m_one m_append) (qe_fld T.cl_Room T.na_Room_past (qe_var 0)) (qa_cons (qe_tup (qa_cons qe_bl (qa_cons (qe_var 3) (qa_cons (qe_var 2) qa_nil)))) qa_nil)))
    (qb_one (qs_ret (qe_tup (qa_cons (qe_var 3) (qa_cons (qe_var 2) qa_nil)))))))))))
abbrev Ok_Room_put (P : Program) (w : World) (K : PySem.W.Frag) (mg : Str → Option Value) (base : Heap) (T : Txt K mg) : Prop := FnP P w K mg base 2 T.a_Room_put T.fd_Room_put ["self", "draw"] (sp_Room_put T.c_Room)

def t_Room_where (c_Room : Addr) : PTS :=
    (pSeq (pIf (pOr (pNot (pTb (pCall sp_is_whole (pCons (pVar 1) pNil)))) (pTb (pOp (rMem true) (pVar 1) (pFld c_Room "lying" (pVar 0)))))
    pNever
    pNext)
    (pRet (pOp rIx (pFld c_Room "lying" (pVar 0)) (pVar 1))))
theorem d_Room_where {P : Program} {w : World} {K : PySem.W.Frag} {mg : Str → Option Value} {base : Heap} (T : Txt K mg) (C_is_whole : FnP P w K mg base 1 T.a_is_whole T.fd_is_whole ["thing"] sp_is_whole) {cdv : Value} {A : Around} {outer : List Env} {s : Shared} {H : Hp} {E : XK} (hgd : A.guards = some []) (hr : Room 1 (A.deeper (envOfC "Room.where" (defScope s_Room_where) s.heap.objs.size T.a_Room_where cdv))) :
    QB (cxOf (L2.CX P w) P w K mg base N_Room_where "Room.where" (defScope s_Room_where) T.a_Room_where cdv A outer s H E) (defBody s_Room_where) (t_Room_where T.c_Room) :=
  have hp : PassesOwn (model P w) (cxOf (L2.CX P w) P w K mg base N_Room_where "Room.where" (defScope s_Room_where) T.a_Room_where cdv A outer s H E).A (cxOf (L2.CX P w) P w K mg base N_Room_where "Room.where" (defScope s_Room_where) T.a_Room_where cdv A outer s H E).env (cxOf (L2.CX P w) P w K mg base N_Room_where "Room.where" (defScope s_Room_where) T.a_Room_where cdv A outer s H E).xe := passes_of rfl
  (qb_cons (qs_if (qt_w (qw_or (qt_not (qt_val (qe_call C_is_whole hgd (hr.mono (by decide)) rfl T.m_is_whole T.F_is_whole.kp T.b_is_whole (qa_cons (qe_var 1) qa_nil)))) (qw_or1 (qt_cmp (q_nin (hu_of hr)) (qe_var 1) (qe_fld T.cl_Room T.na_Room_lying (qe_var 0))))))
    (qb_one qs_never)
    qb_nil)
    (qb_one (qs_ret (qe_ix (q_ix (hu_of hr)) (qe_fld T.cl_Room T.na_Room_lying (qe_var 0)) (qe_var 1)))))
abbrev Ok_Room_where (P : Program) (w : World) (K : PySem.W.Frag) (mg : Str → Option Value) (base : Heap) (T : Txt K mg) : Prop := FnP P w K mg base 2 T.a_Room_where T.fd_Room_where ["self", "ball"] (sp_Room_where T.c_Room)

def t_Room_load (c_Room : Addr) : PTS :=
    (pRet (pCall sp_sorted_load (pCons (pMeth c_Room "stand" (sp_Room_stand c_Room) (pVar 0) pNil) pNil)))
theorem d_Room_load {P : Program} {w : World} {K : PySem.W.Frag} {mg : Str → Option Value} {base : Heap} (T : Txt K mg) (C_sorted_load : FnP P w K mg base 1 T.a_sorted_load T.fd_sorted_load ["numbers"] sp_sorted_load) (C_Room_stand : FnP P w K mg base 1 T.a_Room_stand T.fd_Room_stand ["self"] (sp_Room_stand T.c_Room)) {cdv : Value} {A : Around} {outer : List Env} {s : Shared} {H : Hp} {E : XK} (hgd : A.guards = some []) (hr : Room 1 (A.deeper (envOfC "Room.load" (defScope s_Room_load) s.heap.objs.size T.a_Room_load cdv))) :
    QB (cxOf (L2.CX P w) P w K mg base N_Room_load "Room.load" (defScope s_Room_load) T.a_Room_load cdv A outer s H E) (defBody s_Room_load) (t_Room_load T.c_Room) :=
  have hp : PassesOwn (model P w) (cxOf (L2.CX P w) P w K mg base N_Room_load "Room.load" (defScope s_Room_load) T.a_Room_load cdv A outer s H E).A (cxOf (L2.CX P w) P w K mg base N_Room_load "Room.load" (defScope s_Room_load) T.a_Room_load cdv A outer s H E).env (cxOf (L2.CX P w) P w K mg base N_Room_load "Room.load" (defScope s_Room_load) T.a_Room_load cdv A outer s H E).xe := passes_of rfl
  (qb_one (qs_ret (qe_call C_sorted_load hgd (hr.mono (by decide)) rfl T.m_sorted_load T.F_sorted_load.kp T.b_sorted_load (qa_cons (qe_meth0 T.cl_Room T.me_Room_stand C_Room_stand hgd (hr.mono (by decide)) T.b_Room_stand (qe_var 0)) qa_nil))))
abbrev Ok_Room_load (P : Program) (w : World) (K : PySem.W.Frag) (mg : Str → Option Value) (base : Heap) (T : Txt K mg) : Prop := FnP P w K mg base 2 T.a_Room_load T.fd_Room_load ["self"] (sp_Room_load T.c_Room)

def t_l_draws : PTS :=
    (pSeq (pSet 3 (pCall sp_l_draw (pCons (pVar 0) (pCons (pC (.int 5)) pNil))))
    (pSeq (pSet 4 (pCall sp_l_draw (pCons (pVar 0) (pCons (pC (.int 4)) pNil))))
    (pSeq (pSet 5 (pOp rIx (pLst (pCons (pC (.int 0)) (pCons (pC (.int 1)) (pCons (pC (.int 2)) (pCons (pVar 2) (pCons (pCall sp_l_draw (pCons (pVar 0) (pCons (pOp rAdd (pVar 2) (pC (.int 1))) pNil))) pNil)))))) (pVar 3)))
    (pSeq (pSet 6 (pOwn pNil))
    (pSeq (pFor (pRng1 (pCons (pVar 5) pNil)) (pgName 7)
    (pSeq (pSet 8 (pLc false (pRng1 (pCons (pOp rAdd (pC (.int 1)) (pCall sp_l_draw (pCons (pVar 0) (pCons (pC (.int 3)) pNil)))) pNil)) (pgName 9) pYes (pCall sp_l_draw (pCons (pVar 0) (pCons (pVar 1) pNil))) [9]))
    (pSeq (pIf (pTb (pOp rLt (pVar 4) (pC (.int 2))))
    (pSet 8 (pSl (pOp rMul (pVar 8) (pC (.int 3))) pNoPart (pPart (pOp rAdd (pVar 4) (pC (.int 1))))))
    pNext)
    (pDrop (pBM (fun _ => rAppend) ["list"] (pVar 6) (pCons (pCB rTuple (pCons (pVar 8) pNil)) pNil))))))
    (pRet (pFrz (pVar 6))))))))
theorem d_l_draws {P : Program} {w : World} {K : PySem.W.Frag} {mg : Str → Option Value} {base : Heap} (T : Txt K mg) (C_l_draw : FnP P w K mg base 1 T.a_l_draw T.fd_l_draw ["_law_pen_here", "_law_many"] sp_l_draw) {cdv : Value} {A : Around} {outer : List Env} {s : Shared} {H : Hp} {E : XK} (hgd : A.guards = some []) (hr : Room 1 (A.deeper (envOfC "_law_draws" (defScope s_l_draws) s.heap.objs.size T.a_l_draws cdv))) :
    QB (cxOf (L2.CX P w) P w K mg base N_l_draws "_law_draws" (defScope s_l_draws) T.a_l_draws cdv A outer s H E) (defBody s_l_draws) (t_l_draws) :=
  have hp : PassesOwn (model P w) (cxOf (L2.CX P w) P w K mg base N_l_draws "_law_draws" (defScope s_l_draws) T.a_l_draws cdv A outer s H E).A (cxOf (L2.CX P w) P w K mg base N_l_draws "_law_draws" (defScope s_l_draws) T.a_l_draws cdv A outer s H E).env (cxOf (L2.CX P w) P w K mg base N_l_draws "_law_draws" (defScope s_l_draws) T.a_l_draws cdv A outer s H E).xe := passes_of rfl
  (qb_cons (qs_set (i := 3) sc_l_draws.nd rfl (Or.inl rfl) (qe_call C_l_draw hgd (hr.mono (by decide)) rfl T.m_l_draw T.F_l_draw.kp T.b_l_draw (qa_cons (qe_var 0) (qa_cons qe_int qa_nil))))
    (qb_cons (qs_set (i := 4) sc_l_draws.nd rfl (Or.inl rfl) (qe_call C_l_draw hgd (hr.mono (by decide)) rfl T.m_l_draw T.F_l_draw.kp T.b_l_draw (qa_cons (qe_var 0) (qa_cons qe_int qa_nil))))
    (qb_cons (qs_set (i := 5) sc_l_draws.nd rfl (Or.inl rfl) (qe_ix (q_ix (hu_of hr)) (qe_lst (qa_cons qe_int (qa_cons qe_int (qa_cons qe_int (qa_cons (qe_var 2) (qa_cons (qe_call C_l_draw hgd (hr.mono (by decide)) rfl T.m_l_draw T.F_l_draw.kp T.b_l_draw (qa_cons (qe_var 0) (qa_cons (qe_op q_add (qe_var 2) qe_int) qa_nil))) qa_nil)))))) (qe_var 3)))
    (qb_cons (qs_set (i := 6) sc_l_draws.nd rfl (Or.inl rfl) (qe_own qa_nil))
    (qb_cons (qs_for hp rfl (qi_rng1 rfl T.z_range (qa_cons (qe_var 5) qa_nil)) (qg_name (i := 7) (ws := [7]) sc_l_draws.nd rfl (by first | exact Or.inl rfl | exact Or.inr rfl))
    (qb_cons (qs_setLc (i := 8) rfl sc_l_draws.nd rfl rfl (sw_true rfl rfl rfl (by kernel_rfl)) (own := [("_law_j", 9)]) (o := false) (qi_rng1 rfl T.z_range (qa_cons (qe_op q_add qe_int (qe_call C_l_draw hgd (hr.mono (by decide)) rfl T.m_l_draw T.F_l_draw.kp T.b_l_draw (qa_cons (qe_var 0) (qa_cons qe_int qa_nil)))) qa_nil)) (blkOk_by (N := N_l_draws) (by kernel_rfl)) (fun _ _ _ _ _ => (qg_name (i := 9) (ws := [9]) sc_l_draws.nd rfl (by first | exact Or.inl rfl | exact Or.inr rfl))) (fun _ _ _ _ _ => qts_nil) (fun _ _ _ _ _ => (qe_call C_l_draw hgd (hr.mono (by decide)) rfl T.m_l_draw T.F_l_draw.kp T.b_l_draw (qa_cons (qe_var 0) (qa_cons (qe_var 1) qa_nil)))))
    (qb_cons (qs_if (qt_cmp q_lt (qe_var 4) qe_int)
    (qb_one (qs_set (i := 8) sc_l_draws.nd rfl (Or.inl rfl) (qe_sl (qe_op q_mul (qe_var 8) qe_int) qo_none (qo_some (qe_op q_add (qe_var 4) qe_int)))))
    qb_nil)
    (qb_one (qs_expr (qe_bm (m_one m_append) (qe_var 6) (qa_cons (qe_callT q_tuple rfl T.z_tuple boot_tuple (qa_cons (qe_var 8) qa_nil)) qa_nil)))))))
    (qb_one (qs_ret (qe_frz (qe_var 6)))))))))
abbrev Ok_l_draws (P : Program) (w : World) (K : PySem.W.Frag) (mg : Str → Option Value) (base : Heap) (T : Txt K mg) : Prop := FnP P w K mg base 2 T.a_l_draws T.fd_l_draws ["_law_pen_here", "_law_n", "_law_most"] sp_l_draws

def t_l_order : PTS :=
    (pSeq (pSet 2 (pCB (rList true) (pCons (pVar 1) pNil)))
    (pSeq (pSet 3 (pOwn pNil))
    (pSeq (pFor (pRng1 (pCons (pCB rLen (pCons (pVar 1) pNil)) pNil)) (pgName 4)
    (pDrop (pBM (fun _ => rAppend) ["list"] (pVar 3) (pCons (pBM rPop1 ["list", "dict"] (pVar 2) (pCons (pCall sp_l_draw (pCons (pVar 0) (pCons (pCB rLen (pCons (pVar 2) pNil)) pNil))) pNil)) pNil))))
    (pRet (pFrz (pVar 3))))))
theorem d_l_order {P : Program} {w : World} {K : PySem.W.Frag} {mg : Str → Option Value} {base : Heap} (T : Txt K mg) (C_l_draw : FnP P w K mg base 1 T.a_l_draw T.fd_l_draw ["_law_pen_here", "_law_many"] sp_l_draw) {cdv : Value} {A : Around} {outer : List Env} {s : Shared} {H : Hp} {E : XK} (hgd : A.guards = some []) (hr : Room 1 (A.deeper (envOfC "_law_order" (defScope s_l_order) s.heap.objs.size T.a_l_order cdv))) :
    QB (cxOf (L2.CX P w) P w K mg base N_l_order "_law_order" (defScope s_l_order) T.a_l_order cdv A outer s H E) (defBody s_l_order) (t_l_order) :=
  have hp : PassesOwn (model P w) (cxOf (L2.CX P w) P w K mg base N_l_order "_law_order" (defScope s_l_order) T.a_l_order cdv A outer s H E).A (cxOf (L2.CX P w) P w K mg base N_l_order "_law_order" (defScope s_l_order) T.a_l_order cdv A outer s H E).env (cxOf (L2.CX P w) P w K mg base N_l_order "_law_order" (defScope s_l_order) T.a_l_order cdv A outer s H E).xe := passes_of rfl
  (qb_cons (qs_set (i := 2) sc_l_order.nd rfl (Or.inl rfl) (qe_callT (q_list true) rfl T.z_list boot_list (qa_cons (qe_var 1) qa_nil)))
    (qb_cons (qs_set (i := 3) sc_l_order.nd rfl (Or.inl rfl) (qe_own qa_nil))
    (qb_cons (qs_for hp rfl (qi_rng1 rfl T.z_range (qa_cons (qe_callB q_len rfl T.z_len boot_len (qa_cons (qe_var 1) qa_nil)) qa_nil)) (qg_name (i := 4) (ws := [4]) sc_l_order.nd rfl (by first | exact Or.inl rfl | exact Or.inr rfl))
    (qb_one (qs_expr (qe_bm (m_one m_append) (qe_var 3) (qa_cons (qe_bm m_pop1 (qe_var 2) (qa_cons (qe_call C_l_draw hgd (hr.mono (by decide)) rfl T.m_l_draw T.F_l_draw.kp T.b_l_draw (qa_cons (qe_var 0) (qa_cons (qe_callB q_len rfl T.z_len boot_len (qa_cons (qe_var 2) qa_nil)) qa_nil))) qa_nil)) qa_nil)))))
    (qb_one (qs_ret (qe_frz (qe_var 3)))))))
abbrev Ok_l_order (P : Program) (w : World) (K : PySem.W.Frag) (mg : Str → Option Value) (base : Heap) (T : Txt K mg) : Prop := FnP P w K mg base 2 T.a_l_order T.fd_l_order ["_law_pen_here", "_law_some"] sp_l_order

def t_Room_leave (c_Room : Addr) : PTS :=
    (pSeq (pSet 2 (pMeth c_Room "where" (sp_Room_where c_Room) (pVar 0) (pCons (pVar 1) pNil)))
    (pSeq (pDrop (pBM rPop1 ["list", "dict"] (pFld c_Room "lying" (pVar 0)) (pCons (pVar 1) pNil)))
    (pSeq (pDrop (pBM (fun _ => rAppend) ["list"] (pFld c_Room "past" (pVar 0)) (pCons (pTup (pCons (pC (.bl false)) (pCons (pVar 1) (pCons (pVar 2) pNil)))) pNil)))
    (pRet (pVar 2)))))
theorem d_Room_leave {P : Program} {w : World} {K : PySem.W.Frag} {mg : Str → Option Value} {base : Heap} (T : Txt K mg) (C_Room_where : FnP P w K mg base 2 T.a_Room_where T.fd_Room_where ["self", "ball"] (sp_Room_where T.c_Room)) {cdv : Value} {A : Around} {outer : List Env} {s : Shared} {H : Hp} {E : XK} (hgd : A.guards = some []) (hr : Room 2 (A.deeper (envOfC "Room.leave" (defScope s_Room_leave) s.heap.objs.size T.a_Room_leave cdv))) :
    QB (cxOf (L2.CX P w) P w K mg base N_Room_leave "Room.leave" (defScope s_Room_leave) T.a_Room_leave cdv A outer s H E) (defBody s_Room_leave) (t_Room_leave T.c_Room) :=
  have hp : PassesOwn (model P w) (cxOf (L2.CX P w) P w K mg base N_Room_leave "Room.leave" (defScope s_Room_leave) T.a_Room_leave cdv A outer s H E).A (cxOf (L2.CX P w) P w K mg base N_Room_leave "Room.leave" (defScope s_Room_leave) T.a_Room_leave cdv A outer s H E).env (cxOf (L2.CX P w) P w K mg base N_Room_leave "Room.leave" (defScope s_Room_leave) T.a_Room_leave cdv A outer s H E).xe := passes_of rfl
  (qb_cons (qs_set (i := 2) sc_Room_leave.nd rfl (Or.inl rfl) (qe_meth T.cl_Room T.me_Room_where C_Room_where hgd (hr.mono (by decide)) T.b_Room_where (qe_var 0) (qa_cons (qe_var 1) qa_nil)))
    (qb_cons (qs_expr (qe_bm m_pop1 (qe_fld T.cl_Room T.na_Room_lying (qe_var 0)) (qa_cons (qe_var 1) qa_nil)))
    (qb_cons (qs_expr (qe_bm (m_one m_append) (qe_fld T.cl_Room T.na_Room_past (qe_var 0)) (qa_cons (qe_tup (qa_cons qe_bl (qa_cons (qe_var 1) (qa_cons (qe_var 2) qa_nil)))) qa_nil)))
    (qb_one (qs_ret (qe_var 2))))))
abbrev Ok_Room_leave (P : Program) (w : World) (K : PySem.W.Frag) (mg : Str → Option Value) (base : Heap) (T : Txt K mg) : Prop := FnP P w K mg base 3 T.a_Room_leave T.fd_Room_leave ["self", "ball"] (sp_Room_leave T.c_Room)

def t_l_filled (c_Room : Addr) : PTS :=
    (pSeq (pSet 2 (pMake c_Room (sp_Room___init__ c_Room) (pCons (pVar 0) pNil)))
    (pRet (pTup (pCons (pVar 2) (pCons (pLc false (pISeq (pVar 1)) (pgName 3) pYes (pMeth c_Room "put" (sp_Room_put c_Room) (pVar 2) (pCons (pVar 3) pNil)) [3]) pNil)))))
theorem d_l_filled {P : Program} {w : World} {K : PySem.W.Frag} {mg : Str → Option Value} {base : Heap} (T : Txt K mg) (C_Room___init__ : FnP P w K mg base 1 T.a_Room___init__ T.fd_Room___init__ ["self", "n"] (sp_Room___init__ T.c_Room)) (C_Room_put : FnP P w K mg base 2 T.a_Room_put T.fd_Room_put ["self", "draw"] (sp_Room_put T.c_Room)) {cdv : Value} {A : Around} {outer : List Env} {s : Shared} {H : Hp} {E : XK} (hgd : A.guards = some []) (hr : Room 2 (A.deeper (envOfC "_law_filled" (defScope s_l_filled) s.heap.objs.size T.a_l_filled cdv))) :
    QB (cxOf (L2.CX P w) P w K mg base N_l_filled "_law_filled" (defScope s_l_filled) T.a_l_filled cdv A outer s H E) (defBody s_l_filled) (t_l_filled T.c_Room) :=
  have hp : PassesOwn (model P w) (cxOf (L2.CX P w) P w K mg base N_l_filled "_law_filled" (defScope s_l_filled) T.a_l_filled cdv A outer s H E).A (cxOf (L2.CX P w) P w K mg base N_l_filled "_law_filled" (defScope s_l_filled) T.a_l_filled cdv A outer s H E).env (cxOf (L2.CX P w) P w K mg base N_l_filled "_law_filled" (defScope s_l_filled) T.a_l_filled cdv A outer s H E).xe := passes_of rfl
  (qb_cons (qs_set (i := 2) sc_l_filled.nd rfl (Or.inr rfl) (qe_make T.mk_Room C_Room___init__ hgd (hr.mono (by decide)) rfl T.m_Room T.b_Room___init__ (qa_cons (qe_var 0) qa_nil)))
    (qb_one (qs_ret (qe_tup (qa_cons (qe_var 2) (qa_cons (qe_lc rfl sc_l_filled.nd (own := [("_law_draw_here", 3)]) (o := false) (qi_seq (qe_var 1)) (blkOk_by (N := N_l_filled) (by kernel_rfl)) (fun _ _ _ _ _ => (qg_name (i := 3) (ws := [3]) sc_l_filled.nd rfl (by first | exact Or.inl rfl | exact Or.inr rfl))) (fun _ _ _ _ _ => qts_nil) (fun _ _ _ _ _ => (qe_meth T.cl_Room T.me_Room_put C_Room_put hgd (hr.mono (by decide)) T.b_Room_put (qe_var 2) (qa_cons (qe_var 3) qa_nil)))) qa_nil))))))
abbrev Ok_l_filled (P : Program) (w : World) (K : PySem.W.Frag) (mg : Str → Option Value) (base : Heap) (T : Txt K mg) : Prop := FnP P w K mg base 3 T.a_l_filled T.fd_l_filled ["_law_n", "_law_draws_here"] (sp_l_filled T.c_Room)

def t_l_restless (c_Room : Addr) : PTS :=
    (pSeq (pSet 2 (pMake c_Room (sp_Room___init__ c_Room) (pCons (pVar 0) pNil)))
    (pSeq (pSet 3 (pOwn pNil))
    (pSeq (pFor (pISeq (pVar 1)) (pgName 4)
    (pSeq (pDrop (pMeth c_Room "put" (sp_Room_put c_Room) (pVar 2) (pCons (pRev (pVar 4)) pNil)))
    (pSeq (pDrop (pMeth c_Room "back" (sp_Room_back c_Room) (pVar 2) pNil))
    (pSeq (pAsg (pMeth c_Room "put" (sp_Room_put c_Room) (pVar 2) (pCons (pVar 4) pNil)) (pgTup 2 (pgCons (pgName 5) (pgCons (pgName 6) pgNil))))
    (pSeq (pDrop (pBM (fun _ => rAppend) ["list"] (pVar 3) (pCons (pVar 6) pNil)))
    (pSeq (pDrop (pMeth c_Room "leave" (sp_Room_leave c_Room) (pVar 2) (pCons (pVar 5) pNil)))
    (pDrop (pMeth c_Room "back" (sp_Room_back c_Room) (pVar 2) pNil))))))))
    (pRet (pFrz (pVar 3))))))
theorem d_l_restless {P : Program} {w : World} {K : PySem.W.Frag} {mg : Str → Option Value} {base : Heap} (T : Txt K mg) (C_Room___init__ : FnP P w K mg base 1 T.a_Room___init__ T.fd_Room___init__ ["self", "n"] (sp_Room___init__ T.c_Room)) (C_Room_put : FnP P w K mg base 2 T.a_Room_put T.fd_Room_put ["self", "draw"] (sp_Room_put T.c_Room)) (C_Room_leave : FnP P w K mg base 3 T.a_Room_leave T.fd_Room_leave ["self", "ball"] (sp_Room_leave T.c_Room)) (C_Room_back : FnP P w K mg base 1 T.a_Room_back T.fd_Room_back ["self"] (sp_Room_back T.c_Room)) {cdv : Value} {A : Around} {outer : List Env} {s : Shared} {H : Hp} {E : XK} (hgd : A.guards = some []) (hr : Room 3 (A.deeper (envOfC "_law_restless" (defScope s_l_restless) s.heap.objs.size T.a_l_restless cdv))) :
    QB (cxOf (L2.CX P w) P w K mg base N_l_restless "_law_restless" (defScope s_l_restless) T.a_l_restless cdv A outer s H E) (defBody s_l_restless) (t_l_restless T.c_Room) :=
  have hp : PassesOwn (model P w) (cxOf (L2.CX P w) P w K mg base N_l_restless "_law_restless" (defScope s_l_restless) T.a_l_restless cdv A outer s H E).A (cxOf (L2.CX P w) P w K mg base N_l_restless "_law_restless" (defScope s_l_restless) T.a_l_restless cdv A outer s H E).env (cxOf (L2.CX P w) P w K mg base N_l_restless "_law_restless" (defScope s_l_restless) T.a_l_restless cdv A outer s H E).xe := passes_of rfl
  (qb_cons (qs_set (i := 2) sc_l_restless.nd rfl (Or.inl rfl) (qe_make T.mk_Room C_Room___init__ hgd (hr.mono (by decide)) rfl T.m_Room T.b_Room___init__ (qa_cons (qe_var 0) qa_nil)))
    (qb_cons (qs_set (i := 3) sc_l_restless.nd rfl (Or.inl rfl) (qe_own qa_nil))
    (qb_cons (qs_for hp rfl (qi_seq (qe_var 1)) (qg_name (i := 4) (ws := [4]) sc_l_restless.nd rfl (by first | exact Or.inl rfl | exact Or.inr rfl))
    (qb_cons (qs_expr (qe_meth T.cl_Room T.me_Room_put C_Room_put hgd (hr.mono (by decide)) T.b_Room_put (qe_var 2) (qa_cons (qe_rev (qe_var 4)) qa_nil)))
    (qb_cons (qs_expr (qe_meth0 T.cl_Room T.me_Room_back C_Room_back hgd (hr.mono (by decide)) T.b_Room_back (qe_var 2)))
    (qb_cons (qs_asg (qe_meth T.cl_Room T.me_Room_put C_Room_put hgd (hr.mono (by decide)) T.b_Room_put (qe_var 2) (qa_cons (qe_var 4) qa_nil)) (qg_tup rfl (qgs_cons (qg_name (i := 5) (ws := [5, 6]) sc_l_restless.nd rfl (by first | exact Or.inl rfl | exact Or.inr rfl)) (qgs_cons (qg_name (i := 6) (ws := [5, 6]) sc_l_restless.nd rfl (by first | exact Or.inl rfl | exact Or.inr rfl)) (qgs_nil (ws := [5, 6]))))))
    (qb_cons (qs_expr (qe_bm (m_one m_append) (qe_var 3) (qa_cons (qe_var 6) qa_nil)))
    (qb_cons (qs_expr (qe_meth T.cl_Room T.me_Room_leave C_Room_leave hgd (hr.mono (by decide)) T.b_Room_leave (qe_var 2) (qa_cons (qe_var 5) qa_nil)))
    (qb_one (qs_expr (qe_meth0 T.cl_Room T.me_Room_back C_Room_back hgd (hr.mono (by decide)) T.b_Room_back (qe_var 2))))))))))
    (qb_one (qs_ret (qe_frz (qe_var 3)))))))
abbrev Ok_l_restless (P : Program) (w : World) (K : PySem.W.Frag) (mg : Str → Option Value) (base : Heap) (T : Txt K mg) : Prop := FnP P w K mg base 4 T.a_l_restless T.fd_l_restless ["_law_n", "_law_draws_here"] (sp_l_restless T.c_Room)

def t_l_left_right (c_Room : Addr) : PTS :=
    (pSeq (pSet 4 (pOwn pNil))
    (pSeq (pFor (pRng1 (pCons (pC (.int 2)) pNil)) (pgName 5)
    (pSeq (pAsg (pCall (sp_l_filled c_Room) (pCons (pVar 1) (pCons (pVar 2) pNil))) (pgTup 2 (pgCons (pgName 6) (pgCons (pgName 7) pgNil))))
    (pSeq (pSet 8 (pMeth c_Room "stand" (sp_Room_stand c_Room) (pVar 6) pNil))
    (pSeq (pFor (pISeq (pCall sp_l_order (pCons (pVar 0) (pCons (pVar 3) pNil)))) (pgName 9)
    (pIf (pOr (pTb (pOp rNe (pMeth c_Room "where" (sp_Room_where c_Room) (pVar 6) (pCons (pVar 9) pNil)) (pOp rIx (pOp rIx (pVar 7) (pVar 9)) (pC (.int 1))))) (pTb (pOp rNe (pMeth c_Room "leave" (sp_Room_leave c_Room) (pVar 6) (pCons (pVar 9) pNil)) (pOp rIx (pOp rIx (pVar 7) (pVar 9)) (pC (.int 1))))))
    (pRet (pC (.bl false)))
    pNext))
    (pSeq (pDrop (pBM (fun _ => rAppend) ["list"] (pVar 4) (pCons (pMeth c_Room "stand" (sp_Room_stand c_Room) (pVar 6) pNil) pNil)))
    (pSeq (pAsg (pFrzT 1 (pCall sp_by_draws (pCons (pOp rIx (pVar 4) (pUn rNeg (pC (.int 1)))) (pCons (pSl (pVar 2) pNoPart (pPart (pC (.int 1)))) pNil)))) (pgTup 2 (pgCons (pgName 10) (pgCons (pgName 11) pgNil))))
    (pSeq (pIf (pAnd (pTb (pOp rNe (pVar 2) (pLst pNil))) (pTb (pOp rNe (pSl (pMeth c_Room "put" (sp_Room_put c_Room) (pVar 6) (pCons (pOp rIx (pVar 2) (pC (.int 0))) pNil)) (pPart (pC (.int 1))) pNoPart) (pCB rTuple (pCons (pVar 11) pNil)))))
    (pRet (pC (.bl false)))
    pNext)
    (pSeq (pFor (pRng1 (pCons (pOp rAdd (pCB rLen (pCons (pVar 3) pNil)) (pCB rLen (pCons (pSl (pVar 2) pNoPart (pPart (pC (.int 1)))) pNil))) pNil)) (pgName 12)
    (pDrop (pMeth c_Room "back" (sp_Room_back c_Room) (pVar 6) pNil)))
    (pSeq (pIf (pOr (pTb (pOp rNe (pMeth c_Room "stand" (sp_Room_stand c_Room) (pVar 6) pNil) (pVar 8))) (pNot (pTb (pCB rAllB (pCons (pLc false (pISeq (pVar 7)) (pgTup 2 (pgCons (pgName 9) (pgCons (pgName 13) pgNil))) pYes (pOp rEq (pMeth c_Room "where" (sp_Room_where c_Room) (pVar 6) (pCons (pVar 9) pNil)) (pVar 13)) [9, 13]) pNil)))))
    (pRet (pC (.bl false)))
    pNext)
    (pSeq (pFor (pRng1 (pCons (pCB rLen (pCons (pVar 2) pNil)) pNil)) (pgName 12)
    (pDrop (pMeth c_Room "back" (sp_Room_back c_Room) (pVar 6) pNil)))
    (pIf (pTb (pOp rNe (pMeth c_Room "stand" (sp_Room_stand c_Room) (pVar 6) pNil) (pOp rMul (pTup (pCons (pC (.int 0)) pNil)) (pVar 1))))
    (pRet (pC (.bl false)))
    pNext)))))))))))
    (pRet (pOp rEq (pOp rIx (pVar 4) (pC (.int 0))) (pOp rIx (pVar 4) (pC (.int 1)))))))
theorem d_l_left_right {P : Program} {w : World} {K : PySem.W.Frag} {mg : Str → Option Value} {base : Heap} (T : Txt K mg) (C_by_draws : FnP P w K mg base 2 T.a_by_draws T.fd_by_draws ["stand", "draws"] sp_by_draws) (C_Room_put : FnP P w K mg base 2 T.a_Room_put T.fd_Room_put ["self", "draw"] (sp_Room_put T.c_Room)) (C_Room_where : FnP P w K mg base 2 T.a_Room_where T.fd_Room_where ["self", "ball"] (sp_Room_where T.c_Room)) (C_Room_leave : FnP P w K mg base 3 T.a_Room_leave T.fd_Room_leave ["self", "ball"] (sp_Room_leave T.c_Room)) (C_Room_back : FnP P w K mg base 1 T.a_Room_back T.fd_Room_back ["self"] (sp_Room_back T.c_Room)) (C_Room_stand : FnP P w K mg base 1 T.a_Room_stand T.fd_Room_stand ["self"] (sp_Room_stand T.c_Room)) (C_l_order : FnP P w K mg base 2 T.a_l_order T.fd_l_order ["_law_pen_here", "_law_some"] sp_l_order) (C_l_filled : FnP P w K mg base 3 T.a_l_filled T.fd_l_filled ["_law_n", "_law_draws_here"] (sp_l_filled T.c_Room)) {cdv : Value} {A : Around} {outer : List Env} {s : Shared} {H : Hp} {E : XK} (hgd : A.guards = some []) (hr : Room 3 (A.deeper (envOfC "_law_left_right" (defScope s_l_left_right) s.heap.objs.size T.a_l_left_right cdv))) :
    QB (cxOf (L2.CX P w) P w K mg base N_l_left_right "_law_left_right" (defScope s_l_left_right) T.a_l_left_right cdv A outer s H E) (defBody s_l_left_right) (t_l_left_right T.c_Room) :=
  have hp : PassesOwn (model P w) (cxOf (L2.CX P w) P w K mg base N_l_left_right "_law_left_right" (defScope s_l_left_right) T.a_l_left_right cdv A outer s H E).A (cxOf (L2.CX P w) P w K mg base N_l_left_right "_law_left_right" (defScope s_l_left_right) T.a_l_left_right cdv A outer s H E).env (cxOf (L2.CX P w) P w K mg base N_l_left_right "_law_left_right" (defScope s_l_left_right) T.a_l_left_right cdv A outer s H E).xe := passes_of rfl
  (qb_cons (qs_set (i := 4) sc_l_left_right.nd rfl (Or.inl rfl) (qe_own qa_nil))
    (qb_cons (qs_for hp rfl (qi_rng1 rfl T.z_range (qa_cons qe_int qa_nil)) (qg_name (i := 5) (ws := [5]) sc_l_left_right.nd rfl (by first | exact Or.inl rfl | exact Or.inr rfl))
    (qb_cons (qs_asg (qe_call C_l_filled hgd (hr.mono (by decide)) rfl T.m_l_filled T.F_l_filled.kp T.b_l_filled (qa_cons (qe_var 1) (qa_cons (qe_var 2) qa_nil))) (qg_tup rfl (qgs_cons (qg_name (i := 6) (ws := [6, 7]) sc_l_left_right.nd rfl (by first | exact Or.inl rfl | exact Or.inr rfl)) (qgs_cons (qg_name (i := 7) (ws := [6, 7]) sc_l_left_right.nd rfl (by first | exact Or.inl rfl | exact Or.inr rfl)) (qgs_nil (ws := [6, 7]))))))
    (qb_cons (qs_set (i := 8) sc_l_left_right.nd rfl (Or.inl rfl) (qe_meth0 T.cl_Room T.me_Room_stand C_Room_stand hgd (hr.mono (by decide)) T.b_Room_stand (qe_var 6)))
    (qb_cons (qs_for hp rfl (qi_seq (qe_call C_l_order hgd (hr.mono (by decide)) rfl T.m_l_order T.F_l_order.kp T.b_l_order (qa_cons (qe_var 0) (qa_cons (qe_var 3) qa_nil)))) (qg_name (i := 9) (ws := [9]) sc_l_left_right.nd rfl (by first | exact Or.inl rfl | exact Or.inr rfl))
    (qb_one (qs_if (qt_w (qw_or (qt_cmp (q_ne (room_64 hr)) (qe_meth T.cl_Room T.me_Room_where C_Room_where hgd (hr.mono (by decide)) T.b_Room_where (qe_var 6) (qa_cons (qe_var 9) qa_nil)) (qe_ix (q_ix (hu_of hr)) (qe_ix (q_ix (hu_of hr)) (qe_var 7) (qe_var 9)) qe_int)) (qw_or1 (qt_cmp (q_ne (room_64 hr)) (qe_meth T.cl_Room T.me_Room_leave C_Room_leave hgd (hr.mono (by decide)) T.b_Room_leave (qe_var 6) (qa_cons (qe_var 9) qa_nil)) (qe_ix (q_ix (hu_of hr)) (qe_ix (q_ix (hu_of hr)) (qe_var 7) (qe_var 9)) qe_int)))))
    (qb_one (qs_ret qe_bl))
    qb_nil)))
    (qb_cons (qs_expr (qe_bm (m_one m_append) (qe_var 4) (qa_cons (qe_meth0 T.cl_Room T.me_Room_stand C_Room_stand hgd (hr.mono (by decide)) T.b_Room_stand (qe_var 6)) qa_nil)))
    (qb_cons (qs_asg (qe_frzT 1 (qe_call C_by_draws hgd (hr.mono (by decide)) rfl T.m_by_draws T.F_by_draws.kp T.b_by_draws (qa_cons (qe_ix (q_ix (hu_of hr)) (qe_var 4) (qe_un q_neg qe_int)) (qa_cons (qe_sl (qe_var 2) qo_none (qo_some qe_int)) qa_nil)))) (qg_tup rfl (qgs_cons (qg_name (i := 10) (ws := [10, 11]) sc_l_left_right.nd rfl (by first | exact Or.inl rfl | exact Or.inr rfl)) (qgs_cons (qg_name (i := 11) (ws := [10, 11]) sc_l_left_right.nd rfl (by first | exact Or.inl rfl | exact Or.inr rfl)) (qgs_nil (ws := [10, 11]))))))
    (qb_cons (qs_if (qt_w (qw_and (qt_cmp (q_ne (room_64 hr)) (qe_var 2) (qe_lst qa_nil)) (qw_and1 (qt_cmp (q_ne (room_64 hr)) (qe_sl (qe_meth T.cl_Room T.me_Room_put C_Room_put hgd (hr.mono (by decide)) T.b_Room_put (qe_var 6) (qa_cons (qe_ix (q_ix (hu_of hr)) (qe_var 2) qe_int) qa_nil)) (qo_some qe_int) qo_none) (qe_callT q_tuple rfl T.z_tuple boot_tuple (qa_cons (qe_var 11) qa_nil))))))
    (qb_one (qs_ret qe_bl))
    qb_nil)
    (qb_cons (qs_for hp rfl (qi_rng1 rfl T.z_range (qa_cons (qe_op q_add (qe_callB q_len rfl T.z_len boot_len (qa_cons (qe_var 3) qa_nil)) (qe_callB q_len rfl T.z_len boot_len (qa_cons (qe_sl (qe_var 2) qo_none (qo_some qe_int)) qa_nil))) qa_nil)) (qg_name (i := 12) (ws := [12]) sc_l_left_right.nd rfl (by first | exact Or.inl rfl | exact Or.inr rfl))
    (qb_one (qs_expr (qe_meth0 T.cl_Room T.me_Room_back C_Room_back hgd (hr.mono (by decide)) T.b_Room_back (qe_var 6)))))
    (qb_cons (qs_if (qt_w (qw_or (qt_cmp (q_ne (room_64 hr)) (qe_meth0 T.cl_Room T.me_Room_stand C_Room_stand hgd (hr.mono (by decide)) T.b_Room_stand (qe_var 6)) (qe_var 8)) (qw_or1 (qt_not (qt_val (qe_callB (q_all rfl) rfl T.z_all (by decide +kernel) (qa_cons (qe_lc rfl sc_l_left_right.nd (own := [("_law_ball", 9), ("_law_box", 13)]) (o := false) (qi_seq (qe_var 7)) (blkOk_by (N := N_l_left_right) (by kernel_rfl)) (fun _ _ _ _ _ => (qg_tup rfl (qgs_cons (qg_name (i := 9) (ws := [9, 13]) sc_l_left_right.nd rfl (by first | exact Or.inl rfl | exact Or.inr rfl)) (qgs_cons (qg_name (i := 13) (ws := [9, 13]) sc_l_left_right.nd rfl (by first | exact Or.inl rfl | exact Or.inr rfl)) (qgs_nil (ws := [9, 13])))))) (fun _ _ _ _ _ => qts_nil) (fun _ _ _ _ _ => (qe_cmp (q_eq (room_64 hr)) (qe_meth T.cl_Room T.me_Room_where C_Room_where hgd (hr.mono (by decide)) T.b_Room_where (qe_var 6) (qa_cons (qe_var 9) qa_nil)) (qe_var 13)))) qa_nil)))))))
    (qb_one (qs_ret qe_bl))
    qb_nil)
    (qb_cons (qs_for hp rfl (qi_rng1 rfl T.z_range (qa_cons (qe_callB q_len rfl T.z_len boot_len (qa_cons (qe_var 2) qa_nil)) qa_nil)) (qg_name (i := 12) (ws := [12]) sc_l_left_right.nd rfl (by first | exact Or.inl rfl | exact Or.inr rfl))
    (qb_one (qs_expr (qe_meth0 T.cl_Room T.me_Room_back C_Room_back hgd (hr.mono (by decide)) T.b_Room_back (qe_var 6)))))
    (qb_one (qs_if (qt_cmp (q_ne (room_64 hr)) (qe_meth0 T.cl_Room T.me_Room_stand C_Room_stand hgd (hr.mono (by decide)) T.b_Room_stand (qe_var 6)) (qe_op q_mul (qe_tup (qa_cons qe_int qa_nil)) (qe_var 1)))
    (qb_one (qs_ret qe_bl))
    qb_nil))))))))))))
    (qb_one (qs_ret (qe_cmp (q_eq (room_64 hr)) (qe_ix (q_ix (hu_of hr)) (qe_var 4) qe_int) (qe_ix (q_ix (hu_of hr)) (qe_var 4) qe_int))))))
abbrev Ok_l_left_right (P : Program) (w : World) (K : PySem.W.Frag) (mg : Str → Option Value) (base : Heap) (T : Txt K mg) : Prop := FnP P w K mg base 4 T.a_l_left_right T.fd_l_left_right ["_law_pen_here", "_law_n", "_law_draws_here", "_law_gone"] (sp_l_left_right T.c_Room)

def t_law (c_Room : Addr) : PTS :=
    (pSeq (pSet 1 (pCall sp_l_pen (pCons (pVar 0) pNil)))
    (pSeq (pFor (pRng1 (pCons (pC (.int 3)) pNil)) (pgName 2)
    (pSeq (pSet 3 (pOp rAdd (pC (.int 1)) (pCall sp_l_draw (pCons (pVar 1) (pCons (pC (.int 6)) pNil)))))
    (pSeq (pSet 4 (pCall sp_l_draws (pCons (pVar 1) (pCons (pVar 3) (pCons (pC (.int 30)) pNil)))))
    (pSeq (pAsg (pCall (sp_l_filled c_Room) (pCons (pVar 3) (pCons (pVar 4) pNil))) (pgTup 2 (pgCons (pgName 5) (pgCons (pgName 6) pgNil))))
    (pSeq (pAsg (pFrzT 1 (pCall sp_by_draws (pCons (pOp rMul (pTup (pCons (pC (.int 0)) pNil)) (pVar 3)) (pCons (pVar 4) pNil)))) (pgTup 2 (pgCons (pgName 7) (pgCons (pgName 8) pgNil))))
    (pSeq (pIf (pOr (pTb (pOp rNe (pLc false (pISeq (pVar 6)) (pgTup 2 (pgCons (pgName 10) (pgCons (pgName 11) pgNil))) pYes (pVar 11) [10, 11]) (pVar 8))) (pTb (pOp rNe (pLc false (pISeq (pVar 6)) (pgTup 2 (pgCons (pgName 10) (pgCons (pgName 11) pgNil))) pYes (pVar 10) [10, 11]) (pListRg false (pCB rLen (pCons (pVar 4) pNil))))))
    (pRet (pC (.bl false)))
    pNext)
    (pSeq (pIf (pOr (pTb (pOp rNe (pMeth c_Room "stand" (sp_Room_stand c_Room) (pVar 5) pNil) (pVar 7))) (pTb (pOp rNe (pMeth c_Room "load" (sp_Room_load c_Room) (pVar 5) pNil) (pCB rTuple (pCons (pSortedR false true (pCons (pVar 7) pNil)) pNil)))))
    (pRet (pC (.bl false)))
    pNext)
    (pSeq (pIf (pTb (pOp rNe (pCall (sp_l_restless c_Room) (pCons (pVar 3) (pCons (pVar 4) pNil))) (pVar 8)))
    (pRet (pC (.bl false)))
    pNext)
    (pSeq (pSet 9 (pLc false (pRng1 (pCons (pCB rLen (pCons (pVar 4) pNil)) pNil)) (pgName 10) (pTb (pOp rEq (pCall sp_l_draw (pCons (pVar 1) (pCons (pC (.int 2)) pNil))) (pC (.int 0)))) (pVar 10) [10]))
    (pIf (pNot (pTb (pCall (sp_l_left_right c_Room) (pCons (pVar 1) (pCons (pVar 3) (pCons (pVar 4) (pCons (pVar 9) pNil)))))))
    (pRet (pC (.bl false)))
    pNext))))))))))
    (pRet (pC (.bl true)))))
theorem d_law {P : Program} {w : World} {K : PySem.W.Frag} {mg : Str → Option Value} {base : Heap} (T : Txt K mg) (C_by_draws : FnP P w K mg base 2 T.a_by_draws T.fd_by_draws ["stand", "draws"] sp_by_draws) (C_Room_stand : FnP P w K mg base 1 T.a_Room_stand T.fd_Room_stand ["self"] (sp_Room_stand T.c_Room)) (C_Room_load : FnP P w K mg base 2 T.a_Room_load T.fd_Room_load ["self"] (sp_Room_load T.c_Room)) (C_l_pen : FnP P w K mg base 1 T.a_l_pen T.fd_l_pen ["_law_script"] sp_l_pen) (C_l_draw : FnP P w K mg base 1 T.a_l_draw T.fd_l_draw ["_law_pen_here", "_law_many"] sp_l_draw) (C_l_draws : FnP P w K mg base 2 T.a_l_draws T.fd_l_draws ["_law_pen_here", "_law_n", "_law_most"] sp_l_draws) (C_l_filled : FnP P w K mg base 3 T.a_l_filled T.fd_l_filled ["_law_n", "_law_draws_here"] (sp_l_filled T.c_Room)) (C_l_restless : FnP P w K mg base 4 T.a_l_restless T.fd_l_restless ["_law_n", "_law_draws_here"] (sp_l_restless T.c_Room)) (C_l_left_right : FnP P w K mg base 4 T.a_l_left_right T.fd_l_left_right ["_law_pen_here", "_law_n", "_law_draws_here", "_law_gone"] (sp_l_left_right T.c_Room)) {cdv : Value} {A : Around} {outer : List Env} {s : Shared} {H : Hp} {E : XK} (hgd : A.guards = some []) (hr : Room 4 (A.deeper (envOfC "law" (defScope s_law) s.heap.objs.size T.a_law cdv))) :
    QB (cxOf (L2.CX P w) P w K mg base N_law "law" (defScope s_law) T.a_law cdv A outer s H E) (defBody s_law) (t_law T.c_Room) :=
  have hp : PassesOwn (model P w) (cxOf (L2.CX P w) P w K mg base N_law "law" (defScope s_law) T.a_law cdv A outer s H E).A (cxOf (L2.CX P w) P w K mg base N_law "law" (defScope s_law) T.a_law cdv A outer s H E).env (cxOf (L2.CX P w) P w K mg base N_law "law" (defScope s_law) T.a_law cdv A outer s H E).xe := passes_of rfl
  (qb_cons (qs_set (i := 1) sc_law.nd rfl (Or.inr rfl) (qe_call C_l_pen hgd (hr.mono (by decide)) rfl T.m_l_pen T.F_l_pen.kp T.b_l_pen (qa_cons (qe_var 0) qa_nil)))
    (qb_cons (qs_for hp rfl (qi_rng1 rfl T.z_range (qa_cons qe_int qa_nil)) (qg_name (i := 2) (ws := [2]) sc_law.nd rfl (by first | exact Or.inl rfl | exact Or.inr rfl))
    (qb_cons (qs_set (i := 3) sc_law.nd rfl (Or.inl rfl) (qe_op q_add qe_int (qe_call C_l_draw hgd (hr.mono (by decide)) rfl T.m_l_draw T.F_l_draw.kp T.b_l_draw (qa_cons (qe_var 1) (qa_cons qe_int qa_nil)))))
    (qb_cons (qs_set (i := 4) sc_law.nd rfl (Or.inl rfl) (qe_call C_l_draws hgd (hr.mono (by decide)) rfl T.m_l_draws T.F_l_draws.kp T.b_l_draws (qa_cons (qe_var 1) (qa_cons (qe_var 3) (qa_cons qe_int qa_nil)))))
    (qb_cons (qs_asg (qe_call C_l_filled hgd (hr.mono (by decide)) rfl T.m_l_filled T.F_l_filled.kp T.b_l_filled (qa_cons (qe_var 3) (qa_cons (qe_var 4) qa_nil))) (qg_tup rfl (qgs_cons (qg_name (i := 5) (ws := [5, 6]) sc_law.nd rfl (by first | exact Or.inl rfl | exact Or.inr rfl)) (qgs_cons (qg_name (i := 6) (ws := [5, 6]) sc_law.nd rfl (by first | exact Or.inl rfl | exact Or.inr rfl)) (qgs_nil (ws := [5, 6]))))))
    (qb_cons (qs_asg (qe_frzT 1 (qe_call C_by_draws hgd (hr.mono (by decide)) rfl T.m_by_draws T.F_by_draws.kp T.b_by_draws (qa_cons (qe_op q_mul (qe_tup (qa_cons qe_int qa_nil)) (qe_var 3)) (qa_cons (qe_var 4) qa_nil)))) (qg_tup rfl (qgs_cons (qg_name (i := 7) (ws := [7, 8]) sc_law.nd rfl (by first | exact Or.inl rfl | exact Or.inr rfl)) (qgs_cons (qg_name (i := 8) (ws := [7, 8]) sc_law.nd rfl (by first | exact Or.inl rfl | exact Or.inr rfl)) (qgs_nil (ws := [7, 8]))))))
    (qb_cons (qs_if (qt_w (qw_or (qt_cmp (q_ne (room_64 hr)) (qe_lc rfl sc_law.nd (own := [("_law_ball", 10), ("_law_box", 11)]) (o := false) (qi_seq (qe_var 6)) (blkOk_by (N := N_law) (by kernel_rfl)) (fun _ _ _ _ _ => (qg_tup rfl (qgs_cons (qg_name (i := 10) (ws := [10, 11]) sc_law.nd rfl (by first | exact Or.inl rfl | exact Or.inr rfl)) (qgs_cons (qg_name (i := 11) (ws := [10, 11]) sc_law.nd rfl (by first | exact Or.inl rfl | exact Or.inr rfl)) (qgs_nil (ws := [10, 11])))))) (fun _ _ _ _ _ => qts_nil) (fun _ _ _ _ _ => (qe_var 11))) (qe_var 8)) (qw_or1 (qt_cmp (q_ne (room_64 hr)) (qe_lc rfl sc_law.nd (own := [("_law_ball", 10), ("_law_box", 11)]) (o := false) (qi_seq (qe_var 6)) (blkOk_by (N := N_law) (by kernel_rfl)) (fun _ _ _ _ _ => (qg_tup rfl (qgs_cons (qg_name (i := 10) (ws := [10, 11]) sc_law.nd rfl (by first | exact Or.inl rfl | exact Or.inr rfl)) (qgs_cons (qg_name (i := 11) (ws := [10, 11]) sc_law.nd rfl (by first | exact Or.inl rfl | exact Or.inr rfl)) (qgs_nil (ws := [10, 11])))))) (fun _ _ _ _ _ => qts_nil) (fun _ _ _ _ _ => (qe_var 10))) (qe_listRg (own := false) rfl rfl T.z_list rfl T.z_range (qe_callB q_len rfl T.z_len boot_len (qa_cons (qe_var 4) qa_nil)))))))
    (qb_one (qs_ret qe_bl))
    qb_nil)
    (qb_cons (qs_if (qt_w (qw_or (qt_cmp (q_ne (room_64 hr)) (qe_meth0 T.cl_Room T.me_Room_stand C_Room_stand hgd (hr.mono (by decide)) T.b_Room_stand (qe_var 5)) (qe_var 7)) (qw_or1 (qt_cmp (q_ne (room_64 hr)) (qe_meth0 T.cl_Room T.me_Room_load C_Room_load hgd (hr.mono (by decide)) T.b_Room_load (qe_var 5)) (qe_callT q_tuple rfl T.z_tuple boot_tuple (qa_cons (qe_sortedR (own := false) (b := true) rfl T.z_sorted boot_sorted (qa_cons (qe_var 7) qa_nil)) qa_nil))))))
    (qb_one (qs_ret qe_bl))
    qb_nil)
    (qb_cons (qs_if (qt_cmp (q_ne (room_64 hr)) (qe_call C_l_restless hgd (hr.mono (by decide)) rfl T.m_l_restless T.F_l_restless.kp T.b_l_restless (qa_cons (qe_var 3) (qa_cons (qe_var 4) qa_nil))) (qe_var 8))
    (qb_one (qs_ret qe_bl))
    qb_nil)
    (qb_cons (qs_setLc (i := 9) rfl sc_law.nd rfl rfl (sw_true rfl rfl rfl (by kernel_rfl)) (own := [("_law_ball", 10)]) (o := false) (qi_rng1 rfl T.z_range (qa_cons (qe_callB q_len rfl T.z_len boot_len (qa_cons (qe_var 4) qa_nil)) qa_nil)) (blkOk_by (N := N_law) (by kernel_rfl)) (fun _ _ _ _ _ => (qg_name (i := 10) (ws := [10]) sc_law.nd rfl (by first | exact Or.inl rfl | exact Or.inr rfl))) (fun _ _ _ _ _ => (qts_one (qt_cmp (q_eq (room_64 hr)) (qe_call C_l_draw hgd (hr.mono (by decide)) rfl T.m_l_draw T.F_l_draw.kp T.b_l_draw (qa_cons (qe_var 1) (qa_cons qe_int qa_nil))) qe_int))) (fun _ _ _ _ _ => (qe_var 10)))
    (qb_one (qs_if (qt_not (qt_val (qe_call C_l_left_right hgd (hr.mono (by decide)) rfl T.m_l_left_right T.F_l_left_right.kp T.b_l_left_right (qa_cons (qe_var 1) (qa_cons (qe_var 3) (qa_cons (qe_var 4) (qa_cons (qe_var 9) qa_nil)))))))
    (qb_one (qs_ret qe_bl))
    qb_nil)))))))))))
    (qb_one (qs_ret qe_bl))))
abbrev Ok_law (P : Program) (w : World) (K : PySem.W.Frag) (mg : Str → Option Value) (base : Heap) (T : Txt K mg) : Prop := FnP P w K mg base 5 T.a_law T.fd_law ["_law_script"] sp_law

end K58
end

section
namespace K58
open PySem PL
open L2 (atI ixN atI_nat upd Key)
local macro_rules | `(tactic| walk_at "pv") => `(tactic| first | dsimp only [pVar, pC, pUn, pOp, pNil, pCons, pCB, pTup, pLst, pOwn, pFrz, pDrop, pRet, pRetN, pIf, pSet, pAsg, pgName, pgNil, pgCons, pgTup, pgSub, pTb, pAnd, pOr, pNot, pAndV, pOrV, pNotV, pIfE, pCall, pNext, pISeq, pRng1, pRng2, pSl, pNoPart, pPart, pBM, pFrzT, pYes, wipeE, pgTup, pairP, pZip, pSortedR, pListRg, pRev,
  rAdd_ii, rSub_ii, rMul_ii, rFdiv_ii, rMod_ii, rPow_ii, rLt_ii, rLe_ii, rGt_ii, rGe_ii, rEq_ii, rNe_ii, rEq_ss, rNe_ss, rNeg_i, rAbs_i, rMin_ii, rMax_ii, rInt_i, rInt_b,
  List.getElem?_cons_zero, List.getElem?_cons_succ, List.set_cons_zero, List.set_cons_succ, List.length_cons, List.length_nil] | skip)
variable {P : Program} {w : World} {K : PySem.W.Frag} {mg : Str → Option Value} {base : Heap}
theorem atI_map {zs : List Int} {i : Int} (h0 : 0 ≤ i) (h : i < zs.length) : atI (zs.map PV.int) i = some (.int (atZ zs i)) := by
  have e : i.toNat < zs.length := by omega
  refine atI_in h0 ?_
  rw [List.getElem?_map, List.getElem?_eq_getElem e]
  unfold atZ
  rw [List.getD_eq_getElem?_getD, List.getElem?_eq_getElem e]
  rfl
theorem ok_chosen (T : Txt K mg) : Ok_chosen P w K mg base T := by
  refine def_by T.F_chosen sc_chosen (d_chosen T) fun xs G Q Ex h => ?_
  obtain ⟨s, zs, ds, rfl, hs, hb, q⟩ := h
  refine ⟨rfl, ?_⟩
  obtain ⟨d, r, rfl⟩ : ∃ d r, ds = d :: r := by
    cases ds with
    | nil => exact absurd rfl hb.1
    | cons d r => exact ⟨d, r, rfl⟩
  have hd := hb.2 d List.mem_cons_self
  show t_chosen _ [some s, some (tI (d :: r)), none, none] G
  unfold t_chosen
  refine seq_gen fun K1 h1 => ?_
  walk_at "pv"
  refine rIx_seq (xs := (d :: r).map .int) rfl (atI_nat (j := 0) rfl) (h1 _ _ ?_)
  clear h1
  refine seq_gen fun K1 h1 => ?_
  refine for_gen fun g' tb' hg htb => ?_
  walk_at "pv"
  refine iseq_of rfl (for_l (fun i env G' => ∃ b x3, env = [some s, some (tI (d :: r)), some (.int b), x3] ∧ G' = G ∧ (0 ≤ b ∧ b < (zs.length : Int)) ∧ chooseGo zs b ((d :: r).drop i) = choose zs (d :: r)) ⟨d, none, rfl, rfl, hd, rfl⟩ (fun i x env G' hx hI => ?_) fun env G' hI => ?_)
  · obtain ⟨b, x3, rfl, rfl, hb1, he⟩ := hI
    rw [List.getElem?_map] at hx
    obtain ⟨d', hd', rfl⟩ := Option.map_eq_some_iff.mp hx
    have hm := hb.2 d' (List.mem_of_getElem? hd')
    subst hg htb
    walk_at "pv"
    refine rIx_seq hs (atI_map hm.1 hm.2) (rIx_seq hs (atI_map hb1.1 hb1.2) ?_)
    walk_at "pv"
    have hdr : (d :: r).drop i = d' :: (d :: r).drop (i + 1) := by
      obtain ⟨hl, hg⟩ := List.getElem?_eq_some_iff.mp hd'
      rw [List.drop_eq_getElem_cons hl, hg]
    rw [hdr] at he
    refine ite_dec (fun c => ?_) fun c => ?_
    · exact ⟨d', _, rfl, rfl, hm, by unfold chooseGo at he; rw [if_pos c] at he; exact he⟩
    · exact ⟨b, _, rfl, rfl, hb1, by unfold chooseGo at he; rw [if_neg c] at he; exact he⟩
  · obtain ⟨b, x3, rfl, rfl, hb1, he⟩ := hI
    rw [List.length_map, List.drop_length] at he
    refine h1 _ _ ?_
    walk_at "pv"
    rw [show choose zs (d :: r) = b from he.symm] at q
    exact q
theorem isI_whole : ∀ t ∈ tyNames, (isI t "int" = true → (!isI t "bool") = (t == "int")) ∧ (isI t "int" = false → (t == "int") = false) := by decide +kernel
theorem cut63 (ns : List Int) : ∃ cs : List Int, cutP (ns.map .int) none (some 63) = cs.map .int ∧ cs.length ≤ 63 := by
  refine ⟨ns.take 63, ?_, by rw [List.length_take]; omega⟩
  unfold cutP
  have e : HT.sIx (ns.map PV.int).length (ns.map PV.int).length (some 63) = min 63 (ns.map PV.int).length := HT.sIx_nat _ _ 63
  rw [e, HT.sIx_none, List.drop_zero, Nat.sub_zero, List.map_take, List.length_map]
  by_cases h : 63 ≤ ns.length
  · rw [Nat.min_eq_left h]
  · rw [Nat.min_eq_right (by omega), List.take_of_length_le (by simp), List.take_of_length_le (by simp; omega)]
theorem ok_l_pen (T : Txt K mg) : Ok_l_pen P w K mg base T := by
  refine def_by T.F_l_pen sc_l_pen (d_l_pen T) fun xs G Q Ex h => ?_
  obtain ⟨ns, rfl, q⟩ := h
  refine ⟨rfl, ?_⟩
  show t_l_pen _ [some (.scr ns)] G
  unfold t_l_pen pDict
  walk_at "pv"
  intro p hp
  unfold pPairs pPairs pPairs pPairs
  walk_at "pv"
  obtain ⟨cs, e, hl⟩ := cut63 ns
  show (gset G p (.dk [])) p = some (.dk []) ∧ _
  rw [e]
  refine ⟨gset_same, show (3 : Nat) ≤ 15 by decide, ?_⟩
  rw [gset_gset]
  exact q p _ hp ⟨cs, 0, 0, rfl, hl, Int.le_refl _, Int.le_refl _, Int.le_refl _⟩
def pen (cs : List Int) (t l : Int) : List (Key × PV) := [(.inr "cells", lI cs), (.inr "at", .int t), (.inr "left", .int l)]
theorem pen_at {cs : List Int} {t l : Int} : valP (pen cs t l) (.inr "at") = some (.int t) := rfl
theorem pen_left {cs : List Int} {t l : Int} : valP (pen cs t l) (.inr "left") = some (.int l) := rfl
theorem pen_cells {cs : List Int} {t l : Int} : valP (pen cs t l) (.inr "cells") = some (lI cs) := rfl
theorem put_at {cs : List Int} {t l x : Int} : putP (pen cs t l) (.inr "at") (.int x) = pen cs x l := rfl
theorem put_left {cs : List Int} {t l x : Int} : putP (pen cs t l) (.inr "left") (.int x) = pen cs t x := rfl
theorem ok_l_draw (T : Txt K mg) : Ok_l_draw P w K mg base T := by
  refine def_by T.F_l_draw sc_l_draw (d_l_draw T) fun xs G Q Ex h => ?_
  obtain ⟨p, m, n, o, rfl, h1, h2, hG, hP, hn, q⟩ := h
  obtain ⟨cs, t, l, rfl, hl, ht0, ht, hl0⟩ := hP
  have hG : G p = some (.dk (pen cs t l)) := hG
  refine ⟨rfl, ?_⟩
  show t_l_draw _ [some (.ref p), some (.int m), none, none, none, none, none] G
  unfold t_l_draw
  refine seq_gen fun K1 k1 => ?_
  walk_at "pv"
  refine rIx_dict hG rfl pen_left ?_
  walk_at "pv"
  refine ite_dec (fun c => ?_) fun c => ?_
  · clear k1
    refine seq_gen fun K2 k2 => ?_
    walk_at "pv"
    refine rIx_dict hG rfl pen_left ?_
    walk_at "pv"
    refine ⟨h1, k2 _ _ ?_⟩
    clear k2
    refine seq_gen fun K2 k2 => ?_
    walk_at "pv"
    refine rIx_dict hG rfl pen_left ?_
    walk_at "pv"
    refine ⟨.inl ⟨h1, by omega⟩, rSet_dict hG rfl (small' (show 3 ≤ 10000000 by decide)) (k2 _ _ ?_)⟩
    walk_at "pv"
    exact q _ _ (Int.emod_nonneg _ (by omega)) (Int.emod_lt_of_pos _ h1) ⟨cs, t, l / m, rfl, hl, ht0, by omega, Int.ediv_nonneg hl0 (by omega)⟩
  · refine k1 _ _ ?_
    clear k1
    refine seq_gen fun K2 k2 => ?_
    walk_at "pv"
    refine rIx_dict hG rfl pen_at (k2 _ _ ?_)
    clear k2
    refine seq_gen fun K2 k2 => ?_
    walk_at "pv"
    refine rSet_dict hG rfl (small' (show 3 ≤ 10000000 by decide)) (k2 _ _ ?_)
    clear k2
    rw [put_at]
    have hG1 : gset G p (.dk (pen cs (t + 1) l)) p = some (.dk (pen cs (t + 1) l)) := gset_same
    generalize hg1 : gset G p (.dk (pen cs (t + 1) l)) = G1 at hG1
    refine seq_gen fun K2 k2 => ?_
    walk_at "pv"
    refine ⟨.inl (.inl (by omega)), k2 _ _ ?_⟩
    clear k2
    refine seq_gen fun K2 k2 => ?_
    have rest : ∀ c : Int, K2 [some (.ref p), some (.int m), some (.int t), some (.int c), none, none, none] G1 := fun cell => by
      refine k2 _ _ ?_
      clear k2
      have e18 : (10 : Int) ^ (18 : Int).toNat = 1000000000000000000 := by decide
      have qq : ∀ r : Int, 0 ≤ r → r < m → ∀ l', 0 ≤ l' → Q (.int r) (gset G1 p (.dk (pen cs (t + 1) l'))) := fun r r0 r1 l' h' => by
        rw [← hg1, gset_gset]
        exact q _ _ r0 r1 ⟨cs, t + 1, l', rfl, hl, by omega, by omega, h'⟩
      have qq' : ∀ r : Int, 0 ≤ r → r < m → Q (.int r) G1 := fun r r0 r1 => by
        have := qq r r0 r1 l hl0
        rw [gset_id hG1] at this
        exact this
      refine seq_gen fun K3 k3 => ?_
      have last : K3 [some (.ref p), some (.int m), some (.int t), some (.int cell), none, none, none] G1 := by
        refine k3 _ _ ?_
        clear k3
        refine seq_gen fun K4 k4 => ?_
        walk_at "pv"
        refine ⟨small (show 7 ≤ 10000000 by decide), by decide, ?_⟩
        have hm7 := Int.emod_lt_of_pos t (show (0 : Int) < 7 by decide)
        have h07 := Int.emod_nonneg t (show (7 : Int) ≠ 0 by decide)
        have pr : ∃ pr : Int, atI [PV.int 2147483647, .int 2147483629, .int 2147483587, .int 2147483579, .int 2147483563, .int 2147483549, .int 2147483543] (t % 7) = some (.int pr) ∧ 0 < pr ∧ pr < 2147483648 := by
          generalize t % 7 = u at hm7 h07
          have : u = 0 ∨ u = 1 ∨ u = 2 ∨ u = 3 ∨ u = 4 ∨ u = 5 ∨ u = 6 := by omega
          rcases this with rfl | rfl | rfl | rfl | rfl | rfl | rfl <;> exact ⟨_, rfl, by decide, by decide⟩
        obtain ⟨pr, epr, pr0, pr1⟩ := pr
        refine rIx_seq (xs := [.int 2147483647, .int 2147483629, .int 2147483587, .int 2147483579, .int 2147483563, .int 2147483549, .int 2147483543]) rfl epr (k4 _ _ ?_)
        clear k4
        refine seq_gen fun K4 k4 => ?_
        walk_at "pv"
        have b1 := Int.emod_lt_of_pos cell (show (0 : Int) < 2147483497 by decide)
        have b2 := Int.emod_nonneg cell (show (2147483497 : Int) ≠ 0 by decide)
        have tt : 75329 * t * t ≤ 75329 * 1000000 * 1000000 := by
          have a1 : 75329 * t ≤ 75329 * 1000000 := by omega
          have a2 : 75329 * t * t ≤ 75329 * 1000000 * t := Int.mul_le_mul_of_nonneg_right a1 ht0
          have a3 : 75329 * 1000000 * t ≤ 75329 * 1000000 * 1000000 := Int.mul_le_mul_of_nonneg_left (by omega) (by decide)
          omega
        have tt0 : 0 ≤ 75329 * t * t := Int.mul_nonneg (by omega) ht0
        generalize htt : 75329 * t * t = T1 at tt tt0
        refine ⟨by decide, .inl (.inl (by omega)), .inl (.inl (by omega)), .inl (.inl (by omega)), ⟨by decide, by decide, by omega⟩, pr0, ?_⟩
        generalize hx : (cell % 2147483497 + T1 + 30011 * t + 271) ^ (3 : Int).toNat % pr = x
        have x0 : 0 ≤ x := by rw [← hx]; exact Int.emod_nonneg _ (by omega)
        have x1 : x < pr := by rw [← hx]; exact Int.emod_lt_of_pos _ pr0
        refine k4 _ _ ?_
        clear k4
        refine seq_gen fun K4 k4 => ?_
        walk_at "pv"
        refine ⟨.inl (.inl (by omega)), ⟨by decide, by decide, by omega⟩, by decide, k4 _ _ ?_⟩
        generalize hy : (x + 11 * t + 5) ^ (2 : Int).toNat % 2147483489 = y
        have y0 : 0 ≤ y := by rw [← hy]; exact Int.emod_nonneg _ (by decide)
        have y1 : y < 2147483489 := by rw [← hy]; exact Int.emod_lt_of_pos _ (by decide)
        walk_at "pv"
        refine ⟨.inl (.inl (by omega)), by decide, .inl ⟨by decide, by decide⟩, h1, qq' _ (Int.emod_nonneg _ (by omega)) (Int.emod_lt_of_pos _ h1)⟩
      walk_at "pv"
      refine rIx_dict hG1 rfl pen_cells (rLen_seq rfl ?_)
      walk_at "pv"
      refine ite_dec (fun c2 => ?_) fun c2 => last
      refine ⟨⟨by decide, by decide, by decide⟩, ?_⟩
      rw [e18]
      refine ite_dec (fun c3 => ?_) fun c3 => last
      have an := abs_nn cell
      generalize habs : (if cell < 0 then -cell else cell) = ab at an c3
      refine seq_gen fun K4 k4 => ?_
      walk_at "pv"
      rw [habs]
      refine ⟨.inl ⟨h1, by omega⟩, rSet_dict hG1 rfl (small' (show 3 ≤ 10000000 by decide)) (k4 _ _ ?_)⟩
      walk_at "pv"
      rw [habs, put_left]
      exact ⟨h1, qq _ (Int.emod_nonneg _ (by omega)) (Int.emod_lt_of_pos _ h1) _ (Int.ediv_nonneg an (by omega))⟩
    walk_at "pv"
    refine rIx_dict hG1 rfl pen_cells (rLen_seq rfl ?_)
    walk_at "pv"
    refine ite_dec (fun c1 => ?_) fun c1 => rest _
    refine rIx_dict hG1 rfl pen_cells (rIx_dict hG1 rfl pen_cells (rLen_seq rfl ?_))
    walk_at "pv"
    refine ⟨c1, ?_⟩
    rw [List.length_map] at c1 ⊢
    exact rIx_seq rfl (atI_map (Int.emod_nonneg _ (by omega)) (Int.emod_lt_of_pos _ c1)) (rest _)
theorem choose_in : ∀ (zs : List Int) (b : Int) (ds : List Int) (n : Nat), (0 ≤ b ∧ b < (n : Int)) → (∀ d ∈ ds, 0 ≤ d ∧ d < (n : Int)) → 0 ≤ chooseGo zs b ds ∧ chooseGo zs b ds < n
  | zs, b, [], n, hb, _ => hb
  | zs, b, d :: r, n, hb, h => by
    unfold chooseGo
    split
    · exact choose_in zs d r n (h d List.mem_cons_self) fun x hx => h x (List.mem_cons_of_mem _ hx)
    · exact choose_in zs b r n hb fun x hx => h x (List.mem_cons_of_mem _ hx)
theorem choose_lt {zs ds : List Int} {n : Nat} (h : InB n ds) : 0 ≤ choose zs ds ∧ choose zs ds < n := by
  obtain ⟨h1, h2⟩ := h
  cases ds with
  | nil => exact absurd rfl h1
  | cons d r => exact choose_in zs d (d :: r) n (h2 d List.mem_cons_self) h2
theorem incAt_len (zs : List Int) (i : Int) : (incAt zs i).length = zs.length := by unfold incAt; rw [List.length_set]
theorem own_ab {G : GH} {a b : Addr} {x y : GO} (ha : G a = none) (hb : gset G a x b = none) : b ≠ a := fun e => by
  subst e
  rw [gset_same] at hb
  cases hb
theorem none_of_set {G : GH} {a b : Addr} {x : GO} (h : gset G a x b = none) : G b = none := by
  unfold gset at h
  split at h
  · cases h
  · exact h
theorem ok_by_draws (T : Txt K mg) (C1 : Ok_chosen P w K mg base T) : Ok_by_draws P w K mg base T := by
  refine def_byD T.F_by_draws sc_by_draws (d_by_draws T C1) fun xs G Q Ex h => ?_
  obtain ⟨zs, dss, rfl, hb, hl, q⟩ := h
  refine ⟨rfl, ?_⟩
  show t_by_draws _ [some (tI zs), some (.lst (dss.map tI)), none, none, none, none] G
  unfold t_by_draws
  refine seq_gen fun K1 k1 => ?_
  walk_at "pv"
  refine rList_of (xs := zs.map .int) rfl fun a ha => k1 _ _ ?_
  clear k1
  refine seq_gen fun K1 k1 => ?_
  walk_at "pv"
  refine ⟨Nat.zero_le _, fun b hb' => k1 _ _ ?_⟩
  clear k1
  have nb := none_of_set hb'
  have nba : b ≠ a := own_ab (y := .lst []) ha hb'
  refine seq_gen fun K1 k1 => ?_
  refine for_gen fun g' tb' hg htb => ?_
  walk_at "pv"
  refine iseq_of rfl (for_l (fun i env G' => ∃ zc bx x4 x5, env = [some (tI zs), some (.lst (dss.map tI)), some (.ref a), some (.ref b), x4, x5] ∧ G' = gset (gset G a (.lst (zc.map .int))) b (.lst (bx.map .int)) ∧ zc.length = zs.length ∧ bx.length = i ∧
    byDraws zs dss = ((byDraws zc (dss.drop i)).1, bx ++ (byDraws zc (dss.drop i)).2)) ⟨zs, [], none, none, rfl, rfl, rfl, rfl, rfl⟩ (fun i x env G' hx hI => ?_) fun env G' hI => ?_)
  · obtain ⟨zc, bx, x4, x5, rfl, rfl, hz, hbl, he⟩ := hI
    rw [List.getElem?_map] at hx
    obtain ⟨ds, hds, rfl⟩ := Option.map_eq_some_iff.mp hx
    have hi := hb ds (List.mem_of_getElem? hds)
    have hdr : dss.drop i = ds :: dss.drop (i + 1) := by
      obtain ⟨hl, hg⟩ := List.getElem?_eq_some_iff.mp hds
      rw [List.drop_eq_getElem_cons hl, hg]
    rw [hdr] at he
    have hc := choose_lt (zs := zc) hi
    have Ga : gset (gset G a (.lst (zc.map .int))) b (.lst (bx.map .int)) a = some (.lst (zc.map .int)) := by rw [gset_ne (Ne.symm nba), gset_same]
    have Gb : ∀ o, gset (gset G a o) b (.lst (bx.map .int)) b = some (.lst (bx.map .int)) := fun o => gset_same
    have il : i < dss.length := (List.getElem?_eq_some_iff.mp hds).1
    subst hg htb
    walk_at "pv"
    refine seq_gen fun K2 k2 => ?_
    walk_at "pv"
    refine ⟨.ref a, zc, ds, rfl, ownL_of Ga, by rw [hz]; exact hi, k2 _ _ ?_⟩
    clear k2
    refine seq_gen fun K2 k2 => ?_
    walk_at "pv"
    refine rIx_seq (ownL_of Ga) (atI_map hc.1 (by rw [hz]; exact hc.2)) ?_
    walk_at "pv"
    refine rSet_lst Ga (ixN_in hc.1 (by rw [List.length_map, hz]; exact hc.2)) (k2 _ _ ?_)
    clear k2
    have eG : gset (gset (gset G a (.lst (zc.map .int))) b (.lst (bx.map .int))) a (.lst ((zc.map .int).set (choose zc ds).toNat (.int (atZ zc (choose zc ds) + 1)))) = gset (gset G a (.lst ((incAt zc (choose zc ds)).map .int))) b (.lst (bx.map .int)) := by
      rw [gset_comm nba, gset_gset]
      unfold incAt
      rw [List.map_set]
    rw [eG]
    walk_at "pv"
    refine pBM_of (tyP_own (Gb _)) List.mem_cons_self ?_
    refine rAppend_of (Gb _) (small' (by rw [List.length_map]; omega)) ?_
    refine ⟨incAt zc (choose zc ds), bx ++ [choose zc ds], _, _, rfl, ?_, by rw [incAt_len, hz], by rw [List.length_append, hbl]; rfl, ?_⟩
    · rw [gset_gset, List.map_append]
      rfl
    · rw [he]
      show ((byDraws (incAt zc (choose zc ds)) (dss.drop (i + 1))).1, bx ++ (choose zc ds :: _)) = _
      rw [List.append_cons]
  · obtain ⟨zc, bx, x4, x5, rfl, rfl, hz, hbl, he⟩ := hI
    rw [List.length_map, List.drop_length] at he
    have e1 : (byDraws zs dss).1 = zc := by rw [he]; rfl
    have e2 : (byDraws zs dss).2 = bx := by rw [he]; exact List.append_nil _
    have Ga : gset (gset G a (.lst (zc.map .int))) b (.lst (bx.map .int)) a = some (.lst (zc.map .int)) := by rw [gset_ne (Ne.symm nba), gset_same]
    refine k1 _ _ ?_
    clear k1
    walk_at "pv"
    refine rTuple_of (ownL_of Ga) ⟨small (show 2 ≤ 10000000 by decide), gset G b (.lst (bx.map .int)), Sub.set (Sub.new ha), ?_⟩
    have := q b nb
    rw [e1, e2] at this
    exact this
theorem tI_pl (zs : List Int) : (tI zs).pl = true := by
  unfold tI
  simp only [PV.pl]
  exact plA_map _ (fun i => by simp only [PV.pl]) zs
theorem ints_pl (zs : List Int) : plA (zs.map .int) = true := plA_map _ (fun i => by simp only [PV.pl]) zs
theorem ints_dep (zs : List Int) : depA (zs.map .int) ≤ 0 := depA_le _ 0 (fun i => by simp only [PV.dep]; omega) zs
theorem tI_dep (zs : List Int) : (tI zs).dep ≤ 1 := by
  unfold tI
  simp only [PV.dep]
  have := ints_dep zs
  omega
theorem chooseGo_mem : ∀ (zs : List Int) (b : Int) (ds : List Int), chooseGo zs b ds = b ∨ chooseGo zs b ds ∈ ds
  | zs, b, [] => .inl rfl
  | zs, b, d :: r => by
    unfold chooseGo
    split
    · rcases chooseGo_mem zs d r with h | h
      · rw [h]; exact .inr List.mem_cons_self
      · exact .inr (List.mem_cons_of_mem _ h)
    · rcases chooseGo_mem zs b r with h | h
      · exact .inl h
      · exact .inr (List.mem_cons_of_mem _ h)
theorem choose_mem {zs ds : List Int} (h : ds ≠ []) : choose zs ds ∈ ds := by
  cases ds with
  | nil => exact absurd rfl h
  | cons d r =>
    rcases chooseGo_mem zs d (d :: r) with h | h
    · rw [show choose zs (d :: r) = d from h]; exact List.mem_cons_self
    · exact h
/-- the first place of the least -/
theorem chooseGo_le : ∀ (zs : List Int) (b : Int) (ds : List Int), atZ zs (chooseGo zs b ds) ≤ atZ zs b ∧ ∀ d ∈ ds, atZ zs (chooseGo zs b ds) ≤ atZ zs d
  | zs, b, [] => ⟨Int.le_refl _, fun d h => (by cases h)⟩
  | zs, b, d :: r => by
    unfold chooseGo
    split
    · rename_i c
      obtain ⟨h1, h2⟩ := chooseGo_le zs d r
      refine ⟨by omega, fun x hx => ?_⟩
      rcases List.mem_cons.mp hx with rfl | hx
      · exact h1
      · exact h2 x hx
    · rename_i c
      obtain ⟨h1, h2⟩ := chooseGo_le zs b r
      refine ⟨h1, fun x hx => ?_⟩
      rcases List.mem_cons.mp hx with rfl | hx
      · omega
      · exact h2 x hx
/-- ahead of its own place all are greater -/
theorem chooseGo_first : ∀ (zs : List Int) (b : Int) (ds : List Int), (∀ d ∈ ds.takeWhile (fun d => !decide (d = chooseGo zs b ds)), atZ zs (chooseGo zs b ds) < atZ zs d) ∨ (chooseGo zs b ds = b ∧ ∀ d ∈ ds, atZ zs b ≤ atZ zs d)
  | zs, b, [] => .inr ⟨rfl, fun d h => (by cases h)⟩
  | zs, b, d :: r => by
    unfold chooseGo
    by_cases c : atZ zs d < atZ zs b
    · rw [if_pos c]
      rcases chooseGo_first zs d r with h | ⟨h1, h2⟩
      · by_cases e : d = chooseGo zs d r
        · refine .inl fun x hx => ?_
          rw [List.takeWhile_cons, ← e] at hx
          simp at hx
        · refine .inl fun x hx => ?_
          rw [List.takeWhile_cons, decide_eq_false e] at hx
          rcases List.mem_cons.mp (by simpa using hx) with rfl | hx
          · have hle := (chooseGo_le zs x r).1
            by_cases ee : atZ zs (chooseGo zs x r) = atZ zs x
            · -- then x itself would have been kept
              exact absurd (keep zs x r ee) (fun z => e z.symm)
            · omega
          · exact h x (by simpa using hx)
      · refine .inl fun x hx => ?_
        rw [List.takeWhile_cons, h1] at hx
        simp at hx
    · rw [if_neg c]
      rcases chooseGo_first zs b r with h | ⟨h1, h2⟩
      · by_cases ek : chooseGo zs b r = b
        · by_cases hall : ∀ x ∈ r, atZ zs b ≤ atZ zs x
          · exact .inr ⟨ek, fun x hx => by
              rcases List.mem_cons.mp hx with rfl | hx
              · omega
              · exact hall x hx⟩
          · exfalso
            apply hall
            intro x hx
            have := (chooseGo_le zs b r).2 x hx
            rw [ek] at this
            exact this
        · have hlt : atZ zs (chooseGo zs b r) < atZ zs b := by
            have hle := (chooseGo_le zs b r).1
            by_cases ee : atZ zs (chooseGo zs b r) = atZ zs b
            · exact absurd (keep zs b r ee) ek
            · omega
          refine .inl fun x hx => ?_
          by_cases e : d = chooseGo zs b r
          · rw [List.takeWhile_cons, decide_eq_true e] at hx
            simp at hx
          · rw [List.takeWhile_cons, decide_eq_false e] at hx
            rcases List.mem_cons.mp (by simpa using hx) with rfl | hx
            · omega
            · exact h x (by simpa using hx)
      · exact .inr ⟨h1, fun x hx => by
          rcases List.mem_cons.mp hx with rfl | hx
          · omega
          · exact h2 x hx⟩
where keep : ∀ (zs : List Int) (b : Int) (ds : List Int), atZ zs (chooseGo zs b ds) = atZ zs b → chooseGo zs b ds = b
  | zs, b, [], _ => rfl
  | zs, b, d :: r, e => by
    unfold chooseGo at e ⊢
    by_cases c : atZ zs d < atZ zs b
    · rw [if_pos c] at e
      have := (chooseGo_le zs d r).1
      omega
    · rw [if_neg c] at e ⊢
      exact keep zs b r e
end K58
end

section
namespace K58
open PySem PL
open L2 (atI ixN atI_nat upd Key)
local macro_rules | `(tactic| walk_at "pv") => `(tactic| first | dsimp only [pVar, pC, pUn, pOp, pNil, pCons, pCB, pTup, pLst, pOwn, pFrz, pDrop, pRet, pRetN, pIf, pSet, pAsg, pgName, pgNil, pgCons, pgTup, pgSub, pTb, pAnd, pOr, pNot, pAndV, pOrV, pNotV, pIfE, pCall, pNext, pISeq, pRng1, pRng2, pSl, pNoPart, pPart, pBM, pFrzT, pYes, wipeE, pgTup, pairP, pZip, pSortedR, pListRg, pRev,
  rAdd_ii, rSub_ii, rMul_ii, rFdiv_ii, rMod_ii, rPow_ii, rLt_ii, rLe_ii, rGt_ii, rGe_ii, rEq_ii, rNe_ii, rEq_ss, rNe_ss, rNeg_i, rAbs_i, rMin_ii, rMax_ii, rInt_i, rInt_b,
  List.getElem?_cons_zero, List.getElem?_cons_succ, List.set_cons_zero, List.set_cons_succ, List.length_cons, List.length_nil] | skip)
variable {P : Program} {w : World} {K : PySem.W.Frag} {mg : Str → Option Value} {base : Heap}
theorem IsPen.mono {n m : Int} {o : GO} (h : IsPen n o) (l : n ≤ m) : IsPen m o := by
  obtain ⟨cs, t, x, e, h1, h2, h3, h4⟩ := h
  exact ⟨cs, t, x, e, h1, h2, by omega, h4⟩
theorem own_ab' {G : GH} {a b : Addr} {x : GO} (ha : G a = some x) (hb : G b = none) : b ≠ a := fun e => by
  subst e
  rw [ha] at hb
  cases hb
theorem ok_l_draws (T : Txt K mg) (C : Ok_l_draw P w K mg base T) : Ok_l_draws P w K mg base T := by
  refine def_by T.F_l_draws sc_l_draws (d_l_draws T C) fun xs G Q Ex h => ?_
  obtain ⟨p, n, M, k, o, rfl, n1, n6, M0, M60, hG, hP, hk, q⟩ := h
  refine ⟨rfl, ?_⟩
  show t_l_draws _ [some (.ref p), some (.int n), some (.int M), none, none, none, none, none, none, none] G
  unfold t_l_draws
  refine seq_gen fun K1 k1 => ?_
  walk_at "pv"
  refine ⟨p, 5, k, o, rfl, by decide, by decide, hG, hP, by omega, fun way o1 w0 w5 hP1 => k1 _ _ ?_⟩
  clear k1
  refine seq_gen fun K1 k1 => ?_
  walk_at "pv"
  refine ⟨p, 4, k + 1, o1, rfl, by decide, by decide, gset_same, hP1, by omega, fun size o2 s0 s4 hP2 => k1 _ _ ?_⟩
  clear k1
  rw [gset_gset]
  refine seq_gen fun K1 k1 => ?_
  walk_at "pv"
  refine ⟨p, M + 1, k + 2, o2, rfl, by omega, by omega, gset_same, by rw [show k + 2 = k + 1 + 1 by omega]; exact hP2, by omega, fun many o3 m0 m61 hP3 => ?_⟩
  rw [gset_gset]
  refine ⟨small (show 5 ≤ 10000000 by decide), ?_⟩
  obtain ⟨mm, em, mm0, mm60⟩ : ∃ mm : Int, atI [PV.int 0, .int 1, .int 2, .int M, .int many] way = some (.int mm) ∧ 0 ≤ mm ∧ mm ≤ max M 2 := by
    have : way = 0 ∨ way = 1 ∨ way = 2 ∨ way = 3 ∨ way = 4 := by omega
    rcases this with rfl | rfl | rfl | rfl | rfl
    · exact ⟨0, rfl, by decide, by omega⟩
    · exact ⟨1, rfl, by decide, by omega⟩
    · exact ⟨2, rfl, by decide, by omega⟩
    · exact ⟨M, rfl, by omega, by omega⟩
    · exact ⟨many, rfl, m0, by omega⟩
  refine rIx_seq (xs := [.int 0, .int 1, .int 2, .int M, .int many]) rfl em (k1 _ _ ?_)
  clear k1
  refine seq_gen fun K1 k1 => ?_
  walk_at "pv"
  refine ⟨Nat.zero_le _, fun b hb => k1 _ _ ?_⟩
  clear k1
  have nb := none_of_set hb
  have bp : b ≠ p := own_ab' hG nb
  refine seq_gen fun K1 k1 => ?_
  refine for_gen fun g' tb' hg htb => ?_
  walk_at "pv"
  refine ⟨by omega, by omega, ?_⟩
  refine for_r (fun i env G' => ∃ (dss : List (List Int)) (o' : GO) (x7 x8 x9 : Option PV), env = [some (.ref p), some (.int n), some (.int M), some (.int way), some (.int size), some (.int mm), some (.ref b), x7, x8, x9] ∧ G' = gset (gset G p o') b (.lst (dss.map tI)) ∧ dss.length = i ∧ AllB n.toNat dss ∧ (∀ ds ∈ dss, ds.length ≤ 3) ∧ IsPen (k + 3 + 4 * i) o') ⟨[], o3, none, none, none, rfl, rfl, rfl, fun _ h => (by cases h), fun _ h => (by cases h), ?_⟩ (fun i env G' hi hI => ?_) fun env G' hI => ?_
  · rw [show k + 3 + 4 * ((0 : Nat) : Int) = k + 2 + 1 by omega]
    exact hP3
  · obtain ⟨dss, o', x7, x8, x9, rfl, rfl, hl, ha, h3, hP'⟩ := hI
    subst hg htb
    walk_at "pv"
    have Gp : gset (gset G p o') b (.lst (dss.map tI)) p = some o' := by rw [gset_ne (Ne.symm bp), gset_same]
    refine seq_gen fun K2 k2 => ?_
    unfold pSet
    refine lc_gen fun g' tt' te' P' hg htt hte hP => ?_
    walk_at "pv"
    refine ⟨p, 3, _, o', rfl, by decide, by decide, Gp, hP', by omega, fun r oa r0 r3 hPa => ?_⟩
    refine ⟨by omega, by omega, fun D hD => ?_⟩
    have Gp2 : gset (gset (gset G p o') b (.lst (dss.map tI))) p oa p = some oa := gset_same
    refine lc_stF (1 + r).toNat (fun i => .int (0 + (i : Nat))) (fun j o => IsPen (k + 3 + 4 * i + 1 + j) o) (fun _ y => ∃ z : Int, y = .int z ∧ 0 ≤ z ∧ z < n) hD Gp2 (by simpa using hPa) (small' (by omega)) (fun i G hi => itR_item hi) (fun G => Nat.le_refl _) (fun j G2 ob Ky Kn hj hG2 hS hoth hky => ?_) (fun ys ob hyl hyR hS => ?_)
    · subst hg htt hte
      unfold lcTurn
      walk_at "pv"
      refine ⟨p, n, k + 3 + 4 * i + 1 + j, ob, rfl, by omega, by omega, hG2, hS, by omega, fun r oc r0 r1 hP3 => hky _ _ ⟨r, rfl, r0, by omega⟩ ?_⟩
      exact hP3.mono (by omega)
    · subst hP
      refine k2 _ _ ?_
      clear k2
      rw [gset_gset]
      obtain ⟨ds, rfl⟩ : ∃ zs : List Int, ys = zs.map .int := ints_of fun y hy => by
        obtain ⟨i, hi⟩ := List.getElem?_of_mem hy
        obtain ⟨z, e, _⟩ := hyR i y hi
        exact ⟨z, e⟩
      have hzR : ∀ z ∈ ds, 0 ≤ z ∧ z < n := fun z hz => by
        obtain ⟨i, hi⟩ := List.getElem?_of_mem hz
        obtain ⟨z', e, h⟩ := hyR i (.int z) (by rw [List.getElem?_map, hi]; rfl)
        cases e
        exact h
      rw [List.length_map] at hyl
      have Gb : gset (gset (gset G p o') b (.lst (dss.map tI))) p ob b = some (.lst (dss.map tI)) := by rw [gset_ne bp, gset_same]
      refine seq_gen fun K3 k3 => ?_
      have fin : ∀ es : List Int, es ≠ [] → es.length ≤ 3 → (∀ z ∈ es, 0 ≤ z ∧ z < n) → ∀ x9', K3 [some (.ref p), some (.int n), some (.int M), some (.int way), some (.int size), some (.int mm), some (.ref b), some (.int (0 + (i : Nat))), some (.lst (es.map .int)), x9'] (gset (gset (gset G p o') b (.lst (dss.map tI))) p ob) := fun es e1 e2 e3 x9' => by
        refine k3 _ _ ?_
        clear k3
        walk_at "pv"
        refine pBM_of (tyP_own Gb) List.mem_cons_self ?_
        refine rTuple_of rfl ?_
        refine rAppend_of Gb (small' (by rw [List.length_map]; omega)) ?_
        refine ⟨dss ++ [es], ob, _, _, _, rfl, ?_, by rw [List.length_append, hl]; rfl, ?_, ?_, ?_⟩
        · rw [gset_4 bp, List.map_append]
          rfl
        · intro ds' hd
          rcases List.mem_append.mp hd with h | h
          · exact ha _ h
          · rw [List.mem_singleton.mp h]
            exact ⟨e1, fun d hd => ⟨(e3 d hd).1, by have := (e3 d hd).2; omega⟩⟩
        · intro ds' hd
          rcases List.mem_append.mp hd with h | h
          · exact h3 _ h
          · rw [List.mem_singleton.mp h]
            exact e2
        · refine hS.mono ?_
          omega
      walk_at "pv"
      refine ite_dec (fun c => ?_) fun c => fin ds (fun e => by rw [e] at hyl; simp at hyl; omega) (by omega) hzR _
      refine ⟨by decide, by decide, small ?_, ?_⟩
      · rw [List.length_map]
        show ds.length * 3 ≤ _
        omega
      have e : (List.replicate (3 : Int).toNat (ds.map PV.int)).flatten = (ds ++ ds ++ ds).map .int := by
        show ((ds.map PV.int) ++ ((ds.map PV.int) ++ ((ds.map PV.int) ++ []))) = _
        simp
      rw [e]
      refine rSl_lst ?_
      rw [cutP_take_i (by omega), ← List.map_take]
      refine fin _ (fun e => ?_) (by rw [List.length_take]; omega) (fun z hz => ?_) _
      · have : ((ds ++ ds ++ ds).take (size + 1).toNat).length = 0 := by rw [e]; rfl
        rw [List.length_take, List.length_append, List.length_append] at this
        omega
      · have := List.mem_of_mem_take hz
        rcases List.mem_append.mp this with h | h
        · rcases List.mem_append.mp h with h | h
          · exact hzR z h
          · exact hzR z h
        · exact hzR z h
  · obtain ⟨dss, o', x7, x8, x9, rfl, rfl, hl, ha, h3, hP'⟩ := hI
    refine k1 _ _ ?_
    walk_at "pv"
    refine rFrz_of gset_same ?_
    rw [gdel_gset (by rw [gset_ne bp]; exact nb)]
    exact q dss o' (by omega) ha h3 (hP'.mono (by omega))
theorem byDraws_app : ∀ (a b : List (List Int)) (zs : List Int), byDraws zs (a ++ b) = ((byDraws (byDraws zs a).1 b).1, (byDraws zs a).2 ++ (byDraws (byDraws zs a).1 b).2)
  | [], b, zs => rfl
  | d :: a, b, zs => by
    show ((byDraws _ (a ++ b)).1, _ :: (byDraws _ (a ++ b)).2) = _
    rw [byDraws_app a b]
    rfl
theorem byDraws_len : ∀ (a : List (List Int)) (zs : List Int), (byDraws zs a).2.length = a.length ∧ (byDraws zs a).1.length = zs.length
  | [], zs => ⟨rfl, rfl⟩
  | d :: a, zs => by
    obtain ⟨h1, h2⟩ := byDraws_len a (incAt zs (choose zs d))
    exact ⟨congrArg (· + 1) h1, by show (byDraws _ a).1.length = _; rw [h2, incAt_len]⟩
end K58
end

section
namespace K58
open PySem PL
open L2 (atI ixN atI_nat upd Key)
local macro_rules | `(tactic| walk_at "pv") => `(tactic| first | dsimp only [pVar, pC, pUn, pOp, pNil, pCons, pCB, pTup, pLst, pOwn, pFrz, pDrop, pRet, pRetN, pIf, pSet, pAsg, pgName, pgNil, pgCons, pgTup, pgSub, pTb, pAnd, pOr, pNot, pAndV, pOrV, pNotV, pIfE, pCall, pNext, pISeq, pRng1, pRng2, pSl, pNoPart, pPart, pBM, pFrzT, pYes, wipeE, pgTup, pairP, pZip, pSortedR, pListRg, pRev,
  rAdd_ii, rSub_ii, rMul_ii, rFdiv_ii, rMod_ii, rPow_ii, rLt_ii, rLe_ii, rGt_ii, rGe_ii, rEq_ii, rNe_ii, rEq_ss, rNe_ss, rNeg_i, rAbs_i, rMin_ii, rMax_ii, rInt_i, rInt_b,
  List.getElem?_cons_zero, List.getElem?_cons_succ, List.set_cons_zero, List.set_cons_succ, List.length_cons, List.length_nil] | skip)
variable {P : Program} {w : World} {K : PySem.W.Frag} {mg : Str → Option Value} {base : Heap}
theorem find_val : ∀ (l : List (Int × Int)) (z : Int), valP (lyP l) (.inl z) = (Rm.find ⟨0, l, 0, []⟩ z).map .int
  | [], z => rfl
  | p :: l, z => by
    have ih := find_val l z
    unfold valP Rm.find lyP at ih ⊢
    rw [List.map_cons, List.find?_cons, List.find?_cons]
    by_cases e : p.1 = z
    · subst e
      simp
    · have e2 : ¬ ((Sum.inl p.1 : Key) = .inl z) := fun q => e (by injection q)
      rw [decide_eq_false e2, decide_eq_false e]
      exact ih
theorem drop_val : ∀ (l : List (Int × Int)) (z : Int), dropP (lyP l) (.inl z) = lyP (dropZ l z)
  | [], z => rfl
  | p :: l, z => by
    have ih := drop_val l z
    unfold dropP lyP dropZ at ih ⊢
    rw [List.map_cons, List.filter_cons, List.filter_cons]
    by_cases e : p.1 = z
    · subst e
      rw [if_neg (by simp), if_neg (by simp)]
      exact ih
    · have e2 : ¬ ((Sum.inl p.1 : Key) = .inl z) := fun q => e (by injection q)
      rw [if_pos (by simpa using e2), if_pos (by simpa using e), List.map_cons, ih]
theorem put_val (l : List (Int × Int)) (z x : Int) (h : ∀ p ∈ l, p.1 ≠ z) : putP (lyP l) (.inl z) (.int x) = lyP (l ++ [(z, x)]) := by
  unfold putP
  have e : ((lyP l).any fun kv => decide (kv.1 = (Sum.inl z : Key))) = false := by
    rw [List.any_eq_false]
    intro q hq
    unfold lyP at hq
    obtain ⟨p, hp, rfl⟩ := List.mem_map.mp hq
    have := h p hp
    simpa using this
  rw [e]
  unfold lyP
  rw [List.map_append]
  rfl
theorem find_at : ∀ {l : List (Int × Int)} {i : Nat} {p : Int × Int}, (l.map (·.1)).Nodup → l[i]? = some p → Rm.find ⟨0, l, 0, []⟩ p.1 = some p.2
  | [], i, p, _, e => by simp at e
  | x :: l, 0, p, _, e => by
    cases e
    unfold Rm.find
    rw [List.find?_cons, decide_eq_true rfl]
    rfl
  | x :: l, i + 1, p, h, e => by
    have e' : l[i]? = some p := by simpa using e
    rw [List.map_cons, List.nodup_cons] at h
    have ne : ¬ x.1 = p.1 := fun z => h.1 (by rw [z]; exact List.mem_map_of_mem (List.mem_of_getElem? e'))
    have ih := find_at h.2 e'
    unfold Rm.find at ih ⊢
    rw [List.find?_cons, decide_eq_false ne]
    exact ih
theorem ok_is_whole (T : Txt K mg) : Ok_is_whole P w K mg base T := by
  refine def_by T.F_is_whole sc_is_whole (d_is_whole T) fun xs G Q Ex h => ?_
  obtain ⟨x, t, rfl, ht, q⟩ := h
  refine ⟨rfl, ?_⟩
  show t_is_whole _ [some x] G
  unfold t_is_whole
  walk_at "pv"
  obtain ⟨m1, m2⟩ := isI_whole t (tyP_mem ht)
  refine rIsi_of ht (by decide) ?_
  refine ite_of (fun c => rIsi_of ht (by decide) ?_) fun c => ?_
  · show Q (.bl (!isI t "bool")) G
    rw [m1 c]
    exact q
  · rw [m2 c] at q
    exact q
theorem ok_sorted_load (T : Txt K mg) : Ok_sorted_load P w K mg base T := by
  refine def_by T.F_sorted_load sc_sorted_load (d_sorted_load T) fun xs G Q Ex h => ?_
  obtain ⟨zs, rfl, q⟩ := h
  refine ⟨rfl, ?_⟩
  show t_sorted_load _ [some (tI zs)] G
  unfold t_sorted_load
  walk_at "pv"
  refine rSortedR_of (ns := zs) rfl ?_
  exact rTuple_of rfl q
theorem frm_refl (G : GH) (r a b : Addr) : Frm G G r a b := fun _ _ _ _ => rfl
theorem Frm.trans {G G1 G2 : GH} {r a b : Addr} (h : Frm G G1 r a b) (h' : Frm G1 G2 r a b) : Frm G G2 r a b := fun x h1 h2 h3 => (h' x h1 h2 h3).trans (h x h1 h2 h3)
theorem ok_Room___init__ (T : Txt K mg) : Ok_Room___init__ P w K mg base T := by
  refine def_by T.F_Room___init__ sc_Room___init__ (d_Room___init__ T) fun xs G Q Ex h => ?_
  obtain ⟨r, n, rfl, hr, q⟩ := h
  refine ⟨rfl, ?_⟩
  show t_Room___init__ T.c_Room _ [some (.ref r), some (.int n)] G
  unfold t_Room___init__
  refine seq_gen fun K1 k1 => ?_
  refine setF_var rfl ?_
  walk_at "pv"
  refine ⟨_, hr, by show 0 < 1000; decide, k1 _ _ ?_⟩
  clear k1
  have h1 : gset G r (.ins T.c_Room (putS "many" (.int n) [])) r = some (.ins T.c_Room (putS "many" (.int n) [])) := gset_same
  refine seq_gen fun K1 k1 => ?_
  refine setF_var rfl ?_
  intro a ha
  have ha0 := none_of_set ha
  have nar : a ≠ r := own_ab' hr ha0
  refine ⟨_, by rw [gset_ne (Ne.symm nar)]; exact h1, by have := putS_len "many" (.int n) []; simp only [List.length_nil] at this; omega, k1 _ _ ?_⟩
  clear k1
  refine seq_gen fun K1 k1 => ?_
  refine setF_var rfl ?_
  walk_at "pv"
  refine ⟨_, gset_same, by have := putS_len "many" (.int n) []; have := putS_len "lying" (.ref a) (putS "many" (.int n) []); simp only [List.length_nil] at *; omega, k1 _ _ ?_⟩
  clear k1
  refine setF_var rfl ?_
  walk_at "pv"
  refine ⟨Nat.zero_le _, fun b hb => ?_⟩
  have nbr : b ≠ r := fun e => by subst e; rw [gset_same] at hb; cases hb
  have nba : b ≠ a := fun e => by subst e; rw [gset_ne nbr, gset_ne nbr, gset_same] at hb; cases hb
  have hb0 : G b = none := by rwa [gset_ne nbr, gset_ne nbr, gset_ne nba, gset_ne nbr] at hb
  refine ⟨_, by rw [gset_ne (Ne.symm nbr), gset_same], by have := putS_len "many" (.int n) []; have := putS_len "lying" (.ref a) (putS "many" (.int n) []); have := putS_len "known" (.int 0) (putS "lying" (.ref a) (putS "many" (.int n) [])); simp only [List.length_nil] at *; omega, ?_⟩
  refine q a b _ ha0 hb0 (Ne.symm nba) ⟨by rw [gset_same]; rfl, ?_, ?_⟩ fun x x1 x2 x3 => ?_
  · rw [gset_ne nar, gset_ne (Ne.symm nba), gset_ne nar, gset_ne nar, gset_same]
    rfl
  · rw [gset_ne nbr, gset_same]
    rfl
  · rw [gset_ne x1, gset_ne x3, gset_ne x1, gset_ne x1, gset_ne x2, gset_ne x1]
theorem RoomAt.rb {C : Addr} {G : GH} {r a b : Addr} {S : Rm} (h : RoomAt C G r a b S) : a ≠ r ∧ b ≠ r ∧ a ≠ b := by
  obtain ⟨h1, h2, h3⟩ := h
  refine ⟨fun e => ?_, fun e => ?_, fun e => ?_⟩
  · subst e; rw [h1] at h2; cases h2
  · subst e; rw [h1] at h3; cases h3
  · subst e; rw [h2] at h3; cases h3
theorem standOf_len (n : Nat) (l : List (Int × Int)) : (standOf n l).length = n := by
  unfold standOf
  have : ∀ (l : List (Int × Int)) (c : List Int), (l.foldl (fun c p => incAt c p.2) c).length = c.length
    := fun l => by
      induction l with
      | nil => exact fun _ => rfl
      | cons p l ih => exact fun c => by rw [List.foldl_cons, ih, incAt_len]
  rw [this, List.length_replicate]
theorem standOf_snoc (n : Nat) (l : List (Int × Int)) (p : Int × Int) : standOf n (l ++ [p]) = incAt (standOf n l) p.2 := by
  unfold standOf
  rw [List.foldl_append]
  rfl
theorem ok_Room_stand (T : Txt K mg) : Ok_Room_stand P w K mg base T := by
  refine def_byD T.F_Room_stand sc_Room_stand (d_Room_stand T) fun xs G Q Ex h => ?_
  obtain ⟨r, a, b, S, rfl, hR, hOk, q⟩ := h
  have hn := hOk.2.2
  obtain ⟨nar, nbr, nab⟩ := hR.rb
  obtain ⟨hr, ha, hb⟩ := hR
  refine ⟨rfl, ?_⟩
  show t_Room_stand T.c_Room _ [some (.ref r), none, none, none] G
  unfold t_Room_stand
  refine seq_gen fun K1 k1 => ?_
  unfold pSet
  refine lc_gen fun g' tt' te' P' hg htt hte hP => ?_
  walk_at "pv"
  refine fld_var rfl hr rfl ?_
  walk_at "pv"
  refine ⟨by omega, by omega, fun c hc => ?_⟩
  refine lc_rngT (fun _ => .int 0) hc (small' (by omega)) (fun i hi G2 Ky Kn hsub h1 => ?_) ?_
  · subst hg htt hte
    unfold lcTurn
    walk_at "pv"
    exact h1
  subst hP
  refine k1 _ _ ?_
  clear k1
  rw [Int.toNat_natCast]
  have e0 : (List.range S.n).map (fun _ => PV.int 0) = (List.replicate S.n (0 : Int)).map .int := by rw [List.map_const', List.length_range, List.map_replicate]
  rw [e0]
  have nca : a ≠ c := gne ha hc
  have ncr : r ≠ c := gne hr hc
  refine seq_gen fun K1 k1 => ?_
  refine ⟨a, lyP S.ly, by rw [gset_ne nca]; exact ha, fun od vs => ?_⟩
  refine for_gen fun g' tb' hg htb => ?_
  unfold pKeys
  refine fld_var rfl (by rw [gset_ne (Ne.symm nar), gset_ne ncr]; exact hr) rfl ?_
  dsimp only
  rw [gset_same]
  refine for_j (n := S.ly.length) (fun i env G' => ∃ x2 x3, env = [some (.ref r), some (.ref c), x2, x3] ∧ G' = gset (gset G c (.lst ((standOf S.n (S.ly.take i)).map .int))) a (.fdk od vs (lyP S.ly))) ⟨none, none, rfl, rfl⟩ (fun i env G' hi hI => ?_) fun env G' hI => ?_
  · obtain ⟨x2, x3, rfl, rfl⟩ := hI
    have hel : S.ly[i]? = some S.ly[i] := List.getElem?_eq_getElem hi
    obtain ⟨o1, o2, o3⟩ := hOk.1 _ (List.getElem_mem hi)
    have htk : S.ly.take (i + 1) = S.ly.take i ++ [S.ly[i]] := by rw [List.take_add_one, hel]; rfl
    have hfi : Rm.find ⟨0, S.ly, 0, []⟩ S.ly[i].1 = some S.ly[i].2 := find_at hOk.2.1 hel
    have hva : valP (lyP S.ly) (.inl S.ly[i].1) = some (.int S.ly[i].2) := by rw [find_val, hfi]; rfl
    generalize S.ly[i] = p at hel o1 o2 o3 htk hfi hva
    refine ⟨.int p.1, ⟨gset_same, .inl p.1, .int p.2, by unfold lyP; rw [List.getElem?_map, hel]; rfl, rfl⟩, ?_⟩
    subst hg htb
    walk_at "pv"
    have hr2 : gset (gset G c (.lst ((standOf S.n (S.ly.take i)).map .int))) a (.fdk od vs (lyP S.ly)) r = some (.ins T.c_Room [("many", .int S.n), ("lying", .ref a), ("known", .int S.kn), ("past", .ref b)]) := by rw [gset_ne (Ne.symm nar), gset_ne ncr]; exact hr
    have hc2 : gset (gset G c (.lst ((standOf S.n (S.ly.take i)).map .int))) a (.fdk od vs (lyP S.ly)) c = some (.lst ((standOf S.n (S.ly.take i)).map .int)) := by rw [gset_ne (Ne.symm nca), gset_same]
    have hl := standOf_len S.n (S.ly.take i)
    refine fld_var rfl hr2 rfl ?_
    walk_at "pv"
    refine rIx_fdk gset_same rfl hva ?_
    refine rIx_seq (ownL_of hc2) (atI_map o2 (by rw [hl]; exact o3)) ?_
    walk_at "pv"
    refine fld_var rfl hr2 rfl ?_
    walk_at "pv"
    refine rIx_fdk gset_same rfl hva ?_
    refine rSet_lst hc2 (ixN_in o2 (by rw [List.length_map, hl]; exact o3)) ?_
    refine ⟨_, _, rfl, ?_⟩
    rw [htk, standOf_snoc]
    unfold incAt
    rw [List.map_set, gset_3 nca]
  · obtain ⟨x2, x3, rfl, rfl⟩ := hI
    refine ⟨⟨gset_same, by unfold lyP; rw [List.length_map]; exact Nat.le_refl _⟩, gset_same, k1 _ _ ?_⟩
    rw [gset_gset, List.take_length, gset_id (by rw [gset_ne nca]; exact ha)]
    walk_at "pv"
    refine rTuple_of (ownL_of gset_same) ?_
    exact ⟨G, Sub.new hc, q⟩
end K58
end

section
namespace K58
open PySem PL
open L2 (atI ixN atI_nat upd Key)
local macro_rules | `(tactic| walk_at "pv") => `(tactic| first | dsimp only [pVar, pC, pUn, pOp, pNil, pCons, pCB, pTup, pLst, pOwn, pFrz, pDrop, pRet, pRetN, pIf, pSet, pAsg, pgName, pgNil, pgCons, pgTup, pgSub, pTb, pAnd, pOr, pNot, pAndV, pOrV, pNotV, pIfE, pCall, pNext, pISeq, pRng1, pRng2, pSl, pNoPart, pPart, pBM, pFrzT, pYes, wipeE, pgTup, pairP, pZip, pSortedR, pListRg, pRev,
  rAdd_ii, rSub_ii, rMul_ii, rFdiv_ii, rMod_ii, rPow_ii, rLt_ii, rLe_ii, rGt_ii, rGe_ii, rEq_ii, rNe_ii, rEq_ss, rNe_ss, rNeg_i, rAbs_i, rMin_ii, rMax_ii, rInt_i, rInt_b,
  List.getElem?_cons_zero, List.getElem?_cons_succ, List.set_cons_zero, List.set_cons_succ, List.length_cons, List.length_nil] | skip)
variable {P : Program} {w : World} {K : PySem.W.Frag} {mg : Str → Option Value} {base : Heap}
theorem RoomAt.set {C : Addr} {G : GH} {r a b : Addr} {S : Rm} (h : RoomAt C G r a b S) (n : Nat) (ly : List (Int × Int)) (kn : Int) (pa : List (Bool × Int × Int)) :
    RoomAt C (gset (gset (gset G r (.ins C [("many", .int n), ("lying", .ref a), ("known", .int kn), ("past", .ref b)])) a (.dk (lyP ly))) b (.lst (paP pa))) r a b ⟨n, ly, kn, pa⟩ := by
  obtain ⟨nar, nbr, nab⟩ := h.rb
  exact ⟨by rw [gset_ne (Ne.symm nbr), gset_ne (Ne.symm nar), gset_same], by rw [gset_ne nab, gset_same], gset_same⟩
theorem Frm.set {G : GH} {r a b : Addr} {o1 o2 o3 : GO} : Frm G (gset (gset (gset G r o1) a o2) b o3) r a b := fun x h1 h2 h3 => by rw [gset_ne h3, gset_ne h2, gset_ne h1]
theorem ok_Room_put (T : Txt K mg) (C1 : Ok_chosen P w K mg base T) (C2 : Ok_Room_stand P w K mg base T) : Ok_Room_put P w K mg base T := by
  refine def_by T.F_Room_put sc_Room_put (d_Room_put T C1 C2) fun xs G Q Ex h => ?_
  obtain ⟨r, a, b, S, ds, rfl, hR, hOk, hlt, hpa, hB, q⟩ := h
  obtain ⟨nar, nbr, nab⟩ := hR.rb
  obtain ⟨hr, ha, hb⟩ := id hR
  refine ⟨rfl, ?_⟩
  show t_Room_put T.c_Room _ [some (.ref r), some (tI ds), none, none] G
  unfold t_Room_put
  refine seq_gen fun K1 k1 => ?_
  walk_at "pv"
  refine fld_var rfl hr rfl ?_
  refine rLen_dict ha ?_
  walk_at "pv"
  refine ite_dec (fun c => ?_) fun _ => k1 _ _ ?_
  · unfold lyP at c
    rw [List.length_map] at c
    omega
  clear k1
  refine seq_gen fun K1 k1 => ?_
  walk_at "pv"
  refine meth_var rfl hr rfl ?_
  walk_at "pv"
  refine ⟨r, a, b, S, rfl, hR, hOk, ?_⟩
  refine ⟨tI S.stand, S.stand, ds, rfl, rfl, by unfold Rm.stand; rw [standOf_len]; exact hB, k1 _ _ ?_⟩
  clear k1
  generalize hx : choose S.stand ds = x at q
  refine seq_gen fun K1 k1 => ?_
  walk_at "pv"
  refine fld_var rfl hr rfl (k1 _ _ ?_)
  clear k1
  refine seq_gen fun K1 k1 => ?_
  refine setF_var rfl ?_
  walk_at "pv"
  refine ⟨_, hr, by show 4 < 1000; decide, k1 _ _ ?_⟩
  clear k1
  have hr1 : gset G r (.ins T.c_Room [("many", .int S.n), ("lying", .ref a), ("known", .int (S.kn + 1)), ("past", .ref b)]) r = some (.ins T.c_Room [("many", .int S.n), ("lying", .ref a), ("known", .int (S.kn + 1)), ("past", .ref b)]) := gset_same
  refine seq_gen fun K1 k1 => ?_
  walk_at "pv"
  refine fld_var rfl hr1 rfl ?_
  refine rSet_dict (k := .inl S.kn) (by rw [gset_ne nar]; exact ha) rfl (small' (by unfold lyP; rw [List.length_map]; omega)) (k1 _ _ ?_)
  clear k1
  rw [put_val S.ly S.kn x fun p hp => by have := (hOk.1 p hp).1; omega]
  refine seq_gen fun K1 k1 => ?_
  walk_at "pv"
  refine fld_var rfl (by rw [gset_ne (Ne.symm nar)]; exact hr1) rfl ?_
  have hb1 : gset (gset G r (.ins T.c_Room [("many", .int S.n), ("lying", .ref a), ("known", .int (S.kn + 1)), ("past", .ref b)])) a (.dk (lyP (S.ly ++ [(S.kn, x)]))) b = some (.lst (paP S.pa)) := by rw [gset_ne (Ne.symm nab), gset_ne nbr]; exact hb
  refine pBM_of (tyP_own hb1) List.mem_cons_self ?_
  refine ⟨small (show 3 ≤ 10000000 by decide), ?_⟩
  refine rAppend_of hb1 (small' (by unfold paP; rw [List.length_map]; omega)) (k1 _ _ ?_)
  clear k1
  walk_at "pv"
  refine ⟨small (show 2 ≤ 10000000 by decide), ?_⟩
  have e : paP S.pa ++ [PV.tup [.bl true, .int S.kn, .int x]] = paP (S.pa ++ [(true, S.kn, x)]) := by unfold paP; rw [List.map_append]; rfl
  rw [e]
  have hq := q _ (by unfold Rm.put; rw [hx]; exact hR.set S.n (S.ly ++ [(S.kn, x)]) (S.kn + 1) (S.pa ++ [(true, S.kn, x)])) Frm.set
  exact hq
theorem ok_Room_where (T : Txt K mg) (C1 : Ok_is_whole P w K mg base T) : Ok_Room_where P w K mg base T := by
  refine def_by T.F_Room_where sc_Room_where (d_Room_where T C1) fun xs G Q Ex h => ?_
  obtain ⟨r, a, b, S, z, x, rfl, hR, hf, q⟩ := h
  obtain ⟨hr, ha, hb⟩ := id hR
  have hv : valP (lyP S.ly) (.inl z) = some (.int x) := by rw [find_val, show Rm.find ⟨0, S.ly, 0, []⟩ z = some x from hf]; rfl
  refine ⟨rfl, ?_⟩
  show t_Room_where T.c_Room _ [some (.ref r), some (.int z)] G
  unfold t_Room_where
  refine seq_gen fun K1 k1 => ?_
  walk_at "pv"
  refine ⟨.int z, "int", rfl, rfl, ?_⟩
  walk_at "pv"
  refine ite_f (by decide) ?_
  refine fld_var rfl hr rfl ?_
  refine rMem_dict ha (k := .inl z) rfl ?_
  rw [hv]
  walk_at "pv"
  refine ite_f rfl (k1 _ _ ?_)
  walk_at "pv"
  refine fld_var rfl hr rfl ?_
  exact rIx_dict ha rfl hv q
theorem Rm.find_eta (S : Rm) (z : Int) : Rm.find ⟨0, S.ly, 0, []⟩ z = S.find z := rfl
theorem ok_Room_leave (T : Txt K mg) (C1 : Ok_Room_where P w K mg base T) : Ok_Room_leave P w K mg base T := by
  refine def_by T.F_Room_leave sc_Room_leave (d_Room_leave T C1) fun xs G Q Ex h => ?_
  obtain ⟨r, a, b, S, z, x, rfl, hR, hpa, hf, q⟩ := h
  obtain ⟨nar, nbr, nab⟩ := hR.rb
  obtain ⟨hr, ha, hb⟩ := id hR
  have hv : valP (lyP S.ly) (.inl z) = some (.int x) := by rw [find_val, show Rm.find ⟨0, S.ly, 0, []⟩ z = some x from hf]; rfl
  refine ⟨rfl, ?_⟩
  show t_Room_leave T.c_Room _ [some (.ref r), some (.int z), none] G
  unfold t_Room_leave
  refine seq_gen fun K1 k1 => ?_
  walk_at "pv"
  refine meth_var rfl hr rfl ?_
  walk_at "pv"
  refine ⟨r, a, b, S, z, x, rfl, hR, hf, k1 _ _ ?_⟩
  clear k1
  refine seq_gen fun K1 k1 => ?_
  walk_at "pv"
  refine fld_var rfl hr rfl ?_
  refine pBM_of (tyP_dk ha) (List.mem_cons_of_mem _ List.mem_cons_self) ?_
  refine rPop1_d (popD_of ha rfl hv (k1 _ _ ?_))
  clear k1
  rw [drop_val]
  refine seq_gen fun K1 k1 => ?_
  walk_at "pv"
  refine fld_var rfl (by rw [gset_ne (Ne.symm nar)]; exact hr) rfl ?_
  have hb1 : gset G a (.dk (lyP (dropZ S.ly z))) b = some (.lst (paP S.pa)) := by rw [gset_ne (Ne.symm nab)]; exact hb
  refine pBM_of (tyP_own hb1) List.mem_cons_self ?_
  refine ⟨small (show 3 ≤ 10000000 by decide), ?_⟩
  refine rAppend_of hb1 (small' (by unfold paP; rw [List.length_map]; omega)) (k1 _ _ ?_)
  clear k1
  walk_at "pv"
  have e : paP S.pa ++ [PV.tup [.bl false, .int z, .int x]] = paP (S.pa ++ [(false, z, x)]) := by unfold paP; rw [List.map_append]; rfl
  rw [e]
  have h1 := hR.set S.n (dropZ S.ly z) S.kn (S.pa ++ [(false, z, x)])
  rw [gset_id hr] at h1
  exact q _ h1 fun y h1 h2 h3 => by rw [gset_ne h3, gset_ne h2]
theorem pa_ds : ∀ l : List (Bool × Int × Int), isDs (paP l) = true
  | [] => rfl
  | p :: l => by
    have ih := pa_ds l
    unfold paP at ih ⊢
    rw [List.map_cons]
    simp only [isDs, PV.isD, ih, Bool.and_self]
theorem pa_lay : ∀ l : List (Bool × Int × Int), PyData.canLayAll0 (dats (paP l)) = true ∧ PyData.depthAll (dats (paP l)) ≤ 1
  | [] => by unfold paP; simp only [List.map_nil, dats, PyData.canLayAll0, PyData.depthAll]; exact ⟨trivial, by omega⟩
  | p :: l => by
    obtain ⟨h1, h2⟩ := pa_lay l
    unfold paP at h1 h2 ⊢
    rw [List.map_cons]
    simp only [dats, PV.dat, PyData.canLayAll0, PyData.canLay0, PyData.depthAll, PyData.depth, h1, Bool.and_self, Bool.true_and]
    exact ⟨trivial, by omega⟩
theorem pa_shaped (l : List (Bool × Int × Int)) : SeqAt.shaped (PyData.list (dats (paP l))) = true := by
  obtain ⟨h1, h2⟩ := pa_lay l
  show ((PyData.list (dats (paP l))).canLay0 && decide ((PyData.list (dats (paP l))).depth ≤ 64)) = true
  simp only [PyData.canLay0, PyData.depth, h1, Bool.true_and]
  exact decide_eq_true (by omega)
theorem ok_Room_back (T : Txt K mg) : Ok_Room_back P w K mg base T := by
  refine def_by T.F_Room_back sc_Room_back (d_Room_back T) fun xs G Q Ex h => ?_
  obtain ⟨r, a, b, n, ly, kn, pa, c, z, x, rfl, hR, hly, ht, hf, q⟩ := h
  obtain ⟨nar, nbr, nab⟩ := hR.rb
  obtain ⟨hr, ha, hb⟩ := id hR
  have ha : G a = some (.dk (lyP ly)) := ha
  have hb : G b = some (.lst (paP (pa ++ [(c, z, x)]))) := hb
  have hr : G r = some (.ins T.c_Room [("many", .int n), ("lying", .ref a), ("known", .int kn), ("past", .ref b)]) := hr
  refine ⟨rfl, ?_⟩
  show t_Room_back T.c_Room _ [some (.ref r), none, none, none] G
  unfold t_Room_back
  refine seq_gen fun K1 k1 => ?_
  walk_at "pv"
  refine fld_var rfl hr rfl ?_
  refine ⟨Nat.zero_le _, ?_⟩
  refine rEq_nil hb (pa_ds _) (pa_shaped _) ?_
  walk_at "pv"
  refine ite_f (decide_eq_false (by unfold paP; simp)) (k1 _ _ ?_)
  clear k1
  have e : paP (pa ++ [(c, z, x)]) = paP pa ++ [PV.tup [.bl c, .int z, .int x]] := by unfold paP; rw [List.map_append]; rfl
  refine seq_gen fun K1 k1 => ?_
  walk_at "pv"
  refine fld_var rfl hr rfl ?_
  refine pBM_of (tyP_own hb) List.mem_cons_self ?_
  refine rPop1_l ?_
  rw [e] at hb
  refine popL_of hb ?_
  walk_at "pv"
  refine ⟨rfl, k1 _ _ ?_⟩
  clear k1
  have hr1 : gset G b (.lst (paP pa)) r = some (.ins T.c_Room [("many", .int n), ("lying", .ref a), ("known", .int kn), ("past", .ref b)]) := by rw [gset_ne (Ne.symm nbr)]; exact hr
  have ha1 : gset G b (.lst (paP pa)) a = some (.dk (lyP ly)) := by rw [gset_ne nab]; exact ha
  have fin : ∀ l : List (Int × Int), l = undo ly c z x → Q (.int z) (gset (gset G b (.lst (paP pa))) a (.dk (lyP l))) := fun l el => by
    have h1 := hR.set n (undo ly c z x) kn pa
    rw [gset_id (show G r = some (.ins T.c_Room [("many", .int n), ("lying", .ref a), ("known", .int kn), ("past", .ref b)]) from hr)] at h1
    rw [el, gset_comm (Ne.symm nab)]
    exact q _ h1 fun y h1 h2 h3 => by rw [gset_ne h3, gset_ne h2]
  refine seq_gen fun K1 k1 => ?_
  walk_at "pv"
  cases c with
  | true =>
    refine ite_t rfl ?_
    refine fld_var rfl hr1 rfl ?_
    refine pBM_of (tyP_dk ha1) (List.mem_cons_of_mem _ List.mem_cons_self) ?_
    obtain ⟨y, hy⟩ := ht rfl
    have hv : valP (lyP ly) (.inl z) = some (.int y) := by rw [find_val, show Rm.find ⟨0, ly, 0, []⟩ z = some y from hy]; rfl
    refine rPop1_d (popD_of ha1 rfl hv (k1 _ _ ?_))
    rw [drop_val]
    walk_at "pv"
    exact fin _ rfl
  | false =>
    refine ite_f rfl ?_
    refine fld_var rfl hr1 rfl ?_
    refine rSet_dict (k := .inl z) ha1 rfl (small' (by unfold lyP; rw [List.length_map]; omega)) (k1 _ _ ?_)
    rw [put_val ly z x fun p hp ez => ?_]
    · walk_at "pv"
      exact fin _ rfl
    · have := hf rfl
      unfold Rm.find at this
      rw [Option.map_eq_none_iff, List.find?_eq_none] at this
      exact this p hp (by simpa using ez)
theorem ok_Room_load (T : Txt K mg) (C1 : Ok_sorted_load P w K mg base T) (C2 : Ok_Room_stand P w K mg base T) : Ok_Room_load P w K mg base T := by
  refine def_by T.F_Room_load sc_Room_load (d_Room_load T C1 C2) fun xs G Q Ex h => ?_
  obtain ⟨r, a, b, S, rfl, hR, hOk, q⟩ := h
  refine ⟨rfl, ?_⟩
  show t_Room_load T.c_Room _ [some (.ref r)] G
  unfold t_Room_load
  walk_at "pv"
  refine meth_var rfl hR.1 rfl ?_
  walk_at "pv"
  exact ⟨r, a, b, S, rfl, hR, hOk, S.stand, rfl, q⟩
end K58
end

section
namespace K58
open PySem PL
open L2 (atI ixN atI_nat upd Key)
local macro_rules | `(tactic| walk_at "pv") => `(tactic| first | dsimp only [pVar, pC, pUn, pOp, pNil, pCons, pCB, pTup, pLst, pOwn, pFrz, pDrop, pRet, pRetN, pIf, pSet, pAsg, pgName, pgNil, pgCons, pgTup, pgSub, pTb, pAnd, pOr, pNot, pAndV, pOrV, pNotV, pIfE, pCall, pNext, pISeq, pRng1, pRng2, pSl, pNoPart, pPart, pBM, pFrzT, pYes, wipeE, pgTup, pairP, pZip, pSortedR, pListRg, pRev,
  rAdd_ii, rSub_ii, rMul_ii, rFdiv_ii, rMod_ii, rPow_ii, rLt_ii, rLe_ii, rGt_ii, rGe_ii, rEq_ii, rNe_ii, rEq_ss, rNe_ss, rNeg_i, rAbs_i, rMin_ii, rMax_ii, rInt_i, rInt_b,
  List.getElem?_cons_zero, List.getElem?_cons_succ, List.set_cons_zero, List.set_cons_succ, List.length_cons, List.length_nil] | skip)
variable {P : Program} {w : World} {K : PySem.W.Frag} {mg : Str → Option Value} {base : Heap}
/-! ### the plain law of rooms -/
theorem ballsOf_len : ∀ (dss : List (List Int)) (S : Rm), (ballsOf S dss).length = dss.length
  | [], S => rfl
  | ds :: r, S => congrArg (· + 1) (ballsOf_len r (S.put ds))
theorem ballsOf_snoc : ∀ (a : List (List Int)) (ds : List Int) (S : Rm), ballsOf S (a ++ [ds]) = ballsOf S a ++ [((putAll S a).kn, choose (putAll S a).stand ds)]
  | [], ds, S => rfl
  | d :: a, ds, S => by
    show (S.kn, choose S.stand d) :: ballsOf (S.put d) (a ++ [ds]) = _
    rw [ballsOf_snoc a ds (S.put d)]
    rfl
theorem putAll_snoc (S : Rm) (a : List (List Int)) (ds : List Int) : putAll S (a ++ [ds]) = (putAll S a).put ds := by
  unfold putAll
  rw [List.foldl_append]
  rfl
theorem putAll_eq : ∀ (dss : List (List Int)) (S : Rm), putAll S dss = ⟨S.n, S.ly ++ ballsOf S dss, S.kn + dss.length, S.pa ++ (ballsOf S dss).map fun p => (true, p.1, p.2)⟩
  | [], S => by
    show S = _
    simp [ballsOf]
  | ds :: r, S => by
    show putAll (S.put ds) r = _
    rw [putAll_eq r (S.put ds)]
    simp only [Rm.put, ballsOf, List.append_assoc, List.cons_append, List.nil_append, List.map_cons, List.length_cons, Rm.mk.injEq, true_and]
    refine ⟨?_, trivial⟩
    push_cast
    omega
theorem ballsOf_key : ∀ (dss : List (List Int)) (S : Rm) (i : Nat) (p : Int × Int), (ballsOf S dss)[i]? = some p → p.1 = S.kn + i
  | [], S, i, p, e => by simp [ballsOf] at e
  | ds :: r, S, 0, p, e => by
    cases e
    simp
  | ds :: r, S, i + 1, p, e => by
    have := ballsOf_key r (S.put ds) i p (by simpa [ballsOf] using e)
    have e2 : (S.put ds).kn = S.kn + 1 := rfl
    rw [this, e2]
    push_cast
    omega
theorem balls_byDraws : ∀ (dss : List (List Int)) (S : Rm), (ballsOf S dss).map (·.2) = (byDraws S.stand dss).2 ∧ (putAll S dss).stand = (byDraws S.stand dss).1
  | [], S => ⟨rfl, rfl⟩
  | ds :: r, S => by
    obtain ⟨h1, h2⟩ := balls_byDraws r (S.put ds)
    have e : (S.put ds).stand = incAt S.stand (choose S.stand ds) := by
      show standOf S.n (S.ly ++ [_]) = _
      rw [standOf_snoc]
      rfl
    rw [e] at h1 h2
    exact ⟨by show _ :: _ = _ :: _; rw [h1], h2⟩
theorem new_stand (n : Nat) : (Rm.new n).stand = List.replicate n 0 := rfl
theorem ballsOf_range (n : Nat) (dss : List (List Int)) (h : AllB n dss) : ∀ (S : Rm), S.n = n → ∀ p ∈ ballsOf S dss, 0 ≤ p.2 ∧ p.2 < (n : Int) := by
  induction dss with
  | nil => exact fun S _ p hp => (by cases hp)
  | cons ds r ih =>
    intro S hS p hp
    rcases List.mem_cons.mp hp with rfl | hp
    · exact choose_lt (zs := S.stand) (h ds List.mem_cons_self)
    · exact ih (fun d hd => h d (List.mem_cons_of_mem _ hd)) (S.put ds) hS p hp
theorem balls_nodup (dss : List (List Int)) (S : Rm) : ((ballsOf S dss).map (·.1)).Nodup := by
  rw [List.nodup_iff_pairwise_ne, List.pairwise_map, List.pairwise_iff_getElem]
  intro i j hi hj hij e
  have h1 := ballsOf_key dss S i _ (List.getElem?_eq_getElem hi)
  have h2 := ballsOf_key dss S j _ (List.getElem?_eq_getElem hj)
  omega
theorem putAll_ok {n : Nat} {dss : List (List Int)} (hn : n ≤ 1000) (h : AllB n dss) : (putAll (Rm.new n) dss).Ok := by
  rw [putAll_eq]
  refine ⟨fun p hp => ?_, ?_, hn⟩
  · have hp : p ∈ ballsOf (Rm.new n) dss := by simpa [Rm.new] using hp
    obtain ⟨i, hi⟩ := List.getElem?_of_mem hp
    have h1 := ballsOf_key dss (Rm.new n) i p hi
    have h2 := (List.getElem?_eq_some_iff.mp hi).1
    rw [ballsOf_len] at h2
    have h3 := ballsOf_range n dss h (Rm.new n) rfl p hp
    refine ⟨?_, h3⟩
    show p.1 < (0 : Int) + dss.length
    have : (Rm.new n).kn = 0 := rfl
    omega
  · have := balls_nodup dss (Rm.new n)
    simpa [Rm.new] using this
/-! standOf by counts -/
theorem standOf_getD (n : Nat) : ∀ (l : List (Int × Int)), (∀ p ∈ l, 0 ≤ p.2 ∧ p.2 < (n : Int)) → ∀ (c : List Int) (j : Nat), c.length = n → (l.foldl (fun c p => incAt c p.2) c).getD j 0 = c.getD j 0 + (if j < n then ((l.countP fun p => decide (p.2 = (j : Int))) : Int) else 0)
  | [], _, c, j, hc => by simp
  | p :: l, h, c, j, hc => by
    have hp := h p List.mem_cons_self
    rw [List.foldl_cons, standOf_getD n l (fun q hq => h q (List.mem_cons_of_mem _ hq)) (incAt c p.2) j (by rw [incAt_len, hc])]
    have e : (incAt c p.2).getD j 0 = c.getD j 0 + (if p.2 = (j : Int) then 1 else 0) := by
      unfold incAt atZ
      rw [List.getD_eq_getElem?_getD, List.getElem?_set]
      by_cases q : p.2 = (j : Int)
      · rw [if_pos (by omega : p.2.toNat = j), if_pos q, if_pos (by omega)]
        rw [show p.2.toNat = j by omega]
        rfl
      · rw [if_neg (by omega : ¬ p.2.toNat = j), if_neg q, ← List.getD_eq_getElem?_getD]
        omega
    rw [e, List.countP_cons]
    by_cases q : p.2 = (j : Int)
    · rw [if_pos q, if_pos (by omega : j < n), if_pos (by omega : j < n)]
      simp only [q, decide_true, if_true]
      push_cast
      omega
    · rw [if_neg q]
      simp only [q, decide_false, Bool.false_eq_true, if_false]
      split <;> push_cast <;> omega
theorem standOf_perm {n : Nat} {l m : List (Int × Int)} (h : l.Perm m) (hl : ∀ p ∈ l, 0 ≤ p.2 ∧ p.2 < (n : Int)) : standOf n l = standOf n m := by
  refine List.ext_getElem (by rw [standOf_len, standOf_len]) fun i h1 h2 => ?_
  have a := standOf_getD n l hl (List.replicate n 0) i (by rw [List.length_replicate])
  have b := standOf_getD n m (fun p hp => hl p (h.mem_iff.mpr hp)) (List.replicate n 0) i (by rw [List.length_replicate])
  rw [h.countP_eq] at a
  have e : (standOf n l).getD i 0 = (standOf n m).getD i 0 := by unfold standOf; rw [a, b]
  rw [List.getD_eq_getElem?_getD, List.getD_eq_getElem?_getD, List.getElem?_eq_getElem h1, List.getElem?_eq_getElem h2] at e
  exact e
theorem find_mem {l : List (Int × Int)} {p : Int × Int} (h : (l.map (·.1)).Nodup) (hp : p ∈ l) (n : Nat) (kn : Int) (pa : List (Bool × Int × Int)) : Rm.find ⟨n, l, kn, pa⟩ p.1 = some p.2 := by
  obtain ⟨i, hi⟩ := List.getElem?_of_mem hp
  exact find_at h hi
theorem find_no {l : List (Int × Int)} {z : Int} (h : ∀ p ∈ l, p.1 ≠ z) (n : Nat) (kn : Int) (pa : List (Bool × Int × Int)) : Rm.find ⟨n, l, kn, pa⟩ z = none := by
  unfold Rm.find
  rw [Option.map_eq_none_iff, List.find?_eq_none]
  intro p hp
  simpa using h p hp
theorem dropZ_snoc {l : List (Int × Int)} {z x : Int} (h : ∀ p ∈ l, p.1 ≠ z) : dropZ (l ++ [(z, x)]) z = l := by
  unfold dropZ
  rw [List.filter_append, List.filter_eq_self.mpr fun p hp => by simpa using h p hp]
  simp
end K58
end

section
namespace K58
open PySem PL
open L2 (atI ixN atI_nat upd Key)
local macro_rules | `(tactic| walk_at "pv") => `(tactic| first | dsimp only [pVar, pC, pUn, pOp, pNil, pCons, pCB, pTup, pLst, pOwn, pFrz, pDrop, pRet, pRetN, pIf, pSet, pAsg, pgName, pgNil, pgCons, pgTup, pgSub, pTb, pAnd, pOr, pNot, pAndV, pOrV, pNotV, pIfE, pCall, pNext, pISeq, pRng1, pRng2, pSl, pNoPart, pPart, pBM, pFrzT, pYes, wipeE, pgTup, pairP, pZip, pSortedR, pListRg, pRev,
  rAdd_ii, rSub_ii, rMul_ii, rFdiv_ii, rMod_ii, rPow_ii, rLt_ii, rLe_ii, rGt_ii, rGe_ii, rEq_ii, rNe_ii, rEq_ss, rNe_ss, rNeg_i, rAbs_i, rMin_ii, rMax_ii, rInt_i, rInt_b,
  List.getElem?_cons_zero, List.getElem?_cons_succ, List.set_cons_zero, List.set_cons_succ, List.length_cons, List.length_nil] | skip)
variable {P : Program} {w : World} {K : PySem.W.Frag} {mg : Str → Option Value} {base : Heap}
theorem erase_map {α β : Type} (f : α → β) : ∀ (l : List α) (k : Nat), (l.map f).eraseIdx k = (l.eraseIdx k).map f
  | [], _ => rfl
  | x :: l, 0 => rfl
  | x :: l, k + 1 => by
    show f x :: (l.map f).eraseIdx k = f x :: (l.eraseIdx k).map f
    rw [erase_map f l k]
theorem cons_erase : ∀ (l : List Int) (k : Nat) (h : k < l.length), (l[k] :: l.eraseIdx k).Perm l
  | x :: l, 0, h => List.Perm.refl _
  | x :: l, k + 1, h => by
    have h' : k < l.length := by simpa using h
    show (l[k] :: x :: l.eraseIdx k).Perm (x :: l)
    exact (List.Perm.swap _ _ _).trans ((cons_erase l k h').cons x)
theorem ok_l_order (T : Txt K mg) (C : Ok_l_draw P w K mg base T) : Ok_l_order P w K mg base T := by
  refine def_byD T.F_l_order sc_l_order (d_l_order T C) fun xs G Q Ex h => ?_
  obtain ⟨p, zs, k, o, rfl, hG, hP, hl, hk, q⟩ := h
  refine ⟨rfl, ?_⟩
  show t_l_order _ [some (.ref p), some (.lst (zs.map .int)), none, none, none] G
  unfold t_l_order
  refine seq_gen fun K1 k1 => ?_
  walk_at "pv"
  refine rList_of (xs := zs.map .int) rfl fun a ha => k1 _ _ ?_
  clear k1
  have nap := own_ab' hG ha
  refine seq_gen fun K1 k1 => ?_
  walk_at "pv"
  refine ⟨Nat.zero_le _, fun b hb' => k1 _ _ ?_⟩
  clear k1
  have nba : b ≠ a := own_ab (y := .lst []) ha hb'
  have hb : G b = none := none_of_set hb'
  have nbp := own_ab' hG hb
  refine seq_gen fun K1 k1 => ?_
  refine for_gen fun g' tb' hg htb => ?_
  walk_at "pv"
  refine rLen_seq (xs := zs.map .int) rfl ?_
  rw [List.length_map]
  refine ⟨by omega, by omega, ?_⟩
  refine for_r (fun i env G' => ∃ (o' : GO) (left found : List Int) (x4 : Option PV), env = [some (.ref p), some (.lst (zs.map .int)), some (.ref a), some (.ref b), x4] ∧ G' p = some o' ∧ G' a = some (.lst (left.map .int)) ∧ G' b = some (.lst (found.map .int)) ∧ (∀ x, x ≠ p → x ≠ a → x ≠ b → G' x = G x) ∧ IsPen (k + i) o' ∧ found.length = i ∧ left.length + i = zs.length ∧ (found ++ left).Perm zs)
    ⟨o, zs, [], none, rfl, by rw [gset_ne (Ne.symm nbp), gset_ne (Ne.symm nap)]; exact hG, by rw [gset_ne (Ne.symm nba), gset_same], gset_same, fun x h1 h2 h3 => by rw [gset_ne h3, gset_ne h2], by simpa using hP, rfl, rfl, List.Perm.refl _⟩ (fun i env G' hi hI => ?_) fun env G' hI => ?_
  · obtain ⟨o', left, found, x4, rfl, g1, g2, g3, g4, hP', e1, e2, hp⟩ := hI
    subst hg htb
    walk_at "pv"
    refine pBM_of (tyP_own g3) List.mem_cons_self ?_
    refine pBM_of (tyP_own g2) List.mem_cons_self ?_
    refine rLen_seq (ownL_of g2) ?_
    rw [List.length_map]
    refine ⟨p, _, _, o', rfl, by omega, by omega, g1, hP', by omega, fun r o2 r0 r1 hP2 => ?_⟩
    refine rPop1_l ?_
    have hk' : left[r.toNat]? = some left[r.toNat] := List.getElem?_eq_getElem (by omega)
    have g2' : gset G' p o2 a = some (.lst (left.map .int)) := by rw [gset_ne nap]; exact g2
    have g3' : gset G' p o2 b = some (.lst (found.map .int)) := by rw [gset_ne nbp]; exact g3
    refine popLi_of (k := r.toNat) (y := .int left[r.toNat]) g2' (by omega) (by omega) (ixN_in r0 (by rw [List.length_map]; exact r1)) (by rw [List.getElem?_map, hk']; rfl) ?_
    have g3'' : gset (gset G' p o2) a (.lst ((left.map .int).eraseIdx r.toNat)) b = some (.lst (found.map .int)) := by rw [gset_ne nba]; exact g3'
    refine rAppend_of g3'' (small' (by rw [List.length_map]; omega)) ?_
    refine ⟨o2, left.eraseIdx r.toNat, found ++ [left[r.toNat]], _, rfl, ?_, ?_, ?_, fun x h1 h2 h3 => ?_, hP2.mono (by push_cast; omega), by rw [List.length_append, e1]; rfl, ?_, ?_⟩
    · rw [gset_ne (Ne.symm nbp), gset_ne (Ne.symm nap), gset_same]
    · rw [gset_ne (Ne.symm nba), gset_same, erase_map]
    · rw [gset_same, List.map_append]
      rfl
    · rw [gset_ne h3, gset_ne h2, gset_ne h1]
      exact g4 x h1 h2 h3
    · rw [List.length_eraseIdx, if_pos (by omega)]
      omega
    · refine List.Perm.trans ?_ hp
      rw [List.append_assoc]
      refine List.Perm.append_left found ?_
      exact cons_erase _ _ _
  · obtain ⟨o', left, found, x4, rfl, g1, g2, g3, g4, hP', e1, e2, hp⟩ := hI
    refine k1 _ _ ?_
    walk_at "pv"
    refine rFrz_of g3 ?_
    have el : left = [] := List.eq_nil_of_length_eq_zero (by omega)
    rw [el, List.append_nil] at hp
    refine ⟨gset G p o', fun x u hx => ?_, q found o' hp (hP'.mono (by omega))⟩
    by_cases xp : x = p
    · subst xp
      rw [gset_same] at hx
      rw [gdel_ne (Ne.symm nbp), g1]
      exact hx
    · rw [gset_ne xp] at hx
      have xa : x ≠ a := fun e => by rw [e, ha] at hx; cases hx
      have xb : x ≠ b := fun e => by rw [e, hb] at hx; cases hx
      rw [gdel_ne xb, g4 x xp xa xb]
      exact hx
theorem RoomAt.del {C : Addr} {G : GH} {r a b D : Addr} {S : Rm} (h : RoomAt C G r a b S) (h1 : r ≠ D) (h2 : a ≠ D) (h3 : b ≠ D) : RoomAt C (gdel G D) r a b S := ⟨by rw [gdel_ne h1]; exact h.1, by rw [gdel_ne h2]; exact h.2.1, by rw [gdel_ne h3]; exact h.2.2⟩
theorem RoomAt.put {C : Addr} {G : GH} {r a b D : Addr} {o : GO} {S : Rm} (h : RoomAt C G r a b S) (h1 : r ≠ D) (h2 : a ≠ D) (h3 : b ≠ D) : RoomAt C (gset G D o) r a b S := ⟨by rw [gset_ne h1]; exact h.1, by rw [gset_ne h2]; exact h.2.1, by rw [gset_ne h3]; exact h.2.2⟩
theorem ok_l_filled (T : Txt K mg) (C1 : Ok_Room___init__ P w K mg base T) (C2 : Ok_Room_put P w K mg base T) : Ok_l_filled P w K mg base T := by
  refine def_by T.F_l_filled sc_l_filled (d_l_filled T C1 C2) fun xs G Q Ex h => ?_
  obtain ⟨n, dss, rfl, hn, hB, hl, q⟩ := h
  refine ⟨rfl, ?_⟩
  show t_l_filled T.c_Room _ [some (.int n), some (.lst (dss.map tI)), none, none] G
  unfold t_l_filled
  refine seq_gen fun K1 k1 => ?_
  walk_at "pv"
  unfold pMake
  walk_at "pv"
  intro r hr
  refine ⟨r, n, rfl, gset_same, fun a b G1 ha hb nab hR hF => ⟨rfl, k1 _ _ ?_⟩⟩
  clear k1
  have nar : a ≠ r := fun e => by subst e; rw [gset_same] at ha; cases ha
  have nbr : b ≠ r := fun e => by subst e; rw [gset_same] at hb; cases hb
  have ha0 : G a = none := none_of_set ha
  have hb0 : G b = none := none_of_set hb
  walk_at "pv"
  refine lc_gen fun g' tt' te' P' hg htt hte hP => ?_
  walk_at "pv"
  refine iseq_of (xs := dss.map tI) rfl fun D hD => ?_
  have nDr : r ≠ D := fun e => by rw [← e, hR.1] at hD; cases hD
  have nDa : a ≠ D := fun e => by rw [← e, hR.2.1] at hD; cases hD
  have nDb : b ≠ D := fun e => by rw [← e, hR.2.2] at hD; cases hD
  refine lc_invF dss.length (fun i acc G' => acc = (ballsOf (Rm.new n) (dss.take i)).map pairZ ∧ RoomAt T.c_Room G' r a b (putAll (Rm.new n) (dss.take i)) ∧ ∀ x, x ≠ r → x ≠ a → x ≠ b → x ≠ D → G' x = G1 x) (small' (by omega)) ⟨rfl, hR.put nDr nDa nDb, fun x _ _ _ h => gset_ne h⟩ (fun i acc G' Ky Kn hi hS hGD hle h1 h2 => ?_) fun acc G' hS hGD => ⟨by show (dss.map tI).length ≤ _; rw [List.length_map]; exact Nat.le_refl _, ?_⟩
  · obtain ⟨rfl, hRi, hFi⟩ := hS
    have hd : dss[i]? = some dss[i] := List.getElem?_eq_getElem hi
    have hmem : dss[i] ∈ dss := List.getElem_mem hi
    have htk : dss.take (i + 1) = dss.take i ++ [dss[i]] := by rw [List.take_add_one, hd]; rfl
    generalize dss[i] = ds at hd hmem htk
    refine ⟨tI ds, by show (dss.map tI)[i]? = _; rw [List.getElem?_map, hd]; rfl, ?_⟩
    subst hg htt hte
    unfold lcTurn
    walk_at "pv"
    have hB' : AllB n (dss.take i) := fun d hd => hB d (List.mem_of_mem_take hd)
    have hOk := putAll_ok (by omega) hB'
    have hlen : (putAll (Rm.new n) (dss.take i)).ly.length = i ∧ (putAll (Rm.new n) (dss.take i)).pa.length = i ∧ (putAll (Rm.new n) (dss.take i)).n = n := by
      rw [putAll_eq]
      refine ⟨?_, ?_, rfl⟩
      · show ([] ++ _ : List _).length = i
        rw [List.nil_append, ballsOf_len, List.length_take, Nat.min_eq_left (by omega)]
      · show ([] ++ _ : List _).length = i
        rw [List.nil_append, List.length_map, ballsOf_len, List.length_take, Nat.min_eq_left (by omega)]
    refine meth_var rfl hRi.1 rfl ?_
    walk_at "pv"
    refine ⟨r, a, b, _, ds, rfl, hRi, hOk, by omega, by omega, by rw [hlen.2.2]; exact hB ds hmem, fun G2 hR2 hF2 => h1 _ _ ?_ ?_⟩
    · rw [hF2 D (Ne.symm nDr) (Ne.symm nDa) (Ne.symm nDb)]
      exact hGD
    · refine ⟨?_, ?_, fun x x1 x2 x3 x4 => ?_⟩
      · rw [htk, ballsOf_snoc, List.map_append]
        rfl
      · rw [htk, putAll_snoc]
        exact hR2.put nDr nDa nDb
      · rw [gset_ne x4, hF2 x x1 x2 x3]
        exact hFi x x1 x2 x3 x4
  · obtain ⟨rfl, hRi, hFi⟩ := hS
    subst hP
    rw [List.take_length] at hRi ⊢
    refine ⟨small (show 2 ≤ 10000000 by decide), ?_⟩
    refine q r a b _ hr ha0 hb0 nab (hRi.del nDr nDa nDb) fun x x1 x2 x3 => ?_
    by_cases xD : x = D
    · subst xD
      have e0 := hF x x1 x2 x3
      rw [hD, gset_ne x1] at e0
      unfold gdel
      rw [if_pos rfl]
      exact e0
    · rw [gdel_ne xD, hFi x x1 x2 x3 xD, hF x x1 x2 x3, gset_ne x1]
end K58
end

section
namespace K58
open PySem PL
open L2 (atI ixN atI_nat upd Key)
local macro_rules | `(tactic| walk_at "pv") => `(tactic| first | dsimp only [pVar, pC, pUn, pOp, pNil, pCons, pCB, pTup, pLst, pOwn, pFrz, pDrop, pRet, pRetN, pIf, pSet, pAsg, pgName, pgNil, pgCons, pgTup, pgSub, pTb, pAnd, pOr, pNot, pAndV, pOrV, pNotV, pIfE, pCall, pNext, pISeq, pRng1, pRng2, pSl, pNoPart, pPart, pBM, pFrzT, pYes, wipeE, pgTup, pairP, pZip, pSortedR, pListRg, pRev,
  rAdd_ii, rSub_ii, rMul_ii, rFdiv_ii, rMod_ii, rPow_ii, rLt_ii, rLe_ii, rGt_ii, rGe_ii, rEq_ii, rNe_ii, rEq_ss, rNe_ss, rNeg_i, rAbs_i, rMin_ii, rMax_ii, rInt_i, rInt_b,
  List.getElem?_cons_zero, List.getElem?_cons_succ, List.set_cons_zero, List.set_cons_succ, List.length_cons, List.length_nil] | skip)
variable {P : Program} {w : World} {K : PySem.W.Frag} {mg : Str → Option Value} {base : Heap}
theorem Rm.Ok.up {n : Nat} {ly : List (Int × Int)} {kn : Int} {pa pa' : List (Bool × Int × Int)} (h : Rm.Ok ⟨n, ly, kn, pa⟩) {kn' : Int} (hk : kn ≤ kn') : Rm.Ok ⟨n, ly, kn', pa'⟩ :=
  ⟨fun p hp => by have := h.1 p hp; exact ⟨Int.lt_of_lt_of_le this.1 hk, this.2⟩, h.2⟩
theorem Rm.Ok.new {S : Rm} (h : S.Ok) {ds : List Int} (hB : InB S.n ds) : (S.put ds).Ok := by
  refine ⟨fun p hp => ?_, ?_, h.2.2⟩
  · rcases List.mem_append.mp hp with hp | hp
    · have := h.1 p hp
      exact ⟨by show p.1 < S.kn + 1; omega, this.2⟩
    · rw [List.mem_singleton.mp hp]
      have hc := choose_lt (zs := S.stand) hB
      exact ⟨by show S.kn < S.kn + 1; omega, hc⟩
  · show ((S.ly ++ [(S.kn, choose S.stand ds)]).map (·.1)).Nodup
    rw [List.map_append, List.nodup_append]
    refine ⟨h.2.1, by simp, fun x hx y hy e => ?_⟩
    obtain ⟨p, hp, rfl⟩ := List.mem_map.mp hx
    have := (h.1 p hp).1
    have ey : y = S.kn := by simpa using hy
    omega
theorem InB.rev {n : Nat} {ds : List Int} (h : InB n ds) : InB n ds.reverse := ⟨fun e => h.1 (List.reverse_eq_nil_iff.mp e), fun d hd => h.2 d (List.mem_reverse.mp hd)⟩
theorem keys_ne {S : Rm} (h : S.Ok) : ∀ p ∈ S.ly, p.1 ≠ S.kn := fun p hp e => by have := (h.1 p hp).1; omega
theorem find_last {l : List (Int × Int)} {z x : Int} (h : ∀ p ∈ l, p.1 ≠ z) (n : Nat) (kn : Int) (pa : List (Bool × Int × Int)) : Rm.find ⟨n, l ++ [(z, x)], kn, pa⟩ z = some x := by
  unfold Rm.find
  rw [List.find?_append, List.find?_eq_none.mpr fun p hp => by simpa using h p hp]
  simp
theorem ok_l_restless (T : Txt K mg) (C1 : Ok_Room___init__ P w K mg base T) (C2 : Ok_Room_put P w K mg base T) (C3 : Ok_Room_leave P w K mg base T) (C4 : Ok_Room_back P w K mg base T) : Ok_l_restless P w K mg base T := by
  refine def_byD T.F_l_restless sc_l_restless (d_l_restless T C1 C2 C3 C4) fun xs G Q Ex h => ?_
  obtain ⟨n, dss, rfl, hn, hB, hl, q⟩ := h
  refine ⟨rfl, ?_⟩
  show t_l_restless T.c_Room _ [some (.int n), some (.lst (dss.map tI)), none, none, none, none, none] G
  unfold t_l_restless
  refine seq_gen fun K1 k1 => ?_
  walk_at "pv"
  unfold pMake
  walk_at "pv"
  intro r hr
  refine ⟨r, n, rfl, gset_same, fun a b G1 ha hb nab hR hF => ⟨rfl, k1 _ _ ?_⟩⟩
  clear k1
  have nar : a ≠ r := fun e => by subst e; rw [gset_same] at ha; cases ha
  have nbr : b ≠ r := fun e => by subst e; rw [gset_same] at hb; cases hb
  have ha0 : G a = none := none_of_set ha
  have hb0 : G b = none := none_of_set hb
  have hk1 : ∀ x u, G x = some u → G1 x = some u := fun x u e => by
    have x1 : x ≠ r := fun z => by rw [z, hr] at e; cases e
    have x2 : x ≠ a := fun z => by rw [z, ha0] at e; cases e
    have x3 : x ≠ b := fun z => by rw [z, hb0] at e; cases e
    rw [hF x x1 x2 x3, gset_ne x1]
    exact e
  refine seq_gen fun K1 k1 => ?_
  walk_at "pv"
  refine ⟨Nat.zero_le _, fun c hc => k1 _ _ ?_⟩
  clear k1
  have ncr : r ≠ c := fun e => by rw [← e, hR.1] at hc; cases hc
  have nca : a ≠ c := fun e => by rw [← e, hR.2.1] at hc; cases hc
  have ncb : b ≠ c := fun e => by rw [← e, hR.2.2] at hc; cases hc
  have hc0 : G c = none := by
    cases e : G c with
    | none => rfl
    | some u => rw [hk1 c u e] at hc; cases hc
  refine seq_gen fun K1 k1 => ?_
  refine for_gen fun g' tb' hg htb => ?_
  walk_at "pv"
  refine iseq_of (xs := dss.map tI) rfl (for_l (fun i env G' => ∃ (S : Rm) (bx : List Int) (x4 x5 x6 : Option PV), env = [some (.int n), some (.lst (dss.map tI)), some (.ref r), some (.ref c), x4, x5, x6] ∧ RoomAt T.c_Room G' r a b S ∧ G' c = some (.lst (bx.map .int)) ∧ S.n = n ∧ S.Ok ∧ S.ly.length = i ∧ S.pa.length = i ∧ bx.length = i ∧
    byDraws (List.replicate n 0) dss = ((byDraws S.stand (dss.drop i)).1, bx ++ (byDraws S.stand (dss.drop i)).2) ∧ ∀ x u, G x = some u → G' x = some u) ⟨Rm.new n, [], none, none, none, rfl, hR.put ncr nca ncb, gset_same, rfl, ⟨fun p hp => (by cases hp), List.nodup_nil, by show n ≤ 1000; omega⟩, rfl, rfl, rfl, rfl, fun x u e => ?_⟩ (fun i x env G' hx hI => ?_) fun env G' hI => ?_)
  · have xc : x ≠ c := fun z => by rw [z, hc0] at e; cases e
    rw [gset_ne xc]
    exact hk1 x u e
  · obtain ⟨S, bx, x4, x5, x6, rfl, hRi, hGc, hSn, hOk, hly, hpa, hbl, he, hkp⟩ := hI
    rw [List.getElem?_map] at hx
    obtain ⟨ds, hds, rfl⟩ := Option.map_eq_some_iff.mp hx
    have hi : i < dss.length := (List.getElem?_eq_some_iff.mp hds).1
    have hbd : InB S.n ds := by rw [hSn]; exact hB ds (List.mem_of_getElem? hds)
    have hdr : dss.drop i = ds :: dss.drop (i + 1) := by
      obtain ⟨hl, hg⟩ := List.getElem?_eq_some_iff.mp hds
      rw [List.drop_eq_getElem_cons hl, hg]
    rw [hdr] at he
    obtain ⟨sn, ly, kn, pa⟩ := S
    have hSn : sn = n := hSn
    have hly : ly.length = i := hly
    have hpa : pa.length = i := hpa
    have kne : ∀ p ∈ ly, p.1 ≠ kn := keys_ne hOk
    have kne1 : ∀ p ∈ ly, p.1 ≠ kn + 1 := fun p hp => by have := (hOk.1 p hp).1; show p.1 ≠ kn + 1; have : p.1 < kn := this; omega
    have frC : ∀ {G2 G3 : GH}, Frm G2 G3 r a b → G3 c = G2 c := fun h => h c (Ne.symm ncr) (Ne.symm nca) (Ne.symm ncb)
    have frK : ∀ {G2 G3 : GH}, Frm G2 G3 r a b → (∀ x u, G x = some u → G2 x = some u) → ∀ x u, G x = some u → G3 x = some u := fun h h2 x u e => by
      have x1 : x ≠ r := fun z => by rw [z, hr] at e; cases e
      have x2 : x ≠ a := fun z => by rw [z, ha0] at e; cases e
      have x3 : x ≠ b := fun z => by rw [z, hb0] at e; cases e
      rw [h x x1 x2 x3]
      exact h2 x u e
    subst hg htb
    walk_at "pv"
    refine seq_gen fun K2 k2 => ?_
    walk_at "pv"
    refine meth_var rfl hRi.1 rfl ?_
    walk_at "pv"
    show sp_Room_put T.c_Room [.ref r, .tup (ds.map PV.int).reverse] _ _ _
    refine ⟨r, a, b, _, ds.reverse, by rw [← List.map_reverse]; rfl, hRi, hOk, by show ly.length < 60; omega, by show pa.length ≤ 1000; omega, hbd.rev, fun Ga hRa hFa => k2 _ _ ?_⟩
    clear k2
    refine seq_gen fun K2 k2 => ?_
    walk_at "pv"
    refine meth_var rfl hRa.1 rfl ?_
    walk_at "pv"
    refine ⟨r, a, b, sn, ly ++ [(kn, choose (Rm.stand ⟨sn, ly, kn, pa⟩) ds.reverse)], kn + 1, pa, true, kn, choose (Rm.stand ⟨sn, ly, kn, pa⟩) ds.reverse, rfl, hRa, by rw [List.length_append]; show ly.length + 1 ≤ 60; omega, fun _ => ⟨_, find_last kne _ _ _⟩, fun h => (by cases h), fun Gb hRb hFb => k2 _ _ ?_⟩
    clear k2
    have eu : undo (ly ++ [(kn, choose (Rm.stand ⟨sn, ly, kn, pa⟩) ds.reverse)]) true kn (choose (Rm.stand ⟨sn, ly, kn, pa⟩) ds.reverse) = ly := dropZ_snoc kne
    rw [eu] at hRb
    have hOkb : Rm.Ok ⟨sn, ly, kn + 1, pa⟩ := hOk.up (by omega)
    refine seq_gen fun K2 k2 => ?_
    walk_at "pv"
    refine meth_var rfl hRb.1 rfl ?_
    walk_at "pv"
    refine ⟨r, a, b, _, ds, rfl, hRb, hOkb, by show ly.length < 60; omega, by show pa.length ≤ 1000; omega, hbd, fun Gc hRc hFc => ?_⟩
    have ex : choose (Rm.stand ⟨sn, ly, kn + 1, pa⟩) ds = choose (Rm.stand ⟨sn, ly, kn, pa⟩) ds := rfl
    have hOkc := hOkb.new hbd
    unfold Rm.put at hRc hOkc
    rw [ex] at hRc hOkc ⊢
    generalize hxx : choose (Rm.stand ⟨sn, ly, kn, pa⟩) ds = x at hRc hOkc ⊢
    walk_at "pv"
    refine ⟨rfl, k2 _ _ ?_⟩
    clear k2
    have hGcc : Gc c = some (.lst (bx.map .int)) := by rw [frC hFc, frC hFb, frC hFa]; exact hGc
    refine seq_gen fun K2 k2 => ?_
    walk_at "pv"
    refine pBM_of (tyP_own hGcc) List.mem_cons_self ?_
    refine rAppend_of hGcc (small' (by rw [List.length_map]; omega)) (k2 _ _ ?_)
    clear k2
    have hRd := hRc.put ncr nca ncb (o := .lst (bx.map PV.int ++ [.int x]))
    refine seq_gen fun K2 k2 => ?_
    walk_at "pv"
    refine meth_var rfl hRd.1 rfl ?_
    walk_at "pv"
    refine ⟨r, a, b, _, kn + 1, x, rfl, hRd, by rw [List.length_append]; show pa.length + 1 ≤ 1000; omega, find_last kne1 _ _ _, fun Ge hRe hFe => k2 _ _ ?_⟩
    clear k2
    unfold Rm.leave at hRe
    have ed : dropZ (ly ++ [(kn + 1, x)]) (kn + 1) = ly := dropZ_snoc kne1
    walk_at "pv"
    refine meth_var rfl hRe.1 rfl ?_
    walk_at "pv"
    refine ⟨r, a, b, sn, ly, kn + 1 + 1, pa ++ [(true, kn + 1, x)], false, kn + 1, x, rfl, by rw [← ed]; exact hRe, by omega, fun h => (by cases h), fun _ => find_no kne1 _ _ _, fun Gf hRf hFf => ?_⟩
    have eS : Rm.stand ⟨sn, ly ++ [(kn + 1, x)], kn + 1 + 1, pa ++ [(true, kn + 1, x)]⟩ = incAt (Rm.stand ⟨sn, ly, kn, pa⟩) x := standOf_snoc _ _ _
    refine ⟨⟨sn, ly ++ [(kn + 1, x)], kn + 1 + 1, pa ++ [(true, kn + 1, x)]⟩, bx ++ [x], _, _, _, rfl, hRf, ?_, hSn, hOkc, by rw [List.length_append, hly]; rfl, by rw [List.length_append, hpa]; rfl, by rw [List.length_append, hbl]; rfl, ?_, ?_⟩
    · rw [frC hFf, frC hFe, gset_same, List.map_append]
      rfl
    · rw [he, eS, ← hxx]
      show ((byDraws (incAt _ (choose _ ds)) (dss.drop (i + 1))).1, bx ++ (choose _ ds :: _)) = _
      rw [List.append_cons]
    · refine frK hFf (frK hFe fun y u e => ?_)
      have yc : y ≠ c := fun z => by rw [z, hc0] at e; cases e
      rw [gset_ne yc]
      exact frK hFc (frK hFb (frK hFa hkp)) y u e
  · obtain ⟨S, bx, x4, x5, x6, rfl, hRi, hGc, hSn, hOk, hly, hpa, hbl, he, hkp⟩ := hI
    rw [List.length_map, List.drop_length] at he
    have e2 : (byDraws (List.replicate n 0) dss).2 = bx := by rw [he]; exact List.append_nil _
    refine k1 _ _ ?_
    walk_at "pv"
    refine rFrz_of hGc ?_
    rw [e2] at q
    refine ⟨G, fun y u e => ?_, q⟩
    have yc : y ≠ c := fun z => by rw [z, hc0] at e; cases e
    rw [gdel_ne yc]
    exact hkp y u e
end K58
end

section
namespace K58
open PySem PL
open L2 (atI ixN atI_nat upd Key)
local macro_rules | `(tactic| walk_at "pv") => `(tactic| first | dsimp only [pVar, pC, pUn, pOp, pNil, pCons, pCB, pTup, pLst, pOwn, pFrz, pDrop, pRet, pRetN, pIf, pSet, pAsg, pgName, pgNil, pgCons, pgTup, pgSub, pTb, pAnd, pOr, pNot, pAndV, pOrV, pNotV, pIfE, pCall, pNext, pISeq, pRng1, pRng2, pSl, pNoPart, pPart, pBM, pFrzT, pYes, wipeE, pgTup, pairP, pZip, pSortedR, pListRg, pRev,
  rAdd_ii, rSub_ii, rMul_ii, rFdiv_ii, rMod_ii, rPow_ii, rLt_ii, rLe_ii, rGt_ii, rGe_ii, rEq_ii, rNe_ii, rEq_ss, rNe_ss, rNeg_i, rAbs_i, rMin_ii, rMax_ii, rInt_i, rInt_b,
  List.getElem?_cons_zero, List.getElem?_cons_succ, List.set_cons_zero, List.set_cons_succ, List.length_cons, List.length_nil] | skip)
variable {P : Program} {w : World} {K : PySem.W.Frag} {mg : Str → Option Value} {base : Heap}
def lf (B : List (Int × Int)) (ys : List Int) : List (Int × Int) := B.filter fun p => decide (p.1 ∉ ys)
def bxo (B : List (Int × Int)) (z : Int) : Int := (B.getD z.toNat (0, 0)).2
def bk (B : List (Int × Int)) (ys : List Int) : List (Int × Int) := ys.map fun z => (z, bxo B z)
/-- the keys are the places -/
def Plc (B : List (Int × Int)) : Prop := ∀ (i : Nat) (p : Int × Int), B[i]? = some p → p.1 = i
theorem plc_balls (n : Nat) (dss : List (List Int)) : Plc (ballsOf (Rm.new n) dss) := fun i p e => by
  have := ballsOf_key dss (Rm.new n) i p e
  have e0 : (Rm.new n).kn = 0 := rfl
  omega
theorem Plc.nodup {B : List (Int × Int)} (h : Plc B) : (B.map (·.1)).Nodup := by
  rw [List.nodup_iff_pairwise_ne, List.pairwise_map, List.pairwise_iff_getElem]
  intro i j hi hj hij e
  have h1 := h i _ (List.getElem?_eq_getElem hi)
  have h2 := h j _ (List.getElem?_eq_getElem hj)
  omega
theorem Plc.at {B : List (Int × Int)} (h : Plc B) {z : Int} (h0 : 0 ≤ z) (h1 : z < (B.length : Int)) : B[z.toNat]? = some (z, bxo B z) := by
  have hl : z.toNat < B.length := by omega
  have e : B[z.toNat]? = some B[z.toNat] := List.getElem?_eq_getElem hl
  have k := h _ _ e
  have e2 : bxo B z = B[z.toNat].2 := by
    unfold bxo
    rw [List.getD_eq_getElem?_getD, e]
    rfl
  rw [e, e2]
  exact congrArg some (Prod.ext (by show B[z.toNat].1 = z; omega) rfl)
theorem Plc.mem {B : List (Int × Int)} (h : Plc B) {z : Int} (h0 : 0 ≤ z) (h1 : z < (B.length : Int)) : (z, bxo B z) ∈ B := List.mem_of_getElem? (h.at h0 h1)
theorem lf_nil (B : List (Int × Int)) : lf B [] = B := by
  unfold lf
  exact List.filter_eq_self.mpr fun p _ => by simp
theorem lf_drop (B : List (Int × Int)) (a : List Int) (z : Int) : dropZ (lf B a) z = lf B (a ++ [z]) := by
  unfold dropZ lf
  rw [List.filter_filter]
  refine congrArg (fun f => List.filter f B) (funext fun p => ?_)
  rw [Bool.eq_iff_iff]
  simp [not_or, and_comm]
theorem lf_set {B : List (Int × Int)} {a b : List Int} (h : ∀ z, z ∈ a ↔ z ∈ b) : lf B a = lf B b := by
  unfold lf
  refine congrArg (fun f => List.filter f B) (funext fun p => ?_)
  exact decide_eq_decide.mpr (not_congr (h _))
theorem lf_mem {B : List (Int × Int)} {ys : List Int} {p : Int × Int} : p ∈ lf B ys ↔ p ∈ B ∧ p.1 ∉ ys := by
  unfold lf
  simp
theorem nodup_fst {l : List (Int × Int)} (h : (l.map (·.1)).Nodup) : l.Nodup := by
  rw [List.nodup_iff_pairwise_ne, List.pairwise_map] at h
  rw [List.nodup_iff_pairwise_ne]
  exact h.imp fun h e => h (by rw [e])
theorem lf_nodup {B : List (Int × Int)} (h : Plc B) (ys : List Int) : ((lf B ys).map (·.1)).Nodup := List.Nodup.sublist (List.Sublist.map _ (List.filter_sublist)) h.nodup
theorem back_perm {B : List (Int × Int)} (h : Plc B) {ys : List Int} (hn : ys.Nodup) (hy : ∀ z ∈ ys, 0 ≤ z ∧ z < (B.length : Int)) : (lf B ys ++ (bk B ys).reverse).Perm B := by
  refine (List.perm_ext_iff_of_nodup ?_ (nodup_fst h.nodup)).mpr fun p => ?_
  · refine List.nodup_append.mpr ⟨nodup_fst (lf_nodup h ys), ?_, fun a ha b hb e => ?_⟩
    · refine (List.reverse_perm _).nodup_iff.mpr ?_
      unfold bk
      refine nodup_fst ?_
      rw [List.map_map]
      have : ((fun p : Int × Int => p.1) ∘ fun z => (z, bxo B z)) = id := rfl
      rw [this, List.map_id]
      exact hn
    · have ha := (lf_mem.mp ha).2
      rw [List.mem_reverse] at hb
      unfold bk at hb
      obtain ⟨z, hz, rfl⟩ := List.mem_map.mp hb
      rw [e] at ha
      exact ha hz
  · rw [List.mem_append, List.mem_reverse, lf_mem]
    constructor
    · rintro (⟨h1, _⟩ | h1)
      · exact h1
      · unfold bk at h1
        obtain ⟨z, hz, rfl⟩ := List.mem_map.mp h1
        exact h.mem (hy z hz).1 (hy z hz).2
    · intro hp
      by_cases q : p.1 ∈ ys
      · right
        unfold bk
        refine List.mem_map.mpr ⟨p.1, q, ?_⟩
        obtain ⟨i, hi⟩ := List.getElem?_of_mem hp
        have k := h i p hi
        have e := h.at (z := p.1) (by omega) (by have := (List.getElem?_eq_some_iff.mp hi).1; omega)
        rw [show p.1.toNat = i by omega, hi] at e
        exact (Option.some.inj e).symm
      · exact .inl ⟨hp, q⟩
theorem atI_last (xs : List PV) (y : PV) : atI (xs ++ [y]) (-1) = some y := by
  unfold atI ixN
  rw [if_neg (by decide), if_pos (by rw [List.length_append, List.length_singleton]; omega)]
  show (xs ++ [y])[(-1 + ((xs ++ [y]).length : Int)).toNat]? = some y
  rw [show (-1 + ((xs ++ [y]).length : Int)).toNat = xs.length by rw [List.length_append, List.length_singleton]; omega]
  simp
/-- what was there stays, but p's object and the list at s -/
structure Bs (G : GH) (p s : Addr) (o : GO) (L : List PV) (G' : GH) : Prop where
  hp : G' p = some o
  hs : G' s = some (.lst L)
  hk : ∀ x u, x ≠ p → G x = some u → G' x = some u
structure Awy (G : GH) (p s r a b : Addr) : Prop where
  pr : p ≠ r
  pa : p ≠ a
  pb : p ≠ b
  sr : s ≠ r
  sa : s ≠ a
  sb : s ≠ b
  gr : G r = none
  ga : G a = none
  gb : G b = none
theorem Bs.fresh {G G' : GH} {p s r : Addr} {o : GO} {L : List PV} (h : Bs G p s o L G') (hr : G' r = none) : p ≠ r ∧ s ≠ r ∧ G r = none := by
  have h1 : p ≠ r := fun e => by rw [← e, h.hp] at hr; cases hr
  refine ⟨h1, fun e => (by rw [← e, h.hs] at hr; cases hr), ?_⟩
  cases e : G r with
  | none => rfl
  | some u => rw [h.hk r u (Ne.symm h1) e] at hr; cases hr
theorem Bs.frm {G G1 G2 : GH} {p s r a b : Addr} {o : GO} {L : List PV} (h : Bs G p s o L G1) (f : Frm G1 G2 r a b) (y : Awy G p s r a b) : Bs G p s o L G2 :=
  ⟨by rw [f p y.pr y.pa y.pb]; exact h.hp, by rw [f s y.sr y.sa y.sb]; exact h.hs, fun x u xp e => by
    have x1 : x ≠ r := fun z => by rw [z, y.gr] at e; cases e
    have x2 : x ≠ a := fun z => by rw [z, y.ga] at e; cases e
    have x3 : x ≠ b := fun z => by rw [z, y.gb] at e; cases e
    rw [f x x1 x2 x3]
    exact h.hk x u xp e⟩
theorem back_step {B : List (Int × Int)} {ys : List Int} (hn : ys.Nodup) {t : Nat} (ht : t < ys.length) :
    ∃ z, z ∈ ys ∧ (ys.map fun z => (false, z, bxo B z)).take (ys.length - t) = (ys.map fun z => (false, z, bxo B z)).take (ys.length - (t + 1)) ++ [(false, z, bxo B z)] ∧ (bk B ys).reverse.take (t + 1) = (bk B ys).reverse.take t ++ [(z, bxo B z)] ∧ ∀ p ∈ (bk B ys).reverse.take t, p.1 ≠ z := by
  have hi : ys.length - 1 - t < ys.length := by omega
  have hz : ys[ys.length - 1 - t]? = some ys[ys.length - 1 - t] := List.getElem?_eq_getElem hi
  generalize ys[ys.length - 1 - t] = z at hz
  have e2 : (bk B ys).reverse.take (t + 1) = (bk B ys).reverse.take t ++ [(z, bxo B z)] := by
    have e : (bk B ys).reverse[t]? = some (z, bxo B z) := by
      unfold bk
      rw [List.getElem?_reverse (by rw [List.length_map]; exact ht), List.length_map, List.getElem?_map, hz]
      rfl
    rw [List.take_add_one, e]
    rfl
  refine ⟨z, List.mem_of_getElem? hz, ?_, e2, fun p hp e => ?_⟩
  · have e : (ys.map fun z => (false, z, bxo B z))[ys.length - (t + 1)]? = some (false, z, bxo B z) := by
      rw [List.getElem?_map, show ys.length - (t + 1) = ys.length - 1 - t by omega, hz]
      rfl
    rw [show ys.length - t = ys.length - (t + 1) + 1 by omega, List.take_add_one, e]
    rfl
  · have h1 : ((bk B ys).reverse.map (·.1)).Nodup := by
      rw [List.map_reverse]
      refine (List.reverse_perm _).nodup_iff.mpr ?_
      unfold bk
      rw [List.map_map]
      have : ((fun p : Int × Int => p.1) ∘ fun z => (z, bxo B z)) = id := rfl
      rw [this, List.map_id]
      exact hn
    have h2 := List.Nodup.sublist (List.Sublist.map (fun p : Int × Int => p.1) (List.take_sublist (t + 1) _)) h1
    rw [e2, List.map_append, List.nodup_append] at h2
    exact h2.2.2 p.1 (List.mem_map_of_mem hp) z (by simp) e
def low (l : List (Int × Int)) (m : Int) : List (Int × Int) := l.filter fun p => decide (p.1 < m)
theorem low_drop (l : List (Int × Int)) (m : Int) : dropZ (low l (m + 1)) m = low l m := by
  unfold dropZ low
  rw [List.filter_filter]
  refine congrArg (fun f => List.filter f l) (funext fun p => ?_)
  rw [Bool.eq_iff_iff, Bool.and_eq_true, decide_eq_true_eq, decide_eq_true_eq, decide_eq_true_eq]
  omega
theorem low_all {l : List (Int × Int)} {m : Int} (h : ∀ p ∈ l, p.1 < m) : low l m = l := List.filter_eq_self.mpr fun p hp => decide_eq_true (h p hp)
theorem low_none {l : List (Int × Int)} {m : Int} (h : ∀ p ∈ l, m ≤ p.1) : low l m = [] := List.filter_eq_nil_iff.mpr fun p hp => by have := h p hp; simp; omega
end K58
end

section
namespace K58
open PySem PL
open L2 (atI ixN atI_nat upd Key)
local macro_rules | `(tactic| walk_at "pv") => `(tactic| first | dsimp only [pVar, pC, pUn, pOp, pNil, pCons, pCB, pTup, pLst, pOwn, pFrz, pDrop, pRet, pRetN, pIf, pSet, pAsg, pgName, pgNil, pgCons, pgTup, pgSub, pTb, pAnd, pOr, pNot, pAndV, pOrV, pNotV, pIfE, pCall, pNext, pISeq, pRng1, pRng2, pSl, pNoPart, pPart, pBM, pFrzT, pYes, wipeE, pgTup, pairP, pZip, pSortedR, pListRg, pRev,
  rAdd_ii, rSub_ii, rMul_ii, rFdiv_ii, rMod_ii, rPow_ii, rLt_ii, rLe_ii, rGt_ii, rGe_ii, rEq_ii, rNe_ii, rEq_ss, rNe_ss, rNeg_i, rAbs_i, rMin_ii, rMax_ii, rInt_i, rInt_b,
  List.getElem?_cons_zero, List.getElem?_cons_succ, List.set_cons_zero, List.set_cons_succ, List.length_cons, List.length_nil] | skip)
variable {P : Program} {w : World} {K : PySem.W.Frag} {mg : Str → Option Value} {base : Heap}
theorem tI_as (G : GH) (zs : List Int) : AsD G (tI zs) (tI zs) := AsD.of (tI_pl _) (Nat.le_trans (tI_dep _) (by decide))
theorem dss_as (G : GH) (dss : List (List Int)) : AsD G (.lst (dss.map tI)) (.lst (dss.map tI)) := AsD.of (by simp only [PV.pl]; exact plA_map _ tI_pl dss) (by
  have := depA_le tI 1 tI_dep dss
  simp only [PV.dep]
  omega)
theorem tup_as (G : GH) (xs : List Int) : AsD G (.tup (xs.map .int)) (.tup (xs.map .int)) := tI_as G xs
theorem zeros_tup (n : Nat) : (List.replicate ((n : Int)).toNat [PV.int 0]).flatten = (List.replicate n (0 : Int)).map .int := by
  rw [Int.toNat_natCast]
  induction n with
  | zero => rfl
  | succ j ih => rw [List.replicate_succ, List.flatten_cons, ih, List.replicate_succ]; rfl
/-- the ball deeds of k -/
theorem left_state {n : Nat} {B : List (Int × Int)} (hP : Plc B) {a : List Int} {z : Int} (h0 : 0 ≤ z) (h1 : z < (B.length : Int)) (hz : z ∉ a) (kn : Int) (pa : List (Bool × Int × Int)) : Rm.find ⟨n, lf B a, kn, pa⟩ z = some (bxo B z) :=
  find_mem (p := (z, bxo B z)) (lf_nodup hP a) (lf_mem.mpr ⟨hP.mem h0 h1, hz⟩) n kn pa
def lv (B : List (Int × Int)) (ys : List Int) : List (Bool × Int × Int) := ys.map fun z => (false, z, bxo B z)
def cm (B : List (Int × Int)) : List (Bool × Int × Int) := B.map fun p => (true, p.1, p.2)
theorem lv_snoc (B : List (Int × Int)) (a : List Int) (z : Int) : lv B (a ++ [z]) = lv B a ++ [(false, z, bxo B z)] := by unfold lv; rw [List.map_append]; rfl
theorem bk_snoc (B : List (Int × Int)) (a : List Int) (z : Int) : bk B (a ++ [z]) = bk B a ++ [(z, bxo B z)] := by unfold bk; rw [List.map_append]; rfl
theorem put_eq {n : Nat} {dss : List (List Int)} : putAll (Rm.new n) dss = ⟨n, ballsOf (Rm.new n) dss, (dss.length : Nat), cm (ballsOf (Rm.new n) dss)⟩ := by
  rw [putAll_eq]
  simp [Rm.new, cm]
theorem ok_l_left_right (T : Txt K mg) (C1 : Ok_by_draws P w K mg base T) (C2 : Ok_Room_put P w K mg base T) (C3 : Ok_Room_where P w K mg base T) (C4 : Ok_Room_leave P w K mg base T) (C5 : Ok_Room_back P w K mg base T) (C6 : Ok_Room_stand P w K mg base T) (C7 : Ok_l_order P w K mg base T) (C8 : Ok_l_filled P w K mg base T) : Ok_l_left_right P w K mg base T := by
  refine def_byD T.F_l_left_right sc_l_left_right (d_l_left_right T C1 C2 C3 C4 C5 C6 C7 C8) fun xs G Q Ex h => ?_
  obtain ⟨p, n, dss, gone, k, o, rfl, hn1, hn, hB, hl, hgn, hgr, hG, hP, hk, q⟩ := h
  refine ⟨rfl, ?_⟩
  have hPl := plc_balls n dss
  have hOkF := putAll_ok (n := n) (dss := dss) (by omega) hB
  have hBr := ballsOf_range n dss hB (Rm.new n) rfl
  have hBl := ballsOf_len dss (Rm.new n)
  rw [put_eq] at hOkF
  generalize hBB : ballsOf (Rm.new n) dss = B at hPl hOkF hBr hBl
  have hgr' : ∀ z ∈ gone, 0 ≤ z ∧ z < (B.length : Int) := fun z hz => by rw [hBl]; exact hgr z hz
  have hgl : gone.length ≤ 30 := by
    have h1 := (back_perm hPl hgn hgr').length_eq
    rw [List.length_append, List.length_reverse] at h1
    have h2 : (bk B gone).length = gone.length := List.length_map ..
    omega
  show t_l_left_right T.c_Room _ [some (.ref p), some (.int n), some (.lst (dss.map tI)), some (.lst (gone.map .int)), none, none, none, none, none, none, none, none, none, none] G
  unfold t_l_left_right
  refine seq_gen fun K1 k1 => ?_
  walk_at "pv"
  refine ⟨Nat.zero_le _, fun s hs => k1 _ _ ?_⟩
  clear k1
  have nsp := own_ab' hG hs
  generalize hSt : standOf n (lf B gone) = St
  refine seq_gen fun K1 k1 => ?_
  refine for_gen fun g' tb' hg htb => ?_
  walk_at "pv"
  refine ⟨by decide, by decide, ?_⟩
  refine for_r (fun i env G' => ∃ (o' : GO) (x5 x6 x7 x8 x9 x10 x11 x12 x13 : Option PV), env = [some (.ref p), some (.int n), some (.lst (dss.map tI)), some (.lst (gone.map .int)), some (.ref s), x5, x6, x7, x8, x9, x10, x11, x12, x13] ∧ Bs G p s o' (List.replicate i (tI St)) G' ∧ IsPen (k + 60 * i) o')
    ⟨o, none, none, none, none, none, none, none, none, none, rfl, ⟨by rw [gset_ne (Ne.symm nsp)]; exact hG, gset_same, fun x u xp e => by rw [gset_ne (fun z => by rw [z, hs] at e; cases e)]; exact e⟩, by simpa using hP⟩ (fun i env G' hi hI => ?_) fun env G' hI => ?_
  · obtain ⟨o', x5, x6, x7, x8, x9, x10, x11, x12, x13, rfl, hbs, hP'⟩ := hI
    have hi2 : i < 2 := hi
    subst hg htb
    walk_at "pv"
    refine seq_gen fun K1 k1 => ?_
    walk_at "pv"
    refine ⟨n, dss, rfl, hn, hB, hl, fun r a b G1 hr ha hb nab hR hF => ?_⟩
    obtain ⟨f1, f2, f3⟩ := hbs.fresh hr
    obtain ⟨f4, f5, f6⟩ := hbs.fresh ha
    obtain ⟨f7, f8, f9⟩ := hbs.fresh hb
    have aw : Awy G p s r a b := ⟨f1, f4, f7, f2, f5, f8, f3, f6, f9⟩
    have hbs1 := hbs.frm hF aw
    rw [put_eq, hBB] at hR
    rw [hBB]
    walk_at "pv"
    refine ⟨rfl, k1 _ _ ?_⟩
    clear k1 hF
    refine seq_gen fun K1 k1 => ?_
    walk_at "pv"
    refine meth_var rfl hR.1 rfl ?_
    walk_at "pv"
    refine ⟨r, a, b, _, rfl, hR, hOkF, k1 _ _ ?_⟩
    clear k1
    refine seq_gen fun K1 k1 => ?_
    refine for_gen fun g' tb' hg htb => ?_
    walk_at "pv"
    refine ⟨p, gone, _, o', rfl, hbs1.hp, hP', by omega, by omega, fun ys o2 hys hP2 => ?_⟩
    have hyn : ys.Nodup := hys.nodup_iff.mpr hgn
    have hyr : ∀ z ∈ ys, 0 ≤ z ∧ z < (B.length : Int) := fun z hz => hgr' z (hys.mem_iff.mp hz)
    have hyl : ys.length = gone.length := hys.length_eq
    have hbs2 : Bs G p s o2 (List.replicate i (tI St)) (gset G1 p o2) := ⟨gset_same, by rw [gset_ne nsp]; exact hbs1.hs, fun x u xp e => by rw [gset_ne xp]; exact hbs1.hk x u xp e⟩
    have hR2 := hR.put (D := p) (o := o2) (Ne.symm f1) (Ne.symm f4) (Ne.symm f7)
    generalize gset G1 p o2 = G2 at hbs2 hR2
    refine iseq_of (xs := ys.map .int) rfl (for_l (fun j env G' => ∃ x9, env = [some (.ref p), some (.int n), some (.lst (dss.map tI)), some (.lst (gone.map .int)), some (.ref s), some (.int (0 + (i : Nat))), some (.ref r), some (.lst (B.map pairZ)), some (tI (standOf n B)), x9, x10, x11, x12, x13] ∧ Bs G p s o2 (List.replicate i (tI St)) G' ∧ RoomAt T.c_Room G' r a b ⟨n, lf B (ys.take j), (dss.length : Nat), cm B ++ lv B (ys.take j)⟩) ⟨x9, rfl, hbs2, by rw [List.take_zero, lf_nil, show lv B [] = [] from rfl, List.append_nil]; exact hR2⟩ (fun j x env G' hx hI => ?_) fun env G' hI => ?_)
    · obtain ⟨x9, rfl, hb3, hR3⟩ := hI
      rw [List.getElem?_map] at hx
      obtain ⟨z, hz, rfl⟩ := Option.map_eq_some_iff.mp hx
      have hj : j < ys.length := (List.getElem?_eq_some_iff.mp hz).1
      have hzm := List.mem_of_getElem? hz
      obtain ⟨z0, z1⟩ := hyr z hzm
      have htk : ys.take (j + 1) = ys.take j ++ [z] := by rw [List.take_add_one, hz]; rfl
      have hzn : z ∉ ys.take j := by
        intro hm
        have := List.Nodup.sublist (List.take_sublist (j + 1) ys) hyn
        rw [htk, List.nodup_append] at this
        exact this.2.2 z hm z (List.mem_singleton.mpr rfl) rfl
      have hfz := fun kn pa => left_state (n := n) hPl z0 z1 hzn kn pa
      have hat : atI (B.map pairZ) z = some (pairZ (z, bxo B z)) := atI_in z0 (by rw [List.getElem?_map, hPl.at z0 z1]; rfl)
      subst hg htb
      walk_at "pv"
      refine meth_var rfl hR3.1 rfl ?_
      walk_at "pv"
      refine ⟨r, a, b, _, z, bxo B z, rfl, hR3, hfz _ _, ?_⟩
      refine rIx_seq (xs := B.map pairZ) rfl hat (rIx_seq (xs := [.int z, .int (bxo B z)]) rfl (atI_nat (j := 1) rfl) ?_)
      walk_at "pv"
      refine ite_f (by rw [decide_eq_true rfl]; rfl) ?_
      refine meth_var rfl hR3.1 rfl ?_
      walk_at "pv"
      refine ⟨r, a, b, _, z, bxo B z, rfl, hR3, ?_, hfz _ _, fun G4 hR4 hF4 => ?_⟩
      · show (cm B ++ lv B (ys.take j)).length ≤ 1000
        unfold cm lv
        rw [List.length_append, List.length_map, List.length_map, List.length_take]
        omega
      refine rIx_seq (xs := B.map pairZ) rfl hat (rIx_seq (xs := [.int z, .int (bxo B z)]) rfl (atI_nat (j := 1) rfl) ?_)
      walk_at "pv"
      refine ite_f (by rw [decide_eq_true rfl]; rfl) ?_
      refine ⟨_, rfl, hb3.frm hF4 aw, ?_⟩
      unfold Rm.leave at hR4
      rw [htk, ← lf_drop, lv_snoc, ← List.append_assoc]
      exact hR4
    · obtain ⟨x9, rfl, hb3, hR3⟩ := hI
      rw [List.length_map, List.take_length] at hR3
      have hLs : lf B ys = lf B gone := lf_set fun z => hys.mem_iff
      have hOk3 : Rm.Ok ⟨n, lf B ys, (dss.length : Nat), cm B ++ lv B ys⟩ := ⟨fun p hp => hOkF.1 p (lf_mem.mp hp).1, lf_nodup hPl ys, hOkF.2.2⟩
      refine k1 _ _ ?_
      clear k1 hg htb
      refine seq_gen fun K1 k1 => ?_
      walk_at "pv"
      refine pBM_of (tyP_own hb3.hs) List.mem_cons_self ?_
      refine meth_var rfl hR3.1 rfl ?_
      walk_at "pv"
      refine ⟨r, a, b, _, rfl, hR3, hOk3, ?_⟩
      have eSt : Rm.stand ⟨n, lf B ys, (dss.length : Nat), cm B ++ lv B ys⟩ = St := by rw [← hSt, ← hLs]; rfl
      rw [eSt]
      refine rAppend_of hb3.hs (small' (by rw [List.length_replicate]; omega)) (k1 _ _ ?_)
      clear k1
      have hb4 : Bs G p s o2 (List.replicate i (tI St) ++ [tI St]) (gset G' s (.lst (List.replicate i (tI St) ++ [tI St]))) := ⟨by rw [gset_ne (Ne.symm nsp)]; exact hb3.hp, gset_same, fun x u xp e => by rw [gset_ne (fun z => by rw [z, hs] at e; cases e)]; exact hb3.hk x u xp e⟩
      have hR4 := hR3.put (D := s) (o := .lst (List.replicate i (tI St) ++ [tI St])) (Ne.symm f2) (Ne.symm f5) (Ne.symm f8)
      generalize gset G' s (.lst (List.replicate i (tI St) ++ [tI St])) = G4 at hb4 hR4
      have hStl : St.length = n := by rw [← hSt]; exact standOf_len _ _
      refine seq_gen fun K1 k1 => ?_
      walk_at "pv"
      refine rIx_seq (ownL_of hb4.hs) (atI_last _ _) ?_
      refine rSl_lst ?_
      rw [cutP_take_i (by decide), ← List.map_take]
      refine ⟨St, dss.take (1 : Int).toNat, rfl, fun ds hd => by rw [hStl]; exact hB ds (List.mem_of_mem_take hd), by rw [List.length_take]; omega, fun b2 hb2 => ?_⟩
      walk_at "pv"
      rw [ownL_of gset_same, gdel_gset hb2]
      walk_at "pv"
      refine ⟨rfl, k1 _ _ ?_⟩
      clear k1
      refine seq_gen fun K1 k1 => ?_
      have rest : ∀ (G5 : GH) (ly : List (Int × Int)) (kn : Int) (pu : List (Bool × Int × Int)), (dss.length : Int) ≤ kn → RoomAt T.c_Room G5 r a b ⟨n, ly, kn, cm B ++ (lv B ys ++ pu)⟩ → Bs G p s o2 (List.replicate i (tI St) ++ [tI St]) G5 →
          ((pu = [] ∧ ly = lf B ys ∧ dss = []) ∨ (∃ x, pu = [(true, (dss.length : Int), x)] ∧ ly = lf B ys ++ [((dss.length : Int), x)] ∧ dss ≠ [])) → K1 [some (.ref p), some (.int n), some (.lst (dss.map tI)), some (.lst (gone.map .int)), some (.ref s), some (.int (0 + (i : Nat))), some (.ref r), some (.lst (B.map pairZ)), some (tI (standOf n B)), x9, some (tI (byDraws St (dss.take (1 : Int).toNat)).1), some (.lst ((byDraws St (dss.take (1 : Int).toNat)).2.map .int)), x12, x13] G5 := by
        intro G5 ly kn pu hknn hR5 hb5 hcase
        refine k1 _ _ ?_
        clear k1
        have hgy : gone.length = ys.length := hyl.symm
        have hd1 : (dss.take (1 : Int).toNat).length = pu.length := by
          rcases hcase with ⟨e1, _, e3⟩ | ⟨x, e1, _, e3⟩
          · rw [e1, e3]; rfl
          · rw [e1]
            cases dss with
            | nil => exact absurd rfl e3
            | cons d l => rfl
        refine seq_gen fun K1 k1 => ?_
        refine for_gen fun g' tb' hg htb => ?_
        walk_at "pv"
        refine rLen_seq (xs := gone.map .int) rfl ?_
        refine rSl_lst ?_
        rw [cutP_take_i (by decide), ← List.map_take]
        refine rLen_seq (xs := (dss.take (1 : Int).toNat).map tI) rfl ?_
        rw [List.length_map, List.length_map, hd1, hgy]
        walk_at "pv"
        have hpul : pu.length ≤ 1 := by
          rcases hcase with ⟨e1, _⟩ | ⟨x, e1, _⟩ <;> rw [e1] <;> simp
        refine ⟨by omega, by omega, ?_⟩
        rw [show ((ys.length : Int) + (pu.length : Int)).toNat = ys.length + pu.length by omega]
        refine for_r (fun j env G' => ∃ x12, env = [some (.ref p), some (.int n), some (.lst (dss.map tI)), some (.lst (gone.map .int)), some (.ref s), some (.int (0 + (i : Nat))), some (.ref r), some (.lst (B.map pairZ)), some (tI (standOf n B)), x9, some (tI (byDraws St (dss.take (1 : Int).toNat)).1), some (.lst ((byDraws St (dss.take (1 : Int).toNat)).2.map .int)), x12, x13] ∧ Bs G p s o2 (List.replicate i (tI St) ++ [tI St]) G' ∧
          ((j < pu.length ∧ RoomAt T.c_Room G' r a b ⟨n, ly, kn, cm B ++ (lv B ys ++ pu)⟩) ∨ (pu.length ≤ j ∧ RoomAt T.c_Room G' r a b ⟨n, lf B ys ++ (bk B ys).reverse.take (j - pu.length), kn, cm B ++ (lv B ys).take (ys.length - (j - pu.length))⟩)))
          ⟨x12, rfl, hb5, ?_⟩ (fun j env G' hj hI => ?_) fun env G' hI => ?_
        · rcases hcase with ⟨e1, e2, e3⟩ | ⟨x, e1, e2, e3⟩
          · refine .inr ⟨by rw [e1]; exact Nat.le_refl _, ?_⟩
            rw [e1, e2, List.append_nil] at hR5
            rw [e1]
            show RoomAt T.c_Room G5 r a b ⟨n, lf B ys ++ [], kn, cm B ++ (lv B ys).take ys.length⟩
            rw [List.append_nil, List.take_of_length_le (by unfold lv; rw [List.length_map]; exact Nat.le_refl _)]
            exact hR5
          · refine .inl ⟨by rw [e1]; exact Nat.zero_lt_one, hR5⟩
        · obtain ⟨x12, rfl, hb6, hR6⟩ := hI
          subst hg htb
          walk_at "pv"
          rcases hR6 with ⟨hj1, hR6⟩ | ⟨hj1, hR6⟩
          · rcases hcase with ⟨e1, e2, e3⟩ | ⟨x, e1, e2, e3⟩
            · rw [e1] at hj1
              exact absurd hj1 (Nat.not_lt_zero _)
            · have hmk : ∀ q ∈ lf B ys, q.1 ≠ (dss.length : Int) := fun q hq e => by have := (hOkF.1 q (lf_mem.mp hq).1).1; have : q.1 < (dss.length : Int) := this; omega
              rw [e1, e2, ← List.append_assoc] at hR6
              refine meth_var rfl hR6.1 rfl ?_
              walk_at "pv"
              refine ⟨r, a, b, n, _, kn, _, true, _, x, rfl, hR6, ?_, fun _ => ⟨x, find_last hmk _ _ _⟩, fun h => (by cases h), fun G7 hR7 hF7 => ⟨_, rfl, hb6.frm hF7 aw, .inr ⟨by omega, ?_⟩⟩⟩
              · rw [List.length_append]
                unfold lf
                have := List.length_filter_le (fun p : Int × Int => decide (p.1 ∉ ys)) B
                show _ + 1 ≤ 60
                omega
              · have eu : undo (lf B ys ++ [((dss.length : Int), x)]) true (dss.length : Int) x = lf B ys := dropZ_snoc hmk
                rw [eu] at hR7
                have j0 : j + 1 - pu.length = 0 := by omega
                rw [j0, List.take_zero, List.append_nil, Nat.sub_zero, List.take_of_length_le (by unfold lv; rw [List.length_map]; exact Nat.le_refl _)]
                exact hR7
          · obtain ⟨z, hzy, hz1, hz2, hz3⟩ := back_step (B := B) hyn (t := j - pu.length) (by omega)
            rw [show (lv B ys).take (ys.length - (j - pu.length)) = (lv B ys).take (ys.length - (j - pu.length + 1)) ++ [(false, z, bxo B z)] from hz1, ← List.append_assoc] at hR6
            refine meth_var rfl hR6.1 rfl ?_
            walk_at "pv"
            refine ⟨r, a, b, n, _, kn, _, false, z, bxo B z, rfl, hR6, ?_, fun h => (by cases h), fun _ => find_no (fun q hq => ?_) _ _ _, fun G7 hR7 hF7 => ⟨_, rfl, hb6.frm hF7 aw, .inr ⟨by omega, ?_⟩⟩⟩
            · have := (back_perm hPl hyn hyr).length_eq
              rw [List.length_append] at this ⊢
              rw [List.length_take]
              omega
            · rcases List.mem_append.mp hq with hq | hq
              · exact fun e => (lf_mem.mp hq).2 (e ▸ hzy)
              · exact hz3 q hq
            · have eu : undo (lf B ys ++ (bk B ys).reverse.take (j - pu.length)) false z (bxo B z) = lf B ys ++ (bk B ys).reverse.take (j - pu.length + 1) := by
                rw [hz2, ← List.append_assoc]
                rfl
              rw [eu] at hR7
              rw [show j + 1 - pu.length = j - pu.length + 1 by omega]
              exact hR7
        · obtain ⟨x12, rfl, hb6, hR6⟩ := hI
          have hR7 : RoomAt T.c_Room G' r a b ⟨n, lf B ys ++ (bk B ys).reverse, kn, cm B⟩ := by
            rcases hR6 with ⟨hj1, _⟩ | ⟨hj1, hR6⟩
            · omega
            · rw [show ys.length + pu.length - pu.length = ys.length by omega, Nat.sub_self, List.take_zero, List.append_nil, List.take_of_length_le (by rw [List.length_reverse]; unfold bk; rw [List.length_map]; exact Nat.le_refl _)] at hR6
              exact hR6
          have hpm := back_perm hPl hyn hyr
          generalize lf B ys ++ (bk B ys).reverse = LL at hR7 hpm
          have hLk : (LL.map (·.1)).Nodup := (hpm.map _).nodup_iff.mpr hPl.nodup
          have hkn : (dss.length : Int) ≤ kn := hknn
          have hOk7 : ∀ pa, Rm.Ok ⟨n, LL, kn, pa⟩ := fun pa => ⟨fun q hq => by
            have := hOkF.1 q (hpm.mem_iff.mp hq)
            exact ⟨by have h : q.1 < (dss.length : Int) := this.1; show q.1 < kn; omega, this.2⟩, hLk, hOkF.2.2⟩
          refine k1 _ _ ?_
          clear k1
          have eSL : standOf n LL = standOf n B := standOf_perm hpm fun q hq => hBr q (hpm.mem_iff.mp hq)
          refine seq_gen fun K1 k1 => ?_
          walk_at "pv"
          refine meth_var rfl hR7.1 rfl ?_
          walk_at "pv"
          refine ⟨r, a, b, _, rfl, hR7, hOk7 _, ?_⟩
          rw [show Rm.stand ⟨n, LL, kn, cm B⟩ = standOf n B from eSL]
          refine rNe_pl (tI_as _ _) (tI_as _ _) (fun _ => ?_) fun h => absurd rfl h
          walk_at "pv"
          refine ite_f rfl ?_
          clear hg htb
          refine lc_gen fun g' tt' te' P' hg htt hte hP => ?_
          walk_at "pv"
          refine iseq_of (xs := B.map pairZ) rfl fun D hD => ?_
          refine lc_allF pairZ (fun _ => .bl true) B rfl hD (small' (by omega)) (fun c hc G8 Ky Kn hsub h1 => ?_) ?_
          · subst hg htt hte
            unfold lcTurn
            dsimp only [pairZ]
            walk_at "pv"
            refine ⟨rfl, ?_⟩
            have hR8 : RoomAt T.c_Room G8 r a b ⟨n, LL, kn, cm B⟩ := ⟨hsub _ _ hR7.1, hsub _ _ hR7.2.1, hsub _ _ hR7.2.2⟩
            refine meth_var rfl hR8.1 rfl ?_
            walk_at "pv"
            refine ⟨r, a, b, _, c.1, c.2, rfl, hR8, find_mem hLk (hpm.mem_iff.mpr hc) _ _ _, ?_⟩
            walk_at "pv"
            rw [decide_eq_true rfl]
            exact h1
          subst hP
          refine rAll_true ?_
          walk_at "pv"
          refine ite_f rfl (k1 _ _ ?_)
          clear k1 hg htt hte
          refine seq_gen fun K1 k1 => ?_
          refine for_gen fun g' tb' hg htb => ?_
          walk_at "pv"
          refine rLen_seq (xs := dss.map tI) rfl ?_
          rw [List.length_map]
          refine ⟨by omega, by omega, ?_⟩
          rw [Int.toNat_natCast]
          refine for_r (fun j env G' => ∃ x12, env = [some (.ref p), some (.int n), some (.lst (dss.map tI)), some (.lst (gone.map .int)), some (.ref s), some (.int (0 + (i : Nat))), some (.ref r), some (.lst (B.map pairZ)), some (tI (standOf n B)), x9, some (tI (byDraws St (dss.take (1 : Int).toNat)).1), some (.lst ((byDraws St (dss.take (1 : Int).toNat)).2.map .int)), x12, x13] ∧ Bs G p s o2 (List.replicate i (tI St) ++ [tI St]) G' ∧ RoomAt T.c_Room G' r a b ⟨n, low LL ((dss.length - j : Nat) : Int), kn, (cm B).take (dss.length - j)⟩)
            ⟨x12, rfl, hb6, ?_⟩ (fun j env G' hj hI => ?_) fun env G' hI => ?_
          · rw [Nat.sub_zero, low_all fun q hq => (hOkF.1 q (hpm.mem_iff.mp hq)).1, List.take_of_length_le (by unfold cm; rw [List.length_map]; omega)]
            exact hR7
          · obtain ⟨x12, rfl, hb8, hR8⟩ := hI
            subst hg htb
            walk_at "pv"
            have hlt : dss.length - (j + 1) < B.length := by omega
            have hz : B[dss.length - (j + 1)]? = some B[dss.length - (j + 1)] := List.getElem?_eq_getElem hlt
            have hkey := hPl _ _ hz
            have hmem : B[dss.length - (j + 1)] ∈ B := List.getElem_mem hlt
            generalize B[dss.length - (j + 1)] = c at hz hkey hmem
            have e1 : (cm B).take (dss.length - j) = (cm B).take (dss.length - (j + 1)) ++ [(true, c.1, c.2)] := by
              have e : (cm B)[dss.length - (j + 1)]? = some (true, c.1, c.2) := by
                unfold cm
                rw [List.getElem?_map, hz]
                rfl
              rw [show dss.length - j = dss.length - (j + 1) + 1 by omega, List.take_add_one, e]
              rfl
            have e2 : ((dss.length - j : Nat) : Int) = c.1 + 1 := by omega
            rw [e1, e2] at hR8
            refine meth_var rfl hR8.1 rfl ?_
            walk_at "pv"
            refine ⟨r, a, b, n, _, kn, _, true, c.1, c.2, rfl, hR8, ?_, fun _ => ⟨c.2, ?_⟩, fun h => (by cases h), fun G9 hR9 hF9 => ⟨_, rfl, hb8.frm hF9 aw, ?_⟩⟩
            · have h1 := List.length_filter_le (fun p : Int × Int => decide (p.1 < c.1 + 1)) LL
              have h2 := hpm.length_eq
              show (List.filter _ LL).length ≤ 60
              omega
            · refine find_mem (p := c) (List.Nodup.sublist (List.Sublist.map _ List.filter_sublist) hLk) ?_ _ _ _
              exact List.mem_filter.mpr ⟨hpm.mem_iff.mpr hmem, decide_eq_true (by omega)⟩
            · rw [show undo (low LL (c.1 + 1)) true c.1 c.2 = low LL c.1 from low_drop LL c.1] at hR9
              rw [← hkey]
              exact hR9
          · obtain ⟨x12, rfl, hb8, hR8⟩ := hI
            rw [Nat.sub_self, low_none fun q hq => by
              obtain ⟨t, ht⟩ := List.getElem?_of_mem (hpm.mem_iff.mp hq)
              have := hPl t q ht
              omega] at hR8
            refine k1 _ _ ?_
            walk_at "pv"
            refine meth_var rfl hR8.1 rfl ?_
            walk_at "pv"
            refine ⟨r, a, b, _, rfl, hR8, ⟨fun q hq => (by cases hq), List.nodup_nil, hOkF.2.2⟩, ?_⟩
            refine ⟨small (show 1 ≤ 10000000 by decide), ?_⟩
            refine ⟨List.cons_ne_nil _ _, by omega, by omega, (by decide : 1 ≤ 1000), ?_⟩
            rw [zeros_tup]
            refine rNe_pl (tI_as _ (List.replicate n 0)) (tup_as _ (List.replicate n 0)) (fun _ => ?_) fun h => absurd rfl h
            walk_at "pv"
            refine ite_f rfl ?_
            exact ⟨o2, _, _, _, _, _, _, _, _, _, rfl, by rw [List.replicate_succ']; exact hb8, hP2.mono (by push_cast; omega)⟩
      walk_at "pv"
      refine ⟨Nat.zero_le _, ?_⟩
      refine rNe_pl (dss_as _ dss) (dss_as _ []) (fun e => ?_) fun e => ?_
      · have e0 : dss = [] := by
          cases dss with
          | nil => rfl
          | cons d l => cases e
        walk_at "pv"
        refine ite_f rfl ?_
        refine ite_f rfl ?_
        exact rest G4 (lf B ys) _ [] (Int.le_refl _) (by rw [List.append_nil]; exact hR4) hb4 (.inl ⟨rfl, rfl, e0⟩)
      · obtain ⟨d0, dr, e0⟩ : ∃ d0 dr, dss = d0 :: dr := by
          cases dss with
          | nil => exact absurd rfl e
          | cons d l => exact ⟨d, l, rfl⟩
        walk_at "pv"
        refine ite_t rfl ?_
        refine meth_var rfl hR4.1 rfl ?_
        walk_at "pv"
        refine rIx_seq (xs := dss.map tI) (v := tI d0) rfl (by rw [e0]; exact atI_nat (j := 0) rfl) ?_
        refine ⟨r, a, b, _, d0, rfl, hR4, hOk3, ?_, ?_, hB d0 (by rw [e0]; exact List.mem_cons_self), fun G5 hR5 hF5 => ?_⟩
        · show (lf B ys).length < 60
          unfold lf
          have := List.length_filter_le (fun p : Int × Int => decide (p.1 ∉ ys)) B
          omega
        · show (cm B ++ lv B ys).length ≤ 1000
          unfold cm lv
          rw [List.length_append, List.length_map, List.length_map]
          omega
        rw [eSt]
        refine rSl_tup ?_
        rw [cutP_drop_i (by decide)]
        show rTuple _ _ _
        have eb : (byDraws St (dss.take (1 : Int).toNat)).2 = [choose St d0] := by rw [e0]; rfl
        rw [eb]
        refine rTuple_of (xs := [.int (choose St d0)]) rfl ?_
        refine rNe_pl (tup_as _ [choose St d0]) (tup_as _ [choose St d0]) (fun _ => ?_) fun h => absurd rfl h
        walk_at "pv"
        refine ite_f rfl ?_
        have := rest G5 (lf B ys ++ [((dss.length : Int), choose St d0)]) ((dss.length : Int) + 1) [(true, (dss.length : Int), choose St d0)] (by omega) (by unfold Rm.put at hR5; rw [eSt, List.append_assoc] at hR5; exact hR5) (hb4.frm hF5 aw) (.inr ⟨_, rfl, rfl, by rw [e0]; exact List.cons_ne_nil _ _⟩)
        rw [eb] at this
        exact this
  · obtain ⟨o', x5, x6, x7, x8, x9, x10, x11, x12, x13, rfl, hbs, hP'⟩ := hI
    refine k1 _ _ ?_
    walk_at "pv"
    refine rIx_seq (ownL_of hbs.hs) (atI_nat (j := 0) rfl) (rIx_seq (ownL_of hbs.hs) (atI_nat (j := 1) rfl) ?_)
    refine rEq_pl (tI_as _ St) (tI_as _ St) (fun _ => ?_) fun h => absurd rfl h
    refine ⟨gset G p o', fun x u e => ?_, q o' (hP'.mono (by omega))⟩
    by_cases xp : x = p
    · subst xp
      rw [gset_same] at e
      rw [← e]
      exact hbs.hp
    · rw [gset_ne xp] at e
      exact hbs.hk x u xp e
end K58
end

section
namespace K58
open PySem PL
open L2 (atI ixN atI_nat upd Key)
local macro_rules | `(tactic| walk_at "pv") => `(tactic| first | dsimp only [pVar, pC, pUn, pOp, pNil, pCons, pCB, pTup, pLst, pOwn, pFrz, pDrop, pRet, pRetN, pIf, pSet, pAsg, pgName, pgNil, pgCons, pgTup, pgSub, pTb, pAnd, pOr, pNot, pAndV, pOrV, pNotV, pIfE, pCall, pNext, pISeq, pRng1, pRng2, pSl, pNoPart, pPart, pBM, pFrzT, pYes, wipeE, pgTup, pairP, pZip, pSortedR, pListRg, pRev,
  rAdd_ii, rSub_ii, rMul_ii, rFdiv_ii, rMod_ii, rPow_ii, rLt_ii, rLe_ii, rGt_ii, rGe_ii, rEq_ii, rNe_ii, rEq_ss, rNe_ss, rNeg_i, rAbs_i, rMin_ii, rMax_ii, rInt_i, rInt_b,
  List.getElem?_cons_zero, List.getElem?_cons_succ, List.set_cons_zero, List.set_cons_succ, List.length_cons, List.length_nil] | skip)
variable {P : Program} {w : World} {K : PySem.W.Frag} {mg : Str → Option Value} {base : Heap}
theorem lI_as {G : GH} (bs : List Int) : AsD G (.lst (bs.map .int)) (.lst (bs.map .int)) := AsD.of (by simp only [PV.pl, ints_pl]) (by have := ints_dep bs; simp only [PV.dep]; omega)
theorem plc_keys {B : List (Int × Int)} (h : Plc B) : B.map (·.1) = (List.range B.length).map fun (j : Nat) => (0 : Int) + j := by
  refine List.ext_getElem (by rw [List.length_map, List.length_map, List.length_range]) fun i h1 h2 => ?_
  rw [List.length_map] at h1
  rw [List.getElem_map, List.getElem_map, List.getElem_range, h i _ (List.getElem?_eq_getElem h1)]
  omega
theorem ok_law (T : Txt K mg) (C1 : Ok_by_draws P w K mg base T) (C2 : Ok_Room_stand P w K mg base T) (C3 : Ok_Room_load P w K mg base T) (C4 : Ok_l_pen P w K mg base T) (C5 : Ok_l_draw P w K mg base T) (C6 : Ok_l_draws P w K mg base T) (C7 : Ok_l_filled P w K mg base T) (C8 : Ok_l_restless P w K mg base T) (C9 : Ok_l_left_right P w K mg base T) : Ok_law P w K mg base T := by
  refine def_by T.F_law sc_law (d_law T C1 C2 C3 C4 C5 C6 C7 C8 C9) fun xs G Q Ex h => ?_
  obtain ⟨ns, rfl, hn, q⟩ := h
  refine ⟨rfl, ?_⟩
  show t_law T.c_Room _ [some (.scr ns), none, none, none, none, none, none, none, none, none, none, none] G
  unfold t_law
  refine seq_gen fun K1 k1 => ?_
  walk_at "pv"
  refine ⟨ns, rfl, fun p o hp hP => k1 _ _ ?_⟩
  clear k1
  refine seq_gen fun K1 k1 => ?_
  refine for_gen fun g' tb' hg htb => ?_
  walk_at "pv"
  refine ⟨by decide, by decide, ?_⟩
  refine for_r (fun i env G' => ∃ (o' : GO) (x2 x3 x4 x5 x6 x7 x8 x9 x10 x11 : Option PV), env = [some (.scr ns), some (.ref p), x2, x3, x4, x5, x6, x7, x8, x9, x10, x11] ∧ G' p = some o' ∧ IsPen (500 * i) o') ⟨o, none, none, none, none, none, none, none, none, none, none, rfl, gset_same, by simpa using hP⟩ (fun i env G' hi hI => ?_) fun env G' hI => ?_
  · obtain ⟨o', x2, x3, x4, x5, x6, x7, x8, x9, x10, x11, rfl, hG, hP'⟩ := hI
    have hi3 : i < 3 := hi
    subst hg htb
    walk_at "pv"
    refine seq_gen fun K1 k1 => ?_
    walk_at "pv"
    refine ⟨p, 6, _, o', rfl, by decide, by decide, hG, hP', by omega, fun r0 oa r00 r06 hPa => k1 _ _ ?_⟩
    clear k1
    obtain ⟨n, en⟩ : ∃ n : Nat, 1 + r0 = (n : Int) := ⟨(1 + r0).toNat, by omega⟩
    rw [en]
    refine seq_gen fun K1 k1 => ?_
    walk_at "pv"
    refine ⟨p, n, 30, _, oa, rfl, by omega, by omega, by decide, by decide, gset_same, hPa, by omega, fun dss oc hdl hda hd3 hPc => k1 _ _ ?_⟩
    clear k1
    rw [gset_gset]
    rw [Int.toNat_natCast] at hda
    have hGc : gset G' p oc p = some oc := gset_same
    generalize gset G' p oc = G1 at hGc
    have hdl : dss.length ≤ 30 := by omega
    have hPl := plc_balls n dss
    have hOkF := putAll_ok (n := n) (dss := dss) (by omega) hda
    have hBl := ballsOf_len dss (Rm.new n)
    obtain ⟨hb1, hb2⟩ := balls_byDraws dss (Rm.new n)
    rw [new_stand] at hb1 hb2
    refine seq_gen fun K1 k1 => ?_
    walk_at "pv"
    refine ⟨n, dss, rfl, by omega, hda, hdl, fun r a b G2 hr ha hb nab hR hF => ?_⟩
    walk_at "pv"
    refine ⟨rfl, k1 _ _ ?_⟩
    clear k1
    have hGp : G2 p = some oc := by
      rw [hF p (fun e => by rw [← e, hGc] at hr; cases hr) (fun e => by rw [← e, hGc] at ha; cases ha) (fun e => by rw [← e, hGc] at hb; cases hb)]
      exact hGc
    generalize hBB : ballsOf (Rm.new n) dss = B at hPl hBl hb1
    generalize hFF : putAll (Rm.new n) dss = F at hOkF hb2 hR
    have hFn : F.n = n := by rw [← hFF, putAll_eq]; rfl
    generalize hQQ : byDraws (List.replicate n 0) dss = A at hb1 hb2
    have hAl := byDraws_len dss (List.replicate n 0)
    rw [hQQ] at hAl
    refine seq_gen fun K1 k1 => ?_
    walk_at "pv"
    refine ⟨small (show 1 ≤ 10000000 by decide), ?_⟩
    refine ⟨List.cons_ne_nil _ _, by omega, by omega, (by decide : 1 ≤ 1000), ?_⟩
    rw [zeros_tup]
    refine ⟨List.replicate n 0, dss, rfl, by rw [List.length_replicate]; exact hda, by omega, fun b2 hb2' => ?_⟩
    rw [hQQ]
    walk_at "pv"
    rw [ownL_of gset_same, gdel_gset hb2']
    walk_at "pv"
    refine ⟨rfl, k1 _ _ ?_⟩
    clear k1
    refine seq_gen fun K1 k1 => ?_
    walk_at "pv"
    refine lc_gen fun g' tt' te' P' hg htt hte hP => ?_
    walk_at "pv"
    refine iseq_of (xs := B.map pairZ) rfl fun D hD => ?_
    refine lc_allF pairZ (fun c => .int c.2) B rfl hD (small' (by omega)) (fun c hc G8 Ky Kn hsub h1 => ?_) ?_
    · subst hg htt hte
      unfold lcTurn
      dsimp only [pairZ]
      walk_at "pv"
      exact ⟨rfl, h1⟩
    subst hP
    rw [show B.map (fun c => PV.int c.2) = A.2.map .int by rw [← hb1, List.map_map]; rfl]
    refine rNe_pl (lI_as A.2) (lI_as A.2) (fun _ => ?_) fun h => absurd rfl h
    walk_at "pv"
    refine ite_f rfl ?_
    clear hg htt hte
    refine lc_gen fun g' tt' te' P' hg htt hte hP => ?_
    walk_at "pv"
    refine iseq_of (xs := B.map pairZ) rfl fun D hD => ?_
    refine lc_allF pairZ (fun c => .int c.1) B rfl hD (small' (by omega)) (fun c hc G8 Ky Kn hsub h1 => ?_) ?_
    · subst hg htt hte
      unfold lcTurn
      dsimp only [pairZ]
      walk_at "pv"
      exact ⟨rfl, h1⟩
    subst hP
    walk_at "pv"
    refine rLen_seq (xs := dss.map tI) rfl ?_
    rw [List.length_map]
    walk_at "pv"
    refine ⟨by omega, by omega, ?_⟩
    rw [show B.map (fun c => PV.int c.1) = (B.map (·.1)).map .int by rw [List.map_map]; rfl]
    rw [show rgP 0 (dss.length : Int) = (B.map (·.1)).map .int by
      rw [plc_keys hPl, List.map_map, hBl]
      unfold rgP
      rw [show ((dss.length : Int) - 0).toNat = dss.length by omega]
      rfl]
    simp only [Bool.false_eq_true, if_false]
    refine rNe_pl (lI_as (B.map (·.1))) (lI_as (B.map (·.1))) (fun _ => ?_) fun h => absurd rfl h
    walk_at "pv"
    refine ite_f rfl (k1 _ _ ?_)
    clear k1 hg htt hte
    refine seq_gen fun K1 k1 => ?_
    walk_at "pv"
    refine meth_var rfl hR.1 rfl ?_
    walk_at "pv"
    refine ⟨r, a, b, _, rfl, hR, hOkF, ?_⟩
    rw [hb2]
    refine rNe_pl (tI_as _ A.1) (tI_as _ A.1) (fun _ => ?_) fun h => absurd rfl h
    walk_at "pv"
    refine ite_f rfl ?_
    refine meth_var rfl hR.1 rfl ?_
    walk_at "pv"
    refine ⟨r, a, b, _, rfl, hR, hOkF, ?_⟩
    rw [hb2]
    refine rSortedR_of (ns := A.1) rfl ?_
    refine rTuple_of rfl ?_
    refine rNe_pl (tI_as _ (sortD A.1)) (tI_as _ (sortD A.1)) (fun _ => ?_) fun h => absurd rfl h
    walk_at "pv"
    refine ite_f rfl (k1 _ _ ?_)
    clear k1
    refine seq_gen fun K1 k1 => ?_
    walk_at "pv"
    refine ⟨n, dss, rfl, by omega, hda, hdl, ?_⟩
    rw [hQQ]
    refine rNe_pl (lI_as A.2) (lI_as A.2) (fun _ => ?_) fun h => absurd rfl h
    walk_at "pv"
    refine ite_f rfl (k1 _ _ ?_)
    clear k1
    refine seq_gen fun K1 k1 => ?_
    unfold pSet
    refine lc_gen fun g' tt' te' P' hg htt hte hP => ?_
    walk_at "pv"
    refine rLen_seq (xs := dss.map tI) rfl ?_
    rw [List.length_map]
    refine ⟨by omega, by omega, fun D hD => ?_⟩
    rw [Int.toNat_natCast]
    have pD : p ≠ D := gne hGp hD
    refine lc_invF dss.length (fun j acc G8 => ∃ (gs : List Int) (o8 : GO), acc = gs.map .int ∧ gs.Nodup ∧ (∀ z ∈ gs, 0 ≤ z ∧ z < (j : Int)) ∧ G8 p = some o8 ∧ IsPen (500 * i + 301 + j) o8) (small' (by omega)) ⟨[], oc, rfl, List.nodup_nil, fun z hz => (by cases hz), by rw [gset_ne pD]; exact hGp, hPc.mono (by omega)⟩ (fun j acc G8 Ky Kn hj hS hGD hle h1 h2 => ?_) fun acc G8 hS hGD => ⟨Nat.le_refl _, ?_⟩
    · obtain ⟨gs, o8, rfl, g1, g2, g3, g4⟩ := hS
      refine ⟨_, itR_item hj, ?_⟩
      subst hg htt hte
      unfold lcTurn
      walk_at "pv"
      refine ⟨p, 2, _, o8, rfl, by decide, by decide, g3, g4, by omega, fun r1 o9 r10 r11 hP9 => ?_⟩
      have hDD : gset G8 p o9 D = some (.lst (gs.map .int)) := by rw [gset_ne (Ne.symm pD)]; exact hGD
      walk_at "pv"
      refine ite_dec (fun c => h1 _ _ hDD ⟨gs ++ [(0 + (j : Nat) : Int)], o9, by rw [List.map_append]; rfl, ?_, fun z hz => ?_, by rw [gset_ne pD, gset_same], hP9.mono (by push_cast; omega)⟩) fun c => h2 _ hDD ⟨gs, o9, rfl, g1, fun z hz => by have := g2 z hz; push_cast; omega, gset_same, hP9.mono (by push_cast; omega)⟩
      · rw [List.nodup_append]
        refine ⟨g1, by simp, fun x hx y hy e => ?_⟩
        have := g2 x hx
        have ey : y = 0 + (j : Int) := by simpa using hy
        omega
      · rcases List.mem_append.mp hz with hz | hz
        · have := g2 z hz
          push_cast
          omega
        · have ey : z = 0 + (j : Int) := by simpa using hz
          push_cast
          omega
    obtain ⟨gs, o8, rfl, g1, g2, g3, g4⟩ := hS
    subst hP
    refine k1 _ _ ?_
    clear k1 hg htt hte
    walk_at "pv"
    refine ⟨p, n, dss, gs, _, o8, rfl, by omega, by omega, hda, hdl, g1, g2, by rw [gdel_ne pD]; exact g3, g4, by omega, fun o9 hP9 => ?_⟩
    walk_at "pv"
    refine ite_f rfl ?_
    exact ⟨o9, _, _, _, _, _, _, _, _, _, _, rfl, gset_same, hP9.mono (by push_cast; omega)⟩
  · refine k1 _ _ ?_
    obtain ⟨o', x2, x3, x4, x5, x6, x7, x8, x9, x10, x11, rfl, hG, hP'⟩ := hI
    walk_at "pv"
    exact q _
end K58
end
namespace K58
open PySem PySem.Spec PyProof.Rows L2 RZ PL
theorem all_mk {K : PySem.W.Frag} {h : Heap} {mg : Str → Option Value} (X : K.In h) (G : h.Ns mainGlobals mg) {Goal : Prop} (k : ∀ T : Txt K mg, (∀ (s : Shared) (v : Value), BindsTo s T.fd_law ⟨[v], []⟩ [("_law_script", v)]) → Goal)
    {q_Room : Addr} (g_Room : PySem.W.nsIn K mainGlobals "Room" = some (some (.ref q_Room))) (pg_Room : PySem.W.plainGet K q_Room Str.empty = true) (hd_Room : PySem.W.hasDictIn K q_Room = true) (po_Room : PySem.W.plainOver K q_Room = true) (sa_Room : PySem.W.findIn K (.ref q_Room) "__setattr__" = some (some (.builtin "object.__setattr__"))) (mk_Room : PySem.W.makesIn K q_Room = true) (kc_Room : PySem.W.keepIn K (.ref q_Room) = true)
    {f0 : Addr} {od0 an0 : Option Addr} {sl0 : Array (Option Value)} {oc0 kV0 dc0 pm0 cd0 ct0 : Value} (a0 : PySem.W.nsIn K mainGlobals "chosen" = some (some (.ref f0))) (l0 : K.lookup f0 = some ⟨oc0, od0, .func (PySem.W.fnOf "chosen" "chosen" (defArgs s_chosen) (defBody s_chosen) (defScope s_chosen) .none kV0 dc0 pm0 an0 cd0 ct0), sl0⟩) (c0 : PySem.W.codeIn K cd0 "chosen" = true) (k0 : PySem.W.keepIn K (.ref f0) = true)
    {f1 : Addr} {od1 an1 : Option Addr} {sl1 : Array (Option Value)} {oc1 kV1 dc1 pm1 cd1 ct1 : Value} (a1 : PySem.W.nsIn K mainGlobals "by_draws" = some (some (.ref f1))) (l1 : K.lookup f1 = some ⟨oc1, od1, .func (PySem.W.fnOf "by_draws" "by_draws" (defArgs s_by_draws) (defBody s_by_draws) (defScope s_by_draws) .none kV1 dc1 pm1 an1 cd1 ct1), sl1⟩) (c1 : PySem.W.codeIn K cd1 "by_draws" = true) (k1 : PySem.W.keepIn K (.ref f1) = true)
    {f2 : Addr} {od2 an2 : Option Addr} {sl2 : Array (Option Value)} {oc2 kV2 dc2 pm2 cd2 ct2 : Value} (a2 : PySem.W.nsIn K mainGlobals "is_whole" = some (some (.ref f2))) (l2 : K.lookup f2 = some ⟨oc2, od2, .func (PySem.W.fnOf "is_whole" "is_whole" (defArgs s_is_whole) (defBody s_is_whole) (defScope s_is_whole) .none kV2 dc2 pm2 an2 cd2 ct2), sl2⟩) (c2 : PySem.W.codeIn K cd2 "is_whole" = true) (k2 : PySem.W.keepIn K (.ref f2) = true)
    {f3 : Addr} {od3 an3 : Option Addr} {sl3 : Array (Option Value)} {oc3 kV3 dc3 pm3 cd3 ct3 : Value} (a3 : PySem.W.nsIn K mainGlobals "sorted_load" = some (some (.ref f3))) (l3 : K.lookup f3 = some ⟨oc3, od3, .func (PySem.W.fnOf "sorted_load" "sorted_load" (defArgs s_sorted_load) (defBody s_sorted_load) (defScope s_sorted_load) .none kV3 dc3 pm3 an3 cd3 ct3), sl3⟩) (c3 : PySem.W.codeIn K cd3 "sorted_load" = true) (k3 : PySem.W.keepIn K (.ref f3) = true)
    {f4 : Addr} {od4 an4 : Option Addr} {sl4 : Array (Option Value)} {oc4 kV4 dc4 pm4 cd4 ct4 : Value} (a4 : PySem.W.findIn K (.ref q_Room) "__init__" = some (some (.ref f4))) (i4 : PySem.W.isFn K (.ref f4) = true) (l4 : K.lookup f4 = some ⟨oc4, od4, .func (PySem.W.fnOf "__init__" "Room.__init__" (defArgs s_Room___init__) (defBody s_Room___init__) (defScope s_Room___init__) .none kV4 dc4 pm4 an4 cd4 ct4), sl4⟩) (c4 : PySem.W.codeIn K cd4 "Room.__init__" = true) (k4 : PySem.W.keepIn K (.ref f4) = true)
    {f5 : Addr} {od5 an5 : Option Addr} {sl5 : Array (Option Value)} {oc5 kV5 dc5 pm5 cd5 ct5 : Value} (a5 : PySem.W.findIn K (.ref q_Room) "put" = some (some (.ref f5))) (i5 : PySem.W.isFn K (.ref f5) = true) (l5 : K.lookup f5 = some ⟨oc5, od5, .func (PySem.W.fnOf "put" "Room.put" (defArgs s_Room_put) (defBody s_Room_put) (defScope s_Room_put) .none kV5 dc5 pm5 an5 cd5 ct5), sl5⟩) (c5 : PySem.W.codeIn K cd5 "Room.put" = true) (k5 : PySem.W.keepIn K (.ref f5) = true)
    {f6 : Addr} {od6 an6 : Option Addr} {sl6 : Array (Option Value)} {oc6 kV6 dc6 pm6 cd6 ct6 : Value} (a6 : PySem.W.findIn K (.ref q_Room) "where" = some (some (.ref f6))) (i6 : PySem.W.isFn K (.ref f6) = true) (l6 : K.lookup f6 = some ⟨oc6, od6, .func (PySem.W.fnOf "where" "Room.where" (defArgs s_Room_where) (defBody s_Room_where) (defScope s_Room_where) .none kV6 dc6 pm6 an6 cd6 ct6), sl6⟩) (c6 : PySem.W.codeIn K cd6 "Room.where" = true) (k6 : PySem.W.keepIn K (.ref f6) = true)
    {f7 : Addr} {od7 an7 : Option Addr} {sl7 : Array (Option Value)} {oc7 kV7 dc7 pm7 cd7 ct7 : Value} (a7 : PySem.W.findIn K (.ref q_Room) "leave" = some (some (.ref f7))) (i7 : PySem.W.isFn K (.ref f7) = true) (l7 : K.lookup f7 = some ⟨oc7, od7, .func (PySem.W.fnOf "leave" "Room.leave" (defArgs s_Room_leave) (defBody s_Room_leave) (defScope s_Room_leave) .none kV7 dc7 pm7 an7 cd7 ct7), sl7⟩) (c7 : PySem.W.codeIn K cd7 "Room.leave" = true) (k7 : PySem.W.keepIn K (.ref f7) = true)
    {f8 : Addr} {od8 an8 : Option Addr} {sl8 : Array (Option Value)} {oc8 kV8 dc8 pm8 cd8 ct8 : Value} (a8 : PySem.W.findIn K (.ref q_Room) "back" = some (some (.ref f8))) (i8 : PySem.W.isFn K (.ref f8) = true) (l8 : K.lookup f8 = some ⟨oc8, od8, .func (PySem.W.fnOf "back" "Room.back" (defArgs s_Room_back) (defBody s_Room_back) (defScope s_Room_back) .none kV8 dc8 pm8 an8 cd8 ct8), sl8⟩) (c8 : PySem.W.codeIn K cd8 "Room.back" = true) (k8 : PySem.W.keepIn K (.ref f8) = true)
    {f9 : Addr} {od9 an9 : Option Addr} {sl9 : Array (Option Value)} {oc9 kV9 dc9 pm9 cd9 ct9 : Value} (a9 : PySem.W.findIn K (.ref q_Room) "stand" = some (some (.ref f9))) (i9 : PySem.W.isFn K (.ref f9) = true) (l9 : K.lookup f9 = some ⟨oc9, od9, .func (PySem.W.fnOf "stand" "Room.stand" (defArgs s_Room_stand) (defBody s_Room_stand) (defScope s_Room_stand) .none kV9 dc9 pm9 an9 cd9 ct9), sl9⟩) (c9 : PySem.W.codeIn K cd9 "Room.stand" = true) (k9 : PySem.W.keepIn K (.ref f9) = true)
    {f10 : Addr} {od10 an10 : Option Addr} {sl10 : Array (Option Value)} {oc10 kV10 dc10 pm10 cd10 ct10 : Value} (a10 : PySem.W.findIn K (.ref q_Room) "load" = some (some (.ref f10))) (i10 : PySem.W.isFn K (.ref f10) = true) (l10 : K.lookup f10 = some ⟨oc10, od10, .func (PySem.W.fnOf "load" "Room.load" (defArgs s_Room_load) (defBody s_Room_load) (defScope s_Room_load) .none kV10 dc10 pm10 an10 cd10 ct10), sl10⟩) (c10 : PySem.W.codeIn K cd10 "Room.load" = true) (k10 : PySem.W.keepIn K (.ref f10) = true)
    {f11 : Addr} {od11 an11 : Option Addr} {sl11 : Array (Option Value)} {oc11 kV11 dc11 pm11 cd11 ct11 : Value} (a11 : PySem.W.nsIn K mainGlobals "_law_pen" = some (some (.ref f11))) (l11 : K.lookup f11 = some ⟨oc11, od11, .func (PySem.W.fnOf "_law_pen" "_law_pen" (defArgs s_l_pen) (defBody s_l_pen) (defScope s_l_pen) .none kV11 dc11 pm11 an11 cd11 ct11), sl11⟩) (c11 : PySem.W.codeIn K cd11 "_law_pen" = true) (k11 : PySem.W.keepIn K (.ref f11) = true)
    {f12 : Addr} {od12 an12 : Option Addr} {sl12 : Array (Option Value)} {oc12 kV12 dc12 pm12 cd12 ct12 : Value} (a12 : PySem.W.nsIn K mainGlobals "_law_draw" = some (some (.ref f12))) (l12 : K.lookup f12 = some ⟨oc12, od12, .func (PySem.W.fnOf "_law_draw" "_law_draw" (defArgs s_l_draw) (defBody s_l_draw) (defScope s_l_draw) .none kV12 dc12 pm12 an12 cd12 ct12), sl12⟩) (c12 : PySem.W.codeIn K cd12 "_law_draw" = true) (k12 : PySem.W.keepIn K (.ref f12) = true)
    {f13 : Addr} {od13 an13 : Option Addr} {sl13 : Array (Option Value)} {oc13 kV13 dc13 pm13 cd13 ct13 : Value} (a13 : PySem.W.nsIn K mainGlobals "_law_draws" = some (some (.ref f13))) (l13 : K.lookup f13 = some ⟨oc13, od13, .func (PySem.W.fnOf "_law_draws" "_law_draws" (defArgs s_l_draws) (defBody s_l_draws) (defScope s_l_draws) .none kV13 dc13 pm13 an13 cd13 ct13), sl13⟩) (c13 : PySem.W.codeIn K cd13 "_law_draws" = true) (k13 : PySem.W.keepIn K (.ref f13) = true)
    {f14 : Addr} {od14 an14 : Option Addr} {sl14 : Array (Option Value)} {oc14 kV14 dc14 pm14 cd14 ct14 : Value} (a14 : PySem.W.nsIn K mainGlobals "_law_order" = some (some (.ref f14))) (l14 : K.lookup f14 = some ⟨oc14, od14, .func (PySem.W.fnOf "_law_order" "_law_order" (defArgs s_l_order) (defBody s_l_order) (defScope s_l_order) .none kV14 dc14 pm14 an14 cd14 ct14), sl14⟩) (c14 : PySem.W.codeIn K cd14 "_law_order" = true) (k14 : PySem.W.keepIn K (.ref f14) = true)
    {f15 : Addr} {od15 an15 : Option Addr} {sl15 : Array (Option Value)} {oc15 kV15 dc15 pm15 cd15 ct15 : Value} (a15 : PySem.W.nsIn K mainGlobals "_law_filled" = some (some (.ref f15))) (l15 : K.lookup f15 = some ⟨oc15, od15, .func (PySem.W.fnOf "_law_filled" "_law_filled" (defArgs s_l_filled) (defBody s_l_filled) (defScope s_l_filled) .none kV15 dc15 pm15 an15 cd15 ct15), sl15⟩) (c15 : PySem.W.codeIn K cd15 "_law_filled" = true) (k15 : PySem.W.keepIn K (.ref f15) = true)
    {f16 : Addr} {od16 an16 : Option Addr} {sl16 : Array (Option Value)} {oc16 kV16 dc16 pm16 cd16 ct16 : Value} (a16 : PySem.W.nsIn K mainGlobals "_law_restless" = some (some (.ref f16))) (l16 : K.lookup f16 = some ⟨oc16, od16, .func (PySem.W.fnOf "_law_restless" "_law_restless" (defArgs s_l_restless) (defBody s_l_restless) (defScope s_l_restless) .none kV16 dc16 pm16 an16 cd16 ct16), sl16⟩) (c16 : PySem.W.codeIn K cd16 "_law_restless" = true) (k16 : PySem.W.keepIn K (.ref f16) = true)
    {f17 : Addr} {od17 an17 : Option Addr} {sl17 : Array (Option Value)} {oc17 kV17 dc17 pm17 cd17 ct17 : Value} (a17 : PySem.W.nsIn K mainGlobals "_law_left_right" = some (some (.ref f17))) (l17 : K.lookup f17 = some ⟨oc17, od17, .func (PySem.W.fnOf "_law_left_right" "_law_left_right" (defArgs s_l_left_right) (defBody s_l_left_right) (defScope s_l_left_right) .none kV17 dc17 pm17 an17 cd17 ct17), sl17⟩) (c17 : PySem.W.codeIn K cd17 "_law_left_right" = true) (k17 : PySem.W.keepIn K (.ref f17) = true)
    {f18 : Addr} {od18 an18 : Option Addr} {sl18 : Array (Option Value)} {oc18 kV18 dc18 pm18 cd18 ct18 : Value} (a18 : PySem.W.nsIn K mainGlobals "law" = some (some (.ref f18))) (l18 : K.lookup f18 = some ⟨oc18, od18, .func (PySem.W.fnOf "law" "law" (defArgs s_law) (defBody s_law) (defScope s_law) .none kV18 dc18 pm18 an18 cd18 ct18), sl18⟩) (c18 : PySem.W.codeIn K cd18 "law" = true) (k18 : PySem.W.keepIn K (.ref f18) = true)
    (na_Room_known : PySem.W.findIn K (.ref q_Room) "known" = some none)
    (na_Room_lying : PySem.W.findIn K (.ref q_Room) "lying" = some none)
    (na_Room_many : PySem.W.findIn K (.ref q_Room) "many" = some none)
    (na_Room_past : PySem.W.findIn K (.ref q_Room) "past" = some none)
    {vt_MOST_BALLS : Tok} (v_MOST_BALLS : PySem.W.nsIn K mainGlobals "MOST_BALLS" = some (some (.int 60 vt_MOST_BALLS)))
    (z_abs : PySem.W.nsIn K mainGlobals "abs" = some none)
    (z_all : PySem.W.nsIn K mainGlobals "all" = some none)
    (z_bool : PySem.W.nsIn K mainGlobals "bool" = some none)
    (z_int : PySem.W.nsIn K mainGlobals "int" = some none)
    (z_isinstance : PySem.W.nsIn K mainGlobals "isinstance" = some none)
    (z_len : PySem.W.nsIn K mainGlobals "len" = some none)
    (z_list : PySem.W.nsIn K mainGlobals "list" = some none)
    (z_range : PySem.W.nsIn K mainGlobals "range" = some none)
    (z_sorted : PySem.W.nsIn K mainGlobals "sorted" = some none)
    (z_tuple : PySem.W.nsIn K mainGlobals "tuple" = some none)
    : Goal :=
  k {
    c_Room := q_Room, m_Room := PySem.W.mg_of X G g_Room, cl_Room := ⟨pg_Room, hd_Room, po_Room, sa_Room⟩,
    a_chosen := f0, fd_chosen := _, F_chosen := fun_mk l0 c0 k0, b_chosen := (fun_mk (st := s_chosen) l0 c0 k0).binds (ps := ["stand", "draw"]) fun _ _ _ _ _ _ us hl => match us, hl with | [_, _], _ => rfl,
    m_chosen := PySem.W.mg_of X G a0,
    a_by_draws := f1, fd_by_draws := _, F_by_draws := fun_mk l1 c1 k1, b_by_draws := (fun_mk (st := s_by_draws) l1 c1 k1).binds (ps := ["stand", "draws"]) fun _ _ _ _ _ _ us hl => match us, hl with | [_, _], _ => rfl,
    m_by_draws := PySem.W.mg_of X G a1,
    a_is_whole := f2, fd_is_whole := _, F_is_whole := fun_mk l2 c2 k2, b_is_whole := (fun_mk (st := s_is_whole) l2 c2 k2).binds (ps := ["thing"]) fun _ _ _ _ _ _ us hl => match us, hl with | [_], _ => rfl,
    m_is_whole := PySem.W.mg_of X G a2,
    a_sorted_load := f3, fd_sorted_load := _, F_sorted_load := fun_mk l3 c3 k3, b_sorted_load := (fun_mk (st := s_sorted_load) l3 c3 k3).binds (ps := ["numbers"]) fun _ _ _ _ _ _ us hl => match us, hl with | [_], _ => rfl,
    m_sorted_load := PySem.W.mg_of X G a3,
    a_Room___init__ := f4, fd_Room___init__ := _, F_Room___init__ := fun_mk l4 c4 k4, b_Room___init__ := (fun_mk (st := s_Room___init__) l4 c4 k4).binds (ps := ["self", "n"]) fun _ _ _ _ _ _ us hl => match us, hl with | [_, _], _ => rfl,
    mk_Room := ⟨mk_Room, a4, i4, kc_Room⟩,
    a_Room_put := f5, fd_Room_put := _, F_Room_put := fun_mk l5 c5 k5, b_Room_put := (fun_mk (st := s_Room_put) l5 c5 k5).binds (ps := ["self", "draw"]) fun _ _ _ _ _ _ us hl => match us, hl with | [_, _], _ => rfl,
    me_Room_put := ⟨a5, i5, k5⟩,
    a_Room_where := f6, fd_Room_where := _, F_Room_where := fun_mk l6 c6 k6, b_Room_where := (fun_mk (st := s_Room_where) l6 c6 k6).binds (ps := ["self", "ball"]) fun _ _ _ _ _ _ us hl => match us, hl with | [_, _], _ => rfl,
    me_Room_where := ⟨a6, i6, k6⟩,
    a_Room_leave := f7, fd_Room_leave := _, F_Room_leave := fun_mk l7 c7 k7, b_Room_leave := (fun_mk (st := s_Room_leave) l7 c7 k7).binds (ps := ["self", "ball"]) fun _ _ _ _ _ _ us hl => match us, hl with | [_, _], _ => rfl,
    me_Room_leave := ⟨a7, i7, k7⟩,
    a_Room_back := f8, fd_Room_back := _, F_Room_back := fun_mk l8 c8 k8, b_Room_back := (fun_mk (st := s_Room_back) l8 c8 k8).binds (ps := ["self"]) fun _ _ _ _ _ _ us hl => match us, hl with | [_], _ => rfl,
    me_Room_back := ⟨a8, i8, k8⟩,
    a_Room_stand := f9, fd_Room_stand := _, F_Room_stand := fun_mk l9 c9 k9, b_Room_stand := (fun_mk (st := s_Room_stand) l9 c9 k9).binds (ps := ["self"]) fun _ _ _ _ _ _ us hl => match us, hl with | [_], _ => rfl,
    me_Room_stand := ⟨a9, i9, k9⟩,
    a_Room_load := f10, fd_Room_load := _, F_Room_load := fun_mk l10 c10 k10, b_Room_load := (fun_mk (st := s_Room_load) l10 c10 k10).binds (ps := ["self"]) fun _ _ _ _ _ _ us hl => match us, hl with | [_], _ => rfl,
    me_Room_load := ⟨a10, i10, k10⟩,
    a_l_pen := f11, fd_l_pen := _, F_l_pen := fun_mk l11 c11 k11, b_l_pen := (fun_mk (st := s_l_pen) l11 c11 k11).binds (ps := ["_law_script"]) fun _ _ _ _ _ _ us hl => match us, hl with | [_], _ => rfl,
    m_l_pen := PySem.W.mg_of X G a11,
    a_l_draw := f12, fd_l_draw := _, F_l_draw := fun_mk l12 c12 k12, b_l_draw := (fun_mk (st := s_l_draw) l12 c12 k12).binds (ps := ["_law_pen_here", "_law_many"]) fun _ _ _ _ _ _ us hl => match us, hl with | [_, _], _ => rfl,
    m_l_draw := PySem.W.mg_of X G a12,
    a_l_draws := f13, fd_l_draws := _, F_l_draws := fun_mk l13 c13 k13, b_l_draws := (fun_mk (st := s_l_draws) l13 c13 k13).binds (ps := ["_law_pen_here", "_law_n", "_law_most"]) fun _ _ _ _ _ _ us hl => match us, hl with | [_, _, _], _ => rfl,
    m_l_draws := PySem.W.mg_of X G a13,
    a_l_order := f14, fd_l_order := _, F_l_order := fun_mk l14 c14 k14, b_l_order := (fun_mk (st := s_l_order) l14 c14 k14).binds (ps := ["_law_pen_here", "_law_some"]) fun _ _ _ _ _ _ us hl => match us, hl with | [_, _], _ => rfl,
    m_l_order := PySem.W.mg_of X G a14,
    a_l_filled := f15, fd_l_filled := _, F_l_filled := fun_mk l15 c15 k15, b_l_filled := (fun_mk (st := s_l_filled) l15 c15 k15).binds (ps := ["_law_n", "_law_draws_here"]) fun _ _ _ _ _ _ us hl => match us, hl with | [_, _], _ => rfl,
    m_l_filled := PySem.W.mg_of X G a15,
    a_l_restless := f16, fd_l_restless := _, F_l_restless := fun_mk l16 c16 k16, b_l_restless := (fun_mk (st := s_l_restless) l16 c16 k16).binds (ps := ["_law_n", "_law_draws_here"]) fun _ _ _ _ _ _ us hl => match us, hl with | [_, _], _ => rfl,
    m_l_restless := PySem.W.mg_of X G a16,
    a_l_left_right := f17, fd_l_left_right := _, F_l_left_right := fun_mk l17 c17 k17, b_l_left_right := (fun_mk (st := s_l_left_right) l17 c17 k17).binds (ps := ["_law_pen_here", "_law_n", "_law_draws_here", "_law_gone"]) fun _ _ _ _ _ _ us hl => match us, hl with | [_, _, _, _], _ => rfl,
    m_l_left_right := PySem.W.mg_of X G a17,
    a_law := f18, fd_law := _, F_law := fun_mk l18 c18 k18, b_law := (fun_mk (st := s_law) l18 c18 k18).binds (ps := ["_law_script"]) fun _ _ _ _ _ _ us hl => match us, hl with | [_], _ => rfl,
    m_law := PySem.W.mg_of X G a18,
    na_Room_known := na_Room_known,
    na_Room_lying := na_Room_lying,
    na_Room_many := na_Room_many,
    na_Room_past := na_Room_past,
    v_MOST_BALLS := ⟨_, PySem.W.mg_of X G v_MOST_BALLS⟩,
    z_abs := PySem.W.mg_none_of X G z_abs,
    z_all := PySem.W.mg_none_of X G z_all,
    z_bool := PySem.W.mg_none_of X G z_bool,
    z_int := PySem.W.mg_none_of X G z_int,
    z_isinstance := PySem.W.mg_none_of X G z_isinstance,
    z_len := PySem.W.mg_none_of X G z_len,
    z_list := PySem.W.mg_none_of X G z_list,
    z_range := PySem.W.mg_none_of X G z_range,
    z_sorted := PySem.W.mg_none_of X G z_sorted,
    z_tuple := PySem.W.mg_none_of X G z_tuple } fun s v => .of_eq rfl

theorem fin {P : Program} {w : World} {K : PySem.W.Frag} {mg : Str → Option Value} {base : Heap} (T : Txt K mg) : Ok_law P w K mg base T :=
  have h_chosen : Ok_chosen P w K mg base T := ok_chosen T
  have h_is_whole : Ok_is_whole P w K mg base T := ok_is_whole T
  have h_sorted_load : Ok_sorted_load P w K mg base T := ok_sorted_load T
  have h_Room___init__ : Ok_Room___init__ P w K mg base T := ok_Room___init__ T
  have h_Room_back : Ok_Room_back P w K mg base T := ok_Room_back T
  have h_Room_stand : Ok_Room_stand P w K mg base T := ok_Room_stand T
  have h_l_pen : Ok_l_pen P w K mg base T := ok_l_pen T
  have h_l_draw : Ok_l_draw P w K mg base T := ok_l_draw T
  have h_by_draws : Ok_by_draws P w K mg base T := ok_by_draws T h_chosen
  have h_Room_put : Ok_Room_put P w K mg base T := ok_Room_put T h_chosen h_Room_stand
  have h_Room_where : Ok_Room_where P w K mg base T := ok_Room_where T h_is_whole
  have h_Room_load : Ok_Room_load P w K mg base T := ok_Room_load T h_sorted_load h_Room_stand
  have h_l_draws : Ok_l_draws P w K mg base T := ok_l_draws T h_l_draw
  have h_l_order : Ok_l_order P w K mg base T := ok_l_order T h_l_draw
  have h_Room_leave : Ok_Room_leave P w K mg base T := ok_Room_leave T h_Room_where
  have h_l_filled : Ok_l_filled P w K mg base T := ok_l_filled T h_Room___init__ h_Room_put
  have h_l_restless : Ok_l_restless P w K mg base T := ok_l_restless T h_Room___init__ h_Room_put h_Room_leave h_Room_back
  have h_l_left_right : Ok_l_left_right P w K mg base T := ok_l_left_right T h_by_draws h_Room_put h_Room_where h_Room_leave h_Room_back h_Room_stand h_l_order h_l_filled
  have h_law : Ok_law P w K mg base T := ok_law T h_by_draws h_Room_stand h_Room_load h_l_pen h_l_draw h_l_draws h_l_filled h_l_restless h_l_left_right
  h_law

end K58
set_option maxHeartbeats 0 in
theorem PySem.Challenge.cw_emptierbox_k58_whole_rooms_and_draws_holds : PySem.Challenge.rw_emptierbox_k58_whole_rooms_and_draws.Holds := by
  w_on; o_law; k_head; (case hw => w_witness2)
  k_fill
  refine PL.walk_ofG (l := PySem.Challenge.rw_emptierbox_k58_whole_rooms_and_draws) (n := 63) (k := 5) (x := "_law_script") rfl (by decide) rfl ⟨rfl, by decide, by decide⟩ (fun w h Y => PySem.W.kIn_of Y) ?F
  case F =>
    intro w mg fa h KX G hmg
    refine' K58.all_mk KX G (fun T hb => ?fin) ?g_Room ?pg_Room ?hd_Room ?po_Room ?sa_Room ?mk_Room ?kc_Room ?a0 ?l0 ?c0 ?k0 ?a1 ?l1 ?c1 ?k1 ?a2 ?l2 ?c2 ?k2 ?a3 ?l3 ?c3 ?k3 ?a4 ?i4 ?l4 ?c4 ?k4 ?a5 ?i5 ?l5 ?c5 ?k5 ?a6 ?i6 ?l6 ?c6 ?k6 ?a7 ?i7 ?l7 ?c7 ?k7 ?a8 ?i8 ?l8 ?c8 ?k8 ?a9 ?i9 ?l9 ?c9 ?k9 ?a10 ?i10 ?l10 ?c10 ?k10 ?a11 ?l11 ?c11 ?k11 ?a12 ?l12 ?c12 ?k12 ?a13 ?l13 ?c13 ?k13 ?a14 ?l14 ?c14 ?k14 ?a15 ?l15 ?c15 ?k15 ?a16 ?l16 ?c16 ?k16 ?a17 ?l17 ?c17 ?k17 ?a18 ?l18 ?c18 ?k18 ?na_Room_known ?na_Room_lying ?na_Room_many ?na_Room_past ?v_MOST_BALLS ?z_abs ?z_all ?z_bool ?z_int ?z_isinstance ?z_len ?z_list ?z_range ?z_sorted ?z_tuple
    (case fin =>
      have e2 := T.m_law.symm.trans hmg
      cases e2
      exact ⟨T.fd_law, hb, fun base KB GB => K58.fin T⟩)
    (case g_Room => k_is); (case pg_Room => k_is); (case hd_Room => k_is); (case po_Room => k_is); (case sa_Room => k_is); (case mk_Room => k_is); (case kc_Room => k_is); (case a0 => k_is); (case l0 => k_is); (case c0 => k_is); (case k0 => k_is); (case a1 => k_is); (case l1 => k_is); (case c1 => k_is); (case k1 => k_is); (case a2 => k_is); (case l2 => k_is); (case c2 => k_is); (case k2 => k_is); (case a3 => k_is); (case l3 => k_is); (case c3 => k_is); (case k3 => k_is); (case a4 => k_is); (case i4 => k_is); (case l4 => k_is); (case c4 => k_is); (case k4 => k_is); (case a5 => k_is); (case i5 => k_is); (case l5 => k_is); (case c5 => k_is); (case k5 => k_is); (case a6 => k_is); (case i6 => k_is); (case l6 => k_is); (case c6 => k_is); (case k6 => k_is); (case a7 => k_is); (case i7 => k_is); (case l7 => k_is); (case c7 => k_is); (case k7 => k_is); (case a8 => k_is); (case i8 => k_is); (case l8 => k_is); (case c8 => k_is); (case k8 => k_is); (case a9 => k_is); (case i9 => k_is); (case l9 => k_is); (case c9 => k_is); (case k9 => k_is); (case a10 => k_is); (case i10 => k_is); (case l10 => k_is); (case c10 => k_is); (case k10 => k_is); (case a11 => k_is); (case l11 => k_is); (case c11 => k_is); (case k11 => k_is); (case a12 => k_is); (case l12 => k_is); (case c12 => k_is); (case k12 => k_is); (case a13 => k_is); (case l13 => k_is); (case c13 => k_is); (case k13 => k_is); (case a14 => k_is); (case l14 => k_is); (case c14 => k_is); (case k14 => k_is); (case a15 => k_is); (case l15 => k_is); (case c15 => k_is); (case k15 => k_is); (case a16 => k_is); (case l16 => k_is); (case c16 => k_is); (case k16 => k_is); (case a17 => k_is); (case l17 => k_is); (case c17 => k_is); (case k17 => k_is); (case a18 => k_is); (case l18 => k_is); (case c18 => k_is); (case k18 => k_is); (case na_Room_known => k_is); (case na_Room_lying => k_is); (case na_Room_many => k_is); (case na_Room_past => k_is); (case v_MOST_BALLS => k_is); (case z_abs => k_is); (case z_all => k_is); (case z_bool => k_is); (case z_int => k_is); (case z_isinstance => k_is); (case z_len => k_is); (case z_list => k_is); (case z_range => k_is); (case z_sorted => k_is); (case z_tuple => k_is)

