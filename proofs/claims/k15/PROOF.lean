import PyProof.Rows.All
import Wide.All
import OpenK.AllK
import Wide.FinOn
import HandS.ForMost
import HandS.Exc
import HandS.ExcOwn
import HandS.WordsExc
import HandS.CallSlots
import HandS.Wide
import HandS.TupAny
import HandS.IsInst
import HandS.Comp
import HandS.Style
import KE.GoesNew
import HandS.Iter
import HandS.ExcInit
import HandS.ExcField
import HandS.TryOnly
import KE.KExcIs
import HandS.Text
import HandS.Flow
import HandS.RaiseMore
import HandS.EndBits
import PySem.Challenge.RW_alwayslines_k15_rows_of_numbers
set_option Elab.async false
set_option linter.all false
set_option autoImplicit false
set_option maxRecDepth 100000
set_option maxHeartbeats 4000000
/-! Own layer, part 1: plain values, cells, how a heap bears them. -/
namespace AL
open PySem PySem.Spec PyProof.Rows L2

/-- plain values: what never changes stands inline; ref k is the k-th mutable cell -/
inductive Pv where
  | non | bl (b : Bool) | int (i : Int) | str (x : Str)
  | tup (xs : List Pv) | lst (xs : List Pv) | ref (k : Nat)
  | obj (c : Str) (fs : List (Str × Pv)) | glo (x : Str) | ty (n : String)

inductive Co where
  | lst (xs : List Pv) | ins (c : Str) (fs : List (Str × Pv)) | dK (kvs : List (Key × Pv)) | dT (kvs : List (List Key × Pv)) | dead
abbrev Cells := List Co
abbrev Sl := List (Option Pv)

def Ex (H H' : Hp) : Prop := ∀ a o, H a = some o → H' a = some o
theorem Ex.refl (H : Hp) : Ex H H := fun _ _ h => h
theorem Ex.trans {H H1 H2 : Hp} (a : Ex H H1) (b : Ex H1 H2) : Ex H H2 := fun x o h => b x o (a x o h)
theorem Ex.upd {H : Hp} {p : Addr} {o : HO} (h : H p = none) : Ex H (upd H p o) := fun a u e => by
  rw [upd_ne (ne_of_none e h)]
  exact e
theorem Ex.none {H H' : Hp} {p : Addr} (e : Ex H H') (h : H' p = none) : H p = none := by
  cases q : H p with
  | none => rfl
  | some o => rw [e p o q] at h; cases h
theorem Ex.rd {H H' : Hp} {a : Addr} {u : HO} (e : Ex H H') (h : Rd H a u) : Rd H' a u := by
  rcases h with h | ⟨o, h⟩
  · exact Or.inl (e a _ h)
  · exact Or.inr ⟨o, e a _ h⟩
theorem Ex.l {K : PySem.W.Frag} {H H' : Hp} {a : Addr} {xs : List V} (e : Ex H H') (h : SqL K H a xs) : SqL K H' a xs := by
  rcases h with h | h
  · exact Or.inl (e.rd h)
  · exact Or.inr h
theorem Ex.t {K : PySem.W.Frag} {H H' : Hp} {a : Addr} {xs : List V} (e : Ex H H') (h : SqT K H a xs) : SqT K H' a xs := by
  rcases h with h | h
  · exact Or.inl (e.rd h)
  · exact Or.inr h

section
variable (K : PySem.W.Frag) (mg : Str → Option Value)
mutual
inductive RepV (U : Hp) (μ : List Addr) : Pv → V → Prop
  | non : RepV U μ .non .non
  | bl (b : Bool) : RepV U μ (.bl b) (.bl b)
  | int (i : Int) : RepV U μ (.int i) (.int i)
  | str (x : Str) : RepV U μ (.str x) (.str x)
  | tup {a : Addr} {xs : List V} {ps : List Pv} : SqT K U a xs → RepVs U μ ps xs → RepV U μ (.tup ps) (.ref a)
  | lst {a : Addr} {xs : List V} {ps : List Pv} : SqL K U a xs → RepVs U μ ps xs → RepV U μ (.lst ps) (.ref a)
  | ref {k : Nat} {a : Addr} : μ[k]? = some a → RepV U μ (.ref k) (.ref a)
  | obj {c : Str} {C a dx : Addr} {fs : List (Str × Pv)} {ws : List (Str × V)} : mg c = some (.ref C) → U a = some (.ins C dx ws) → fs.map (·.1) = ws.map (·.1) → RepVs U μ (fs.map (·.2)) (ws.map (·.2)) → RepV U μ (.obj c fs) (.ref a)
  | glo {x : Str} {f : Addr} : mg x = some (.ref f) → RepV U μ (.glo x) (.ref f)
  | ty (n : String) : RepV U μ (.ty n) (.ty n)
inductive RepVs (U : Hp) (μ : List Addr) : List Pv → List V → Prop
  | nil : RepVs U μ [] []
  | cons {p : Pv} {v : V} {ps : List Pv} {vs : List V} : RepV U μ p v → RepVs U μ ps vs → RepVs U μ (p :: ps) (v :: vs)
end
end

section
variable {K : PySem.W.Frag} {mg : Str → Option Value} {U U' : Hp} {μ μ' : List Addr}
theorem pre_get {μ μ' : List Addr} (m : μ <+: μ') {k : Nat} {a : Addr} (h : μ[k]? = some a) : μ'[k]? = some a := by
  obtain ⟨t, rfl⟩ := m
  rw [List.getElem?_append_left (List.getElem?_eq_some_iff.mp h).1]
  exact h
mutual
theorem RepV.mono (e : Ex U U') (m : μ <+: μ') : ∀ {p : Pv} {v : V}, RepV K mg U μ p v → RepV K mg U' μ' p v
  | _, _, .non => .non
  | _, _, .bl b => .bl b
  | _, _, .int i => .int i
  | _, _, .str x => .str x
  | _, _, .tup s r => .tup (e.t s) (RepVs.mono e m r)
  | _, _, .lst s r => .lst (e.l s) (RepVs.mono e m r)
  | _, _, .ref h => .ref (pre_get m h)
  | _, _, .obj g h n r => .obj g (e _ _ h) n (RepVs.mono e m r)
  | _, _, .glo h => .glo h
  | _, _, .ty n => .ty n
theorem RepVs.mono (e : Ex U U') (m : μ <+: μ') : ∀ {ps : List Pv} {vs : List V}, RepVs K mg U μ ps vs → RepVs K mg U' μ' ps vs
  | _, _, .nil => .nil
  | _, _, .cons h r => .cons (RepV.mono e m h) (RepVs.mono e m r)
end
theorem RepVs.length : ∀ {ps : List Pv} {vs : List V}, RepVs K mg U μ ps vs → ps.length = vs.length
  | _, _, .nil => rfl
  | _, _, .cons _ r => by rw [List.length_cons, List.length_cons, RepVs.length r]
theorem RepVs.get : ∀ {ps : List Pv} {vs : List V} {i : Nat} {v : V}, RepVs K mg U μ ps vs → vs[i]? = some v → ∃ p, ps[i]? = some p ∧ RepV K mg U μ p v
  | _, _, _, _, .nil, h => by simp at h
  | _, _, 0, _, .cons h _, e => by
    simp at e; subst e; exact ⟨_, rfl, h⟩
  | _, _, i + 1, _, .cons _ r, e => by
    obtain ⟨p, h1, h2⟩ := RepVs.get (i := i) r (by simpa using e)
    exact ⟨p, by simpa using h1, h2⟩
theorem RepVs.at : ∀ {ps : List Pv} {vs : List V} {i : Nat} {p : Pv}, RepVs K mg U μ ps vs → ps[i]? = some p → ∃ v, vs[i]? = some v ∧ RepV K mg U μ p v
  | _, _, _, _, .nil, h => by simp at h
  | _, _, 0, _, .cons h _, e => by
    simp at e; subst e; exact ⟨_, rfl, h⟩
  | _, _, i + 1, _, .cons _ r, e => by
    obtain ⟨p, h1, h2⟩ := RepVs.at (i := i) r (by simpa using e)
    exact ⟨p, by simpa using h1, h2⟩
theorem RepVs.append : ∀ {ps qs : List Pv} {vs ws : List V}, RepVs K mg U μ ps vs → RepVs K mg U μ qs ws → RepVs K mg U μ (ps ++ qs) (vs ++ ws)
  | _, _, _, _, .nil, s => s
  | _, _, _, _, .cons h r, s => .cons h (RepVs.append r s)
theorem RepVs.set {p : Pv} {v : V} (h : RepV K mg U μ p v) : ∀ {ps : List Pv} {vs : List V} (i : Nat), RepVs K mg U μ ps vs → RepVs K mg U μ (ps.set i p) (vs.set i v)
  | _, _, _, .nil => .nil
  | _, _, 0, .cons _ r => .cons h r
  | _, _, i + 1, .cons g r => .cons g (RepVs.set h i r)
theorem RepVs.take : ∀ {ps : List Pv} {vs : List V} (n : Nat), RepVs K mg U μ ps vs → RepVs K mg U μ (ps.take n) (vs.take n)
  | _, _, 0, _ => .nil
  | _, _, _ + 1, .nil => .nil
  | _, _, n + 1, .cons h r => .cons h (RepVs.take n r)
theorem RepVs.drop : ∀ {ps : List Pv} {vs : List V} (n : Nat), RepVs K mg U μ ps vs → RepVs K mg U μ (ps.drop n) (vs.drop n)
  | _, _, 0, r => r
  | _, _, _ + 1, .nil => .nil
  | _, _, n + 1, .cons _ r => RepVs.drop n r
theorem RepVs.ints : ∀ {ns : List Int} {vs : List V}, RepVs K mg U μ (ns.map Pv.int) vs → vs = ns.map V.int
  | [], _, .nil => rfl
  | n :: ns, _, .cons (.int _) r => by rw [List.map_cons, RepVs.ints r]
theorem RepVs.of_ints : ∀ (ns : List Int), RepVs K mg U μ (ns.map Pv.int) (ns.map V.int)
  | [] => .nil
  | n :: ns => .cons (.int n) (RepVs.of_ints ns)
end

/-! ### cells -/
section
variable (K : PySem.W.Frag) (mg : Str → Option Value)
def RepF (U : Hp) (μ : List Addr) (fs : List (Str × Pv)) (ws : List (Str × V)) : Prop := fs.map (·.1) = ws.map (·.1) ∧ RepVs K mg U μ (fs.map (·.2)) (ws.map (·.2))
def RepC (U : Hp) (μ : List Addr) : Co → Option HO → Prop
  | .lst ps, o => ∃ xs, o = some (.lst xs) ∧ RepVs K mg U μ ps xs
  | .ins c fs, o => ∃ C dx ws, mg c = some (.ref C) ∧ o = some (.ins C dx ws) ∧ RepF K mg U μ fs ws
  | .dK kvs, o => ∃ ws : List (Key × V), o = some (.dK ws) ∧ kvs.map (·.1) = ws.map (·.1) ∧ RepVs K mg U μ (kvs.map (·.2)) (ws.map (·.2))
  | .dT kvs, o => ∃ ws : List (List Key × V), o = some (.dT ws) ∧ kvs.map (·.1) = ws.map (·.1) ∧ RepVs K mg U μ (kvs.map (·.2)) (ws.map (·.2))
  | .dead, o => o ≠ none
structure Rel0 (cs : Cells) (μ : List Addr) (U H : Hp) : Prop where
  vh : Ex U H
  nd : μ.Nodup
  len : μ.length = cs.length
  cel : ∀ (k : Nat) (c : Co) (a : Addr), cs[k]? = some c → μ[k]? = some a → RepC K mg U μ c (H a)
  out : ∀ (k : Nat) (c : Co) (a : Addr), cs[k]? = some c → μ[k]? = some a → c ≠ .dead → U a = none
structure Gr (U H : Hp) (μ : List Addr) (U' H' : Hp) (μ' : List Addr) : Prop where
  vv : Ex U U'
  mm : μ <+: μ'
  hid : ∀ a o, H a = some o → U a = none → a ∉ μ → H' a = some o ∧ U' a = none ∧ a ∉ μ'
/-- the exception that an except suite holds: its slot, address, class, fields, dict -/
structure Xa where
  i : Nat
  a : Addr
  C : Value
  fs : List (Str × Pv)
  d : Option Addr
/-- the dict of an exception -/
def XRep (U : Hp) (μ : List Addr) (fs : List (Str × Pv)) (d : Option Addr) : Prop :=
  (fs = [] ∧ d = none) ∨ ∃ da ws, d = some da ∧ U da = some (.xd ws) ∧ RepF K mg U μ fs ws
structure RelS (xa : Option Xa) (U : Hp) (μ : List Addr) (sl : Sl) (σ : L2.St) : Prop where
  len : sl.length = σ.length
  val : ∀ (i : Nat) (p : Pv), sl[i]? = some (some p) → ∃ v, σ[i]? = some (some v) ∧ RepV K mg U μ p v
  exc : ∀ x, xa = some x → sl[x.i]? = some none → σ[x.i]? = some (some (.ref x.a)) ∧ XRep K mg U μ x.fs x.d
end
section
variable {K : PySem.W.Frag} {mg : Str → Option Value} {U U' H H' U1 H1 U2 H2 : Hp} {μ μ' μ1 μ2 : List Addr} {cs cs' : Cells}
theorem RepC.mono (e : Ex U U') (m : μ <+: μ') : ∀ {c : Co} {o : Option HO}, RepC K mg U μ c o → RepC K mg U' μ' c o
  | .lst ps, _, ⟨xs, h, r⟩ => ⟨xs, h, r.mono e m⟩
  | .ins c fs, _, ⟨C, dx, ws, g, h, n, r⟩ => ⟨C, dx, ws, g, h, n, r.mono e m⟩
  | .dK kvs, _, ⟨ws, h, n, r⟩ => ⟨ws, h, n, r.mono e m⟩
  | .dT kvs, _, ⟨ws, h, n, r⟩ => ⟨ws, h, n, r.mono e m⟩
  | .dead, _, h => h
theorem RepC.some : ∀ {c : Co} {o : Option HO}, RepC K mg U μ c o → o ≠ none
  | .lst ps, _, ⟨xs, h, r⟩ => by rw [h]; simp
  | .ins c fs, _, ⟨C, dx, ws, g, h, n, r⟩ => by rw [h]; simp
  | .dK kvs, _, ⟨ws, h, n, r⟩ => by rw [h]; simp
  | .dT kvs, _, ⟨ws, h, n, r⟩ => by rw [h]; simp
  | .dead, _, h => h
theorem Gr.refl : Gr U H μ U H μ := ⟨Ex.refl _, List.prefix_refl _, fun _ _ h u m => ⟨h, u, m⟩⟩
theorem Gr.trans (a : Gr U H μ U1 H1 μ1) (b : Gr U1 H1 μ1 U2 H2 μ2) : Gr U H μ U2 H2 μ2 :=
  ⟨a.vv.trans b.vv, a.mm.trans b.mm, fun x o h u m => by
    obtain ⟨h1, u1, m1⟩ := a.hid x o h u m
    exact b.hid x o h1 u1 m1⟩
theorem XRep.mono {fs : List (Str × Pv)} {d : Option Addr} (e : Ex U U') (m : μ <+: μ') (h : XRep K mg U μ fs d) : XRep K mg U' μ' fs d := by
  rcases h with h | ⟨da, ws, h1, h2, h3, h4⟩
  · exact .inl h
  · exact .inr ⟨da, ws, h1, e _ _ h2, h3, h4.mono e m⟩
theorem RelS.mono {xa : Option Xa} {sl : Sl} {σ : L2.St} (g : Gr U H μ U' H' μ') (r : RelS K mg xa U μ sl σ) : RelS K mg xa U' μ' sl σ :=
  ⟨r.len, fun i p h => by
    obtain ⟨v, h1, h2⟩ := r.val i p h
    exact ⟨v, h1, h2.mono g.vv g.mm⟩, fun x e h => ⟨(r.exc x e h).1, (r.exc x e h).2.mono g.vv g.mm⟩⟩
theorem RelS.set {xa : Option Xa} {sl : Sl} {σ : L2.St} {p : Pv} {v : V} (r : RelS K mg xa U μ sl σ) (h : RepV K mg U μ p v) (i : Nat) : RelS K mg xa U μ (sl.set i (some p)) (σ.set i (some v)) := by
  refine ⟨by rw [List.length_set, List.length_set, r.len], fun j q e => ?_, fun x ex e => ?_⟩
  · by_cases hj : i = j
    · subst hj
      have hl : i < sl.length := by
        have := (List.getElem?_eq_some_iff.mp e).1
        rwa [List.length_set] at this
      rw [List.getElem?_set_self hl] at e
      cases e
      exact ⟨v, List.getElem?_set_self (by rw [← r.len]; exact hl), h⟩
    · rw [List.getElem?_set_ne hj] at e
      rw [List.getElem?_set_ne hj]
      exact r.val j q e
  · by_cases hj : i = x.i
    · have hl : i < sl.length := by
        have := (List.getElem?_eq_some_iff.mp e).1
        rw [List.length_set] at this
        omega
      rw [← hj, List.getElem?_set_self hl] at e
      cases e
    · rw [List.getElem?_set_ne hj] at e
      rw [List.getElem?_set_ne hj]
      exact r.exc x ex e
theorem RelS.setNone {sl : Sl} {σ : L2.St} (r : RelS K mg none U μ sl σ) (i : Nat) : RelS K mg none U μ (sl.set i none) (σ.set i none) := by
  refine ⟨by rw [List.length_set, List.length_set, r.len], fun j q e => ?_, fun x ex => nomatch ex⟩
  by_cases hj : i = j
  · subst hj
    have hl : i < sl.length := by
      have := (List.getElem?_eq_some_iff.mp e).1
      rwa [List.length_set] at this
    rw [List.getElem?_set_self hl] at e
    cases e
  · rw [List.getElem?_set_ne hj] at e
    rw [List.getElem?_set_ne hj]
    exact r.val j q e
/-- into an except suite -/
theorem RelS.take {sl : Sl} {σ : L2.St} {x : Xa} (r : RelS K mg none U μ sl σ) (hx : XRep K mg U μ x.fs x.d) : RelS K mg (some x) U μ (sl.set x.i none) (σ.set x.i (some (.ref x.a))) := by
  refine ⟨by rw [List.length_set, List.length_set, r.len], fun j q e => ?_, fun y ey e => ?_⟩
  · by_cases hj : x.i = j
    · subst hj
      have hl : x.i < sl.length := by
        have := (List.getElem?_eq_some_iff.mp e).1
        rwa [List.length_set] at this
      rw [List.getElem?_set_self hl] at e
      cases e
    · rw [List.getElem?_set_ne hj] at e
      rw [List.getElem?_set_ne hj]
      exact r.val j q e
  · cases ey
    have hl : x.i < sl.length := by
      have := (List.getElem?_eq_some_iff.mp e).1
      rwa [List.length_set] at this
    exact ⟨List.getElem?_set_self (by rw [← r.len]; exact hl), hx⟩
/-- out of it: the name goes -/
theorem RelS.gone {sl : Sl} {σ : L2.St} {xa : Option Xa} (r : RelS K mg xa U μ sl σ) (i : Nat) : RelS K mg none U μ (sl.set i none) (σ.set i none) := by
  refine ⟨by rw [List.length_set, List.length_set, r.len], fun j q e => ?_, fun x ex => nomatch ex⟩
  by_cases hj : i = j
  · subst hj
    have hl : i < sl.length := by
      have := (List.getElem?_eq_some_iff.mp e).1
      rwa [List.length_set] at this
    rw [List.getElem?_set_self hl] at e
    cases e
  · rw [List.getElem?_set_ne hj] at e
    rw [List.getElem?_set_ne hj]
    exact r.val j q e
theorem RelS.lose {sl : Sl} {σ : L2.St} {xa : Option Xa} (r : RelS K mg xa U μ sl σ) : RelS K mg none U μ sl σ := ⟨r.len, r.val, fun x ex => nomatch ex⟩
theorem Rel0.there (r : Rel0 K mg cs μ U H) {a : Addr} (h : a ∈ μ) : H a ≠ none := by
  obtain ⟨k, hk⟩ := List.mem_iff_getElem?.mp h
  have hl : k < cs.length := by rw [← r.len]; exact (List.getElem?_eq_some_iff.mp hk).1
  exact (r.cel k _ a (List.getElem?_eq_getElem hl) hk).some
/-- a new thing that will never change -/
theorem Rel0.freeze {p : Addr} {o : HO} (r : Rel0 K mg cs μ U H) (h : H p = none) : Rel0 K mg cs μ (upd U p o) (upd H p o) ∧ Gr U H μ (upd U p o) (upd H p o) μ := by
  have hU : U p = none := r.vh.none h
  have ne : ∀ a, a ∈ μ → a ≠ p := fun a ha e => r.there ha (e ▸ h)
  have ex : Ex U (upd U p o) := Ex.upd hU
  refine ⟨⟨fun a u e => ?_, r.nd, r.len, fun k c a h1 h2 => ?_, fun k c a h1 h2 h3 => ?_⟩, ex, List.prefix_refl _, fun a u h1 h2 h3 => ?_⟩
  · by_cases q : a = p
    · subst q; rw [upd_same] at e ⊢; exact e
    · rw [upd_ne q] at e ⊢; exact r.vh a u e
  · rw [upd_ne (ne a (List.mem_of_getElem? h2))]
    exact (r.cel k c a h1 h2).mono ex (List.prefix_refl _)
  · rw [upd_ne (ne a (List.mem_of_getElem? h2))]
    exact r.out k c a h1 h2 h3
  · have q : a ≠ p := ne_of_none h1 h
    rw [upd_ne q, upd_ne q]
    exact ⟨h1, h2, h3⟩
/-- a new thing that nobody speaks of -/
theorem Rel0.hidden {p : Addr} {o : HO} (r : Rel0 K mg cs μ U H) (h : H p = none) : Rel0 K mg cs μ U (upd H p o) ∧ Gr U H μ U (upd H p o) μ := by
  have hU : U p = none := r.vh.none h
  have ne : ∀ a, a ∈ μ → a ≠ p := fun a ha e => r.there ha (e ▸ h)
  refine ⟨⟨fun a u e => ?_, r.nd, r.len, fun k c a h1 h2 => ?_, r.out⟩, Ex.refl _, List.prefix_refl _, fun a u h1 h2 h3 => ?_⟩
  · rw [upd_ne (ne_of_none e hU)]
    exact r.vh a u e
  · rw [upd_ne (ne a (List.mem_of_getElem? h2))]
    exact r.cel k c a h1 h2
  · have q : a ≠ p := ne_of_none h1 h
    rw [upd_ne q]
    exact ⟨h1, h2, h3⟩
/-- a hidden thing turns -/
theorem Rel0.turn {p : Addr} {o : HO} (r : Rel0 K mg cs μ U H) (hU : U p = none) (hm : p ∉ μ) : Rel0 K mg cs μ U (upd H p o) := by
  refine ⟨fun a u e => ?_, r.nd, r.len, fun k c a h1 h2 => ?_, r.out⟩
  · rw [upd_ne (ne_of_none e hU)]
    exact r.vh a u e
  · rw [upd_ne (fun e : a = p => hm (e ▸ List.mem_of_getElem? h2))]
    exact r.cel k c a h1 h2
/-- a hidden thing comes into sight, for good -/
theorem Rel0.show_ {p : Addr} {o : HO} (r : Rel0 K mg cs μ U H) (hp : H p = some o) (hU : U p = none) (hm : p ∉ μ) : Rel0 K mg cs μ (upd U p o) H ∧ Ex U (upd U p o) := by
  have ex : Ex U (upd U p o) := Ex.upd hU
  refine ⟨⟨fun a u e => ?_, r.nd, r.len, fun k c a h1 h2 => (r.cel k c a h1 h2).mono ex (List.prefix_refl _), fun k c a h1 h2 h3 => ?_⟩, ex⟩
  · by_cases q : a = p
    · subst q; rw [upd_same] at e; rw [← e]; exact hp
    · rw [upd_ne q] at e; exact r.vh a u e
  · rw [upd_ne (fun e : a = p => hm (e ▸ List.mem_of_getElem? h2))]
    exact r.out k c a h1 h2 h3
/-- a new cell of a hidden thing -/
theorem Rel0.cell {p : Addr} {c : Co} (r : Rel0 K mg cs μ U H) (hc : RepC K mg U (μ ++ [p]) c (H p)) (hU : U p = none) (hm : p ∉ μ) : Rel0 K mg (cs ++ [c]) (μ ++ [p]) U H := by
  have pm : μ <+: μ ++ [p] := List.prefix_append _ _
  have key : ∀ (P : Co → Addr → Prop), (∀ (k : Nat) c a, cs[k]? = some c → μ[k]? = some a → P c a) → P c p → ∀ (k : Nat) c' a, (cs ++ [c])[k]? = some c' → (μ ++ [p])[k]? = some a → P c' a := fun P h0 h1 k c' a e1 e2 => by
    by_cases hk : k < cs.length
    · rw [List.getElem?_append_left hk] at e1
      rw [List.getElem?_append_left (by rw [r.len]; exact hk)] at e2
      exact h0 k c' a e1 e2
    · have hk2 : k = cs.length := by
        have := (List.getElem?_eq_some_iff.mp e1).1
        rw [List.length_append, List.length_singleton] at this
        omega
      subst hk2
      rw [List.getElem?_append_right (Nat.le_refl _), Nat.sub_self] at e1
      rw [← r.len, List.getElem?_append_right (Nat.le_refl _), Nat.sub_self] at e2
      cases e1; cases e2
      exact h1
  refine ⟨r.vh, ?_, by rw [List.length_append, List.length_append, r.len]; rfl, key (fun c a => RepC K mg U (μ ++ [p]) c (H a)) (fun k c a h1 h2 => (r.cel k c a h1 h2).mono (Ex.refl _) pm) hc, key (fun c a => c ≠ .dead → U a = none) (fun k c a h1 h2 => r.out k c a h1 h2) fun _ => hU⟩
  rw [List.nodup_append]
  refine ⟨r.nd, by simp, fun a ha b hb e => ?_⟩
  have : b = p := by simpa using hb
  subst this; subst e; exact hm ha
/-- a cell turns -/
theorem Rel0.put {k : Nat} {a : Addr} {c c' : Co} {o : HO} (r : Rel0 K mg cs μ U H) (hk : cs[k]? = some c) (hd : c ≠ .dead) (ha : μ[k]? = some a) (hc : RepC K mg U μ c' (some o)) :
    Rel0 K mg (cs.set k c') μ U (upd H a o) ∧ Gr U H μ U (upd H a o) μ := by
  have hU : U a = none := r.out k c a hk ha hd
  have kl : k < cs.length := (List.getElem?_eq_some_iff.mp hk).1
  refine ⟨⟨fun b u e => ?_, r.nd, by rw [List.length_set]; exact r.len, fun j c2 b h1 h2 => ?_, fun j c2 b h1 h2 h3 => ?_⟩, Ex.refl _, List.prefix_refl _, fun b u h1 h2 h3 => ?_⟩
  · rw [upd_ne (ne_of_none e hU)]
    exact r.vh b u e
  · by_cases q : k = j
    · subst q
      rw [List.getElem?_set_self kl] at h1
      cases h1
      rw [ha] at h2; cases h2
      rw [upd_same]
      exact hc
    · rw [List.getElem?_set_ne q] at h1
      have : b ≠ a := fun e => q (nodup_ix' r.nd ha (e ▸ h2))
      rw [upd_ne this]
      exact r.cel j c2 b h1 h2
  · by_cases q : k = j
    · subst q
      rw [ha] at h2; cases h2
      exact hU
    · rw [List.getElem?_set_ne q] at h1
      exact r.out j c2 b h1 h2 h3
  · have : b ≠ a := fun e => h3 (e ▸ List.mem_of_getElem? ha)
    rw [upd_ne this]
    exact ⟨h1, h2, h3⟩
where nodup_ix' {l : List Addr} (hN : l.Nodup) {i j : Nat} {x : Addr} (a : l[i]? = some x) (b : l[j]? = some x) : i = j := nd_ix hN a b
end
end AL

set_option Elab.async false
set_option linter.all false
set_option autoImplicit false
set_option maxRecDepth 100000
set_option maxHeartbeats 4000000
/-! Own layer, part 2: outcomes, readings. -/
namespace AL
open PySem PySem.Spec PyProof.Rows L2

inductive Res (α : Type) where
  | ok (a : α) (cs : Cells) | exn (c : Str) (fs : List (Str × Pv)) (cs : Cells) | bad
def Res.bind {α β : Type} : Res α → (α → Cells → Res β) → Res β
  | .ok a cs, k => k a cs
  | .exn c fs cs, _ => .exn c fs cs
  | .bad, _ => .bad
@[simp] theorem Res.bind_ok {α β : Type} (a : α) (cs : Cells) (k : α → Cells → Res β) : (Res.ok a cs).bind k = k a cs := rfl
@[simp] theorem Res.bind_exn {α β : Type} (c : Str) (fs : List (Str × Pv)) (cs : Cells) (k : α → Cells → Res β) : (Res.exn c fs cs : Res α).bind k = .exn c fs cs := rfl
@[simp] theorem Res.bind_bad {α β : Type} (k : α → Cells → Res β) : (Res.bad : Res α).bind k = .bad := rfl
inductive RS where
  | nx (sl : Sl) (cs : Cells) | rt (v : Pv) (cs : Cells) | bk (sl : Sl) (cs : Cells) | ct (sl : Sl) (cs : Cells) | exn (c : Str) (fs : List (Str × Pv)) (sl : Sl) (cs : Cells) | bad
/-- an expression's outcome, then a statement -/
def Res.go {α : Type} (sl : Sl) : Res α → (α → Cells → RS) → RS
  | .ok a cs, k => k a cs
  | .exn c fs cs, _ => .exn c fs sl cs
  | .bad, _ => .bad
@[simp] theorem Res.go_ok {α : Type} (sl : Sl) (a : α) (cs : Cells) (k : α → Cells → RS) : (Res.ok a cs).go sl k = k a cs := rfl
@[simp] theorem Res.go_exn {α : Type} (sl : Sl) (c : Str) (fs : List (Str × Pv)) (cs : Cells) (k : α → Cells → RS) : (Res.exn c fs cs : Res α).go sl k = .exn c fs sl cs := rfl
@[simp] theorem Res.go_bad {α : Type} (sl : Sl) (k : α → Cells → RS) : (Res.bad : Res α).go sl k = .bad := rfl
/-- a statement, then the next -/
def RS.then : RS → (Sl → Cells → RS) → RS
  | .nx sl cs, k => k sl cs
  | r, _ => r
@[simp] theorem RS.then_nx (sl : Sl) (cs : Cells) (k : Sl → Cells → RS) : (RS.nx sl cs).then k = k sl cs := rfl
@[simp] theorem RS.then_rt (v : Pv) (cs : Cells) (k : Sl → Cells → RS) : (RS.rt v cs).then k = .rt v cs := rfl
@[simp] theorem RS.then_bk (sl : Sl) (cs : Cells) (k : Sl → Cells → RS) : (RS.bk sl cs).then k = .bk sl cs := rfl
@[simp] theorem RS.then_ct (sl : Sl) (cs : Cells) (k : Sl → Cells → RS) : (RS.ct sl cs).then k = .ct sl cs := rfl
@[simp] theorem RS.then_exn (c : Str) (fs : List (Str × Pv)) (sl : Sl) (cs : Cells) (k : Sl → Cells → RS) : (RS.exn c fs sl cs).then k = .exn c fs sl cs := rfl
@[simp] theorem RS.then_bad (k : Sl → Cells → RS) : RS.bad.then k = .bad := rfl
abbrev FE := Sl → Cells → Res Pv
abbrev FA := Sl → Cells → Res (List Pv)
abbrev FT := Sl → Cells → Res Bool
abbrev FS := Sl → Cells → RS

/-- what is wished for where something is raised, and the exception that is held -/
structure WE where
  w : WX
  x : Option Xa
section
variable (K : PySem.W.Frag) (mg : Str → Option Value)
def Out {α β : Type} (R : Hp → List Addr → α → β → Prop) (E : XK) (U H : Hp) (μ : List Addr) (r : Res α) (Q : β → Hp → Prop) : Prop :=
  match r with
  | .ok a cs => ∀ w U' H' μ', Gr U H μ U' H' μ' → Rel0 K mg cs μ' U' H' → R U' μ' a w → Q w H'
  | .exn c fs cs => ∀ C d U' H' μ', Gr U H μ U' H' μ' → Rel0 K mg cs μ' U' H' → mg c = some (.ref C) → XRep K mg U' μ' fs d → E (.ref C) d H'
  | .bad => False
def OutS (W : WE) (D : Ends) (U H : Hp) (μ : List Addr) (r : RS) : Prop :=
  match r with
  | .nx sl cs => ∀ σ' U' H' μ', Gr U H μ U' H' μ' → Rel0 K mg cs μ' U' H' → RelS K mg W.x U' μ' sl σ' → D.nx σ' H'
  | .bk sl cs => ∀ σ' U' H' μ', Gr U H μ U' H' μ' → Rel0 K mg cs μ' U' H' → RelS K mg W.x U' μ' sl σ' → D.bk σ' H'
  | .ct sl cs => ∀ σ' U' H' μ', Gr U H μ U' H' μ' → Rel0 K mg cs μ' U' H' → RelS K mg W.x U' μ' sl σ' → D.ct σ' H'
  | .rt v cs => ∀ w U' H' μ', Gr U H μ U' H' μ' → Rel0 K mg cs μ' U' H' → RepV K mg U' μ' v w → D.rt w H'
  | .exn c fs sl cs => ∀ C d σ' U' H' μ', Gr U H μ U' H' μ' → Rel0 K mg cs μ' U' H' → RelS K mg W.x U' μ' sl σ' → mg c = some (.ref C) → XRep K mg U' μ' fs d → W.w (.ref C) d σ' H'
  | .bad => False
def rdE (W : WE) (f : FE) : TE := fun σ H Q => ∃ sl cs μ U, Rel0 K mg cs μ U H ∧ RelS K mg W.x U μ sl σ ∧ Out K mg (RepV K mg) (fun c d H => W.w c d σ H) U H μ (f sl cs) Q
def rdA (W : WE) (f : FA) : TA := fun σ H Q => ∃ sl cs μ U, Rel0 K mg cs μ U H ∧ RelS K mg W.x U μ sl σ ∧ Out K mg (RepVs K mg) (fun c d H => W.w c d σ H) U H μ (f sl cs) Q
def rdT (W : WE) (f : FT) : TT := fun σ H Q => ∃ sl cs μ U, Rel0 K mg cs μ U H ∧ RelS K mg W.x U μ sl σ ∧ Out K mg (fun _ _ a b => a = b) (fun c d H => W.w c d σ H) U H μ (f sl cs) Q
def rdS (W : WE) (f : FS) : TS := fun D σ H => ∃ sl cs μ U, Rel0 K mg cs μ U H ∧ RelS K mg W.x U μ sl σ ∧ OutS K mg W D U H μ (f sl cs)
end

section
variable {K : PySem.W.Frag} {mg : Str → Option Value} {U U' H H' U1 H1 : Hp} {μ μ' μ1 : List Addr} {cs cs' : Cells} {α β γ δ : Type} {R : Hp → List Addr → α → γ → Prop} {R' : Hp → List Addr → β → δ → Prop} {E : XK} {W : WE} {D : Ends}
theorem Out.later {r : Res α} {Q : γ → Hp → Prop} (g : Gr U H μ U1 H1 μ1) (h : Out K mg R E U H μ r Q) : Out K mg R E U1 H1 μ1 r Q := by
  cases r with
  | ok a cs => exact fun w U' H' μ' g' r' q => h w U' H' μ' (g.trans g') r' q
  | exn c fs cs => exact fun C d U' H' μ' g' r' m x => h C d U' H' μ' (g.trans g') r' m x
  | bad => exact h
theorem OutS.later {r : RS} (g : Gr U H μ U1 H1 μ1) (h : OutS K mg W D U H μ r) : OutS K mg W D U1 H1 μ1 r := by
  cases r with
  | nx a cs => exact fun w U' H' μ' g' r' q => h w U' H' μ' (g.trans g') r' q
  | bk a cs => exact fun w U' H' μ' g' r' q => h w U' H' μ' (g.trans g') r' q
  | ct a cs => exact fun w U' H' μ' g' r' q => h w U' H' μ' (g.trans g') r' q
  | rt a cs => exact fun w U' H' μ' g' r' q => h w U' H' μ' (g.trans g') r' q
  | exn c fs sl cs => exact fun C d σ' U' H' μ' g' r' q m x => h C d σ' U' H' μ' (g.trans g') r' q m x
  | bad => exact h
/-- one behind the other -/
theorem Out.seq {r : Res α} {k : α → Cells → Res β} {Q : δ → Hp → Prop} {Q1 : γ → Hp → Prop} (h : Out K mg R' E U H μ (r.bind k) Q)
    (c : ∀ a cs1 w U1 H1 μ1, r = .ok a cs1 → Gr U H μ U1 H1 μ1 → Rel0 K mg cs1 μ1 U1 H1 → R U1 μ1 a w → Out K mg R' E U1 H1 μ1 (k a cs1) Q → Q1 w H1) : Out K mg R E U H μ r Q1 := by
  cases r with
  | ok a cs => exact fun w U' H' μ' g' r' q => c a cs w U' H' μ' rfl g' r' q (Out.later g' h)
  | exn c fs cs => exact h
  | bad => exact h
theorem OutS.seq {r : Res α} {sl : Sl} {σ : L2.St} {k : α → Cells → RS} {Q1 : γ → Hp → Prop} (h : OutS K mg W D U H μ (r.go sl k)) (rs : RelS K mg W.x U μ sl σ)
    (c : ∀ a cs1 w U1 H1 μ1, r = .ok a cs1 → Gr U H μ U1 H1 μ1 → Rel0 K mg cs1 μ1 U1 H1 → R U1 μ1 a w → OutS K mg W D U1 H1 μ1 (k a cs1) → Q1 w H1) : Out K mg R (fun c d H => W.w c d σ H) U H μ r Q1 := by
  cases r with
  | ok a cs => exact fun w U' H' μ' g' r' q => c a cs w U' H' μ' rfl g' r' q (OutS.later g' h)
  | exn c fs cs => exact fun C d U' H' μ' g' r' m x => h C d σ U' H' μ' g' r' (rs.mono g') m x
  | bad => exact h
theorem RS.bad_then {k : Sl → Cells → RS} : (RS.bad).then k = .bad := rfl
/-- a statement, then a statement -/
theorem OutS.then {r : RS} {k : Sl → Cells → RS} {D' : Ends} (h : OutS K mg W D U H μ (r.then k)) (hrt : ∀ v H', D.rt v H' → D'.rt v H') (hbk : ∀ σ H', D.bk σ H' → D'.bk σ H') (hct : ∀ σ H', D.ct σ H' → D'.ct σ H')
    (c : ∀ sl1 cs1 σ1 U1 H1 μ1, r = .nx sl1 cs1 → Gr U H μ U1 H1 μ1 → Rel0 K mg cs1 μ1 U1 H1 → RelS K mg W.x U1 μ1 sl1 σ1 → OutS K mg W D U1 H1 μ1 (k sl1 cs1) → D'.nx σ1 H1) : OutS K mg W D' U H μ r := by
  cases r with
  | nx a cs => exact fun σ' U' H' μ' g' r' q => c a cs σ' U' H' μ' rfl g' r' q (OutS.later g' h)
  | bk a cs => exact fun w U' H' μ' g' r' q => hbk _ _ (h w U' H' μ' g' r' q)
  | ct a cs => exact fun w U' H' μ' g' r' q => hct _ _ (h w U' H' μ' g' r' q)
  | rt a cs => exact fun w U' H' μ' g' r' q => hrt _ _ (h w U' H' μ' g' r' q)
  | exn c fs sl cs => exact h
  | bad => exact h
end

/-! ### weaker readings -/
theorem PE.le {X : Cx} {e : Expr} {t t' : TE} (h : PE X e t) (l : ∀ σ H Q, t' σ H Q → t σ H Q) : PE X e t' := ⟨fun pins s σ H Q I q => h.run pins s σ H Q I (l σ H Q q)⟩
theorem PT.le {X : Cx} {e : Expr} {t t' : TT} (h : PT X e t) (l : ∀ σ H Q, t' σ H Q → t σ H Q) : PT X e t' := ⟨fun pins s σ H Q I q => h.run pins s σ H Q I (l σ H Q q)⟩
theorem PW.le {X : Cx} {e : Expr} {t t' : TT} (h : PW X e t) (l : ∀ σ H Q, t' σ H Q → t σ H Q) : PW X e t' := ⟨fun wh pins s σ H Q I q => h.run wh pins s σ H Q I (l σ H Q q)⟩
theorem PA.le {X : Cx} {es : List Expr} {t t' : TA} (h : PA X es t) (l : ∀ σ H Q, t' σ H Q → t σ H Q) : PA X es t' := ⟨fun pos pins s σ H Q I q => h.run pos pins s σ H Q I (l σ H Q q)⟩
theorem PS.le {X : Cx} {st : Stmt} {t t' : TS} (h : PS X st t) (l : ∀ D σ H, t' D σ H → t D σ H) : PS X st t' := ⟨fun pins s σ H D I q => h.run pins s σ H D I (l D σ H q)⟩
theorem PSs.le {X : Cx} {st : List Stmt} {t t' : TS} (h : PSs X st t) (l : ∀ D σ H, t' D σ H → t D σ H) : PSs X st t' := ⟨fun pins s σ H D I q => h.run pins s σ H D I (l D σ H q)⟩

/-! ### names, constants -/
def fVar (i : Nat) : FE := fun sl cs => match sl[i]? with
  | some (some v) => .ok v cs
  | _ => .bad
def fCon (v : Pv) : FE := fun _ cs => .ok v cs
section
variable {X : Cx} {W : WE}
theorem b_var (i : Nat) {x : Str} {pos : Pos} (hN : X.N[i]? = some x := by rfl) (hv : Vis X.env.scope x := by first | exact Or.inl rfl | exact Or.inr (Or.inl rfl) | exact Or.inr (Or.inr rfl)) (hd : (x == ("__debug__" : Str)) = false := by decide)
    (hcd : (x == ("__classdict__" : Str)) = false := by decide) : PE X (.Name x pos) (rdE X.K X.mg W (fVar i)) := by
  refine PE.le (pe_var hN hv hd hcd) fun σ H Q h => ?_
  obtain ⟨sl, cs, μ, U, r0, rs, h⟩ := h
  unfold fVar at h
  split at h
  · rename_i v e
    obtain ⟨w, h1, h2⟩ := rs.val i v e
    exact ⟨w, h1, h w U H μ Gr.refl r0 h2⟩
  · exact h.elim
theorem rd_con {v : Pv} {w : V} (r : ∀ U μ, RepV X.K X.mg U μ v w) (σ : L2.St) (H : Hp) (Q : VK) (h : rdE X.K X.mg W (fCon v) σ H Q) : Q w H := by
  obtain ⟨sl, cs, μ, U, r0, rs, h⟩ := h
  exact h w U H μ Gr.refl r0 (r U μ)
theorem b_int {i j pos} : PE X (.Constant (.int i) j pos) (rdE X.K X.mg W (fCon (.int i))) := PE.le pe_int fun σ H Q h => rd_con (fun _ _ => .int i) σ H Q h
theorem b_bl {b j pos} : PE X (.Constant (.bool b) j pos) (rdE X.K X.mg W (fCon (.bl b))) := PE.le pe_bl fun σ H Q h => rd_con (fun _ _ => .bl b) σ H Q h
theorem b_non {j pos} : PE X (.Constant .none j pos) (rdE X.K X.mg W (fCon .non)) := PE.le pe_non fun σ H Q h => rd_con (fun _ _ => .non) σ H Q h
theorem b_str {x j pos} : PE X (.Constant (.str x) j pos) (rdE X.K X.mg W (fCon (.str x))) := PE.le pe_str fun σ H Q h => rd_con (fun _ _ => .str x) σ H Q h
end

/-! ### operations on values -/
abbrev F2 := Pv → Pv → Cells → Res Pv
def f2 (o : F2) (f g : FE) : FE := fun sl cs => (f sl cs).bind fun x cs1 => (g sl cs1).bind fun y cs2 => o x y cs2
def f1 (o : Pv → Cells → Res Pv) (f : FE) : FE := fun sl cs => (f sl cs).bind fun x cs1 => o x cs1
/-- an operation's own reading r follows from what the plain operation says -/
def Ok2 (K : PySem.W.Frag) (mg : Str → Option Value) (o : F2) (r : R2) : Prop := ∀ (E : XK) x y cs v w U H μ Q, Rel0 K mg cs μ U H → RepV K mg U μ x v → RepV K mg U μ y w → Out K mg (RepV K mg) E U H μ (o x y cs) Q → r v w H Q
def Ok1 (K : PySem.W.Frag) (mg : Str → Option Value) (o : Pv → Cells → Res Pv) (r : V → Hp → VK → Prop) : Prop := ∀ (E : XK) x cs v U H μ Q, Rel0 K mg cs μ U H → RepV K mg U μ x v → Out K mg (RepV K mg) E U H μ (o x cs) Q → r v H Q
section
variable {K : PySem.W.Frag} {mg : Str → Option Value} {W : WE} {f g : FE}
theorem rd_op {o : F2} {r : R2} (hr : Ok2 K mg o r) (σ : L2.St) (H : Hp) (Q : VK) (h : rdE K mg W (f2 o f g) σ H Q) : tOp r (rdE K mg W f) (rdE K mg W g) σ H Q := by
  obtain ⟨sl, cs, μ, U, r0, rs, h⟩ := h
  refine ⟨sl, cs, μ, U, r0, rs, Out.seq h fun x cs1 w U1 H1 μ1 _ g1 r1 p1 h1 => ⟨sl, cs1, μ1, U1, r1, rs.mono g1, Out.seq h1 fun y cs2 w2 U2 H2 μ2 _ g2 r2 p2 h2 => ?_⟩⟩
  exact hr _ x y cs2 w w2 U2 H2 μ2 Q r2 (p1.mono g2.vv g2.mm) p2 h2
theorem rd_un {o : Pv → Cells → Res Pv} {r : V → Hp → VK → Prop} (hr : Ok1 K mg o r) (σ : L2.St) (H : Hp) (Q : VK) (h : rdE K mg W (f1 o f) σ H Q) : tUn r (rdE K mg W f) σ H Q := by
  obtain ⟨sl, cs, μ, U, r0, rs, h⟩ := h
  exact ⟨sl, cs, μ, U, r0, rs, Out.seq h fun x cs1 w U1 H1 μ1 _ g1 r1 p1 h1 => hr _ x cs1 w U1 H1 μ1 Q r1 p1 h1⟩
end
section
variable {X : Cx} {W : WE} {f g : FE} {a b : Expr} {pos : Pos}
theorem b_bin {op : Operator} {o : F2} {r : R2} (ho : OpR X (binaryOp op) r) (hr : Ok2 X.K X.mg o r) (ha : PE X a (rdE X.K X.mg W f)) (hb : PE X b (rdE X.K X.mg W g)) : PE X (.BinOp a op b pos) (rdE X.K X.mg W (f2 o f g)) :=
  PE.le (pe_op ho ha hb) (rd_op hr)
theorem b_cmp {op : CmpOp} {o : F2} {r : R2} (ho : OpR X (compareOp op) r) (hr : Ok2 X.K X.mg o r) (ha : PE X a (rdE X.K X.mg W f)) (hb : PE X b (rdE X.K X.mg W g)) (hm : behindInMarks op b = false := by first | exact nomark _ | rfl) : PE X (.Compare a [op] [b] pos) (rdE X.K X.mg W (f2 o f g)) :=
  PE.le (pe_cmpR ho ha hb hm) (rd_op hr)
theorem b_un {op : UnaryOp} {o : Pv → Cells → Res Pv} {r : V → Hp → VK → Prop} (ho : UnR X (unaryOp op) r) (hr : Ok1 X.K X.mg o r) (ha : PE X a (rdE X.K X.mg W f)) : PE X (.UnaryOp op a pos) (rdE X.K X.mg W (f1 o f)) :=
  PE.le (pe_un ho ha) (rd_un hr)
end
end AL

set_option Elab.async false
set_option linter.all false
set_option autoImplicit false
set_option maxRecDepth 100000
set_option maxHeartbeats 4000000
/-! Own layer, part 3: operations on values. -/
namespace AL
open PySem PySem.Spec PyProof.Rows L2

/-! ### what is read as a list, a tuple -/
def asL (cs : Cells) : Pv → Option (List Pv)
  | .lst xs => some xs
  | .ref k => match cs[k]? with
    | some (.lst xs) => some xs
    | _ => none
  | _ => none
def asT : Pv → Option (List Pv)
  | .tup xs => some xs
  | _ => none
@[simp] theorem asL_lst (cs : Cells) (xs : List Pv) : asL cs (.lst xs) = some xs := rfl
@[simp] theorem asT_tup (xs : List Pv) : asT (.tup xs) = some xs := rfl
section
variable {K : PySem.W.Frag} {mg : Str → Option Value} {U H : Hp} {μ : List Addr} {cs : Cells}
theorem asL_ok {p : Pv} {v : V} {xs : List Pv} (r : Rel0 K mg cs μ U H) (h : RepV K mg U μ p v) (e : asL cs p = some xs) : ∃ a ws, v = .ref a ∧ SqL K H a ws ∧ RepVs K mg U μ xs ws := by
  cases h with
  | lst s q => cases e; exact ⟨_, _, rfl, r.vh.l s, q⟩
  | @ref k a m =>
    have e : (match cs[k]? with | some (.lst xs) => some xs | _ => none) = some xs := e
    split at e
    · rename_i ys hk
      cases e
      obtain ⟨ws, h1, h2⟩ := r.cel k _ a hk m
      exact ⟨a, ws, rfl, .of h1, h2⟩
    · cases e
  | _ => cases e
theorem asT_ok {p : Pv} {v : V} {xs : List Pv} (r : Rel0 K mg cs μ U H) (h : RepV K mg U μ p v) (e : asT p = some xs) : ∃ a ws, v = .ref a ∧ SqT K H a ws ∧ RepVs K mg U μ xs ws := by
  cases h with
  | tup s q => cases e; exact ⟨_, _, rfl, r.vh.t s, q⟩
  | _ => cases e
/-- a new list, a new tuple, handed out -/
theorem out_lst {E : XK} {Q : VK} {ps : List Pv} {ws : List V} (r : Rel0 K mg cs μ U H) (q : RepVs K mg U μ ps ws) (h : Out K mg (RepV K mg) E U H μ (.ok (.lst ps) cs) Q) : ∀ p, H p = none → Q (.ref p) (upd H p (.lst ws)) := fun p hp => by
  obtain ⟨r1, g1⟩ := r.freeze (o := .lst ws) hp
  exact h _ _ _ _ g1 r1 (.lst (.of upd_same) (q.mono g1.vv g1.mm))
theorem out_tup {E : XK} {Q : VK} {ps : List Pv} {ws : List V} (r : Rel0 K mg cs μ U H) (q : RepVs K mg U μ ps ws) (h : Out K mg (RepV K mg) E U H μ (.ok (.tup ps) cs) Q) : ∀ p, H p = none → Q (.ref p) (upd H p (.tup ws)) := fun p hp => by
  obtain ⟨r1, g1⟩ := r.freeze (o := .tup ws) hp
  exact h _ _ _ _ g1 r1 (.tup (.of upd_same) (q.mono g1.vv g1.mm))
/-- a new mutable list -/
theorem out_cell {E : XK} {Q : VK} {ps : List Pv} {ws : List V} (r : Rel0 K mg cs μ U H) (q : RepVs K mg U μ ps ws) (h : Out K mg (RepV K mg) E U H μ (.ok (.ref cs.length) (cs ++ [.lst ps])) Q) : ∀ p, H p = none → Q (.ref p) (upd H p (.lst ws)) := fun p hp => by
  obtain ⟨r1, g1⟩ := r.hidden (o := .lst ws) hp
  have hm : p ∉ μ := fun z => r.there z hp
  have pm : μ <+: μ ++ [p] := List.prefix_append _ _
  have r2 := r1.cell (p := p) (c := .lst ps) ⟨ws, upd_same, q.mono (Ex.refl _) pm⟩ (r.vh.none hp) hm
  refine h _ U _ (μ ++ [p]) ⟨Ex.refl _, pm, fun a o h1 h2 h3 => ?_⟩ r2 (.ref ?_)
  · obtain ⟨a1, a2, a3⟩ := g1.hid a o h1 h2 h3
    refine ⟨a1, a2, fun z => ?_⟩
    rcases List.mem_append.mp z with z | z
    · exact a3 z
    · exact ne_of_none h1 hp (by simpa using z)
  · rw [← r.len, List.getElem?_append_right (Nat.le_refl _), Nat.sub_self]; rfl
/-- a value as it is -/
theorem out_val {E : XK} {Q : VK} {p : Pv} {v : V} (r : Rel0 K mg cs μ U H) (q : RepV K mg U μ p v) (h : Out K mg (RepV K mg) E U H μ (.ok p cs) Q) : Q v H := h _ _ _ _ Gr.refl r q
end

/-! ### arithmetic -/
def mulOk (i j : Int) : Bool := decide (i.natAbs.log2 + j.natAbs.log2 < 100000000)
theorem mulOk.ok {i j : Int} (h : mulOk i j = true) : IntMulOk i j := by
  have b : ∀ x : Int, Builtin.Int.intBits x ≤ x.natAbs.log2 + 1 := fun x => by
    unfold Builtin.Int.intBits
    split <;> omega
  have h1 := b i
  have h2 := b j
  have h3 : i.natAbs.log2 + j.natAbs.log2 < 100000000 := of_decide_eq_true h
  have e : bitsLine = 134217728 := by decide
  unfold IntMulOk
  intro z
  rw [Bool.and_eq_true] at z
  have z2 := z.2
  unfold Builtin.Int.intTooBig at z2
  have z3 := of_decide_eq_true z2
  rw [e] at z3
  omega
def fdivOk (j : Int) : Bool := decide (j ≠ 0) && decide (j.natAbs.log2 < 9000)
def powOk (i j : Int) : Bool := decide (0 ≤ j) && decide (j ≤ 1000000) && decide (i.natAbs < 2 ^ 64)
def fits (n : Nat) : Bool := decide (n ≤ 16777216)
theorem fits.ok {n : Nat} (h : fits n = true) : n ≤ sizeLine := by
  rw [sizeLine_eq]
  exact of_decide_eq_true h
def guard_ {α : Type} (b : Bool) (r : Res α) : Res α := if b = true then r else .bad
@[simp] theorem guard_true {α : Type} (r : Res α) : guard_ true r = r := rfl
theorem guard_of {α : Type} {b : Bool} (h : b = true) (r : Res α) : guard_ b r = r := if_pos h
section
variable {K : PySem.W.Frag} {mg : Str → Option Value}
theorem out_guard {α β : Type} {R : Hp → List Addr → α → β → Prop} {E : XK} {U H : Hp} {μ : List Addr} {b : Bool} {r : Res α} {Q : β → Hp → Prop} (h : Out K mg R E U H μ (guard_ b r) Q) : b = true ∧ Out K mg R E U H μ r Q := by
  unfold guard_ at h
  split at h
  · rename_i q; exact ⟨q, h⟩
  · exact h.elim
end

def oAdd : F2 := fun x y cs => match x, y with
  | .int i, .int j => .ok (.int (i + j)) cs
  | .str a, .str b => guard_ (fits (a.length + b.length)) (.ok (.str (a ++ b)) cs)
  | .tup a, .tup b => guard_ (fits (a.length + b.length)) (.ok (.tup (a ++ b)) cs)
  | x, y => match asL cs x, asL cs y with
    | some a, some b => guard_ (fits (a.length + b.length)) (.ok (.lst (a ++ b)) cs)
    | _, _ => .bad
def rCatL (K : PySem.W.Frag) : R2 := fun x y H Q => ∃ l b xs zs, x = .ref l ∧ y = .ref b ∧ SqL K H l xs ∧ SqL K H b zs ∧ xs.length + zs.length ≤ sizeLine ∧ ∀ p, H p = none → Q (.ref p) (upd H p (.lst (xs ++ zs)))
section
variable {X : Cx}
theorem op_catL : OpR X (binaryOp .Add) (rCatL X.K) := by
  intro pins s σ H x y v u Q I rx ry h
  obtain ⟨l, b, xs, zs, rfl, rfl, hl, hb, hz, q⟩ := h
  cases rx
  cases ry
  obtain ⟨its, r1, p1, _⟩ := I.list hl
  obtain ⟨its2, r2, p2, _⟩ := I.list hb
  obtain ⟨⟨cls, dd, data, sl⟩, ho, hc, n, hd⟩ := p1.isList
  obtain ⟨⟨cls2, dd2, data2, sl2⟩, ho2, hc2, n2, hd2⟩ := p2.isList
  simp only at hc hd hc2 hd2
  subst hc hd hc2 hd2
  have e : its.toArray ++ its2.toArray = (its ++ its2).toArray := by simp
  have l1 := r1.length
  have l2 := r2.length
  refine concat_meets ⟨_, ho, rfl⟩ ⟨_, ho2, rfl⟩ noFill_list_add seq_list_add PySem.F.slot_list_add PySem.F.entry_list_add (PySem.F.args_list_add_2 _ _) (list_addW l b its.toArray its2.toArray n n2 dd dd2 sl sl2 (by simp; omega)) ⟨ho, ho2, ?_⟩
  rw [e]
  exact ⟨.ref _, _, I.lnew (t' := s.toks) (r1.append r2) (by rw [List.length_append]; omega), rfl, q _ I.fresh⟩
end
def rAdd (K : PySem.W.Frag) : R2 := fun x y H Q => (rI0 fun i j => .int (i + j)) x y H Q ∨ (∃ i j, x = .str i ∧ y = .str j ∧ i.length + j.length ≤ sizeLine ∧ Q (.str (i ++ j)) H) ∨ rCatA K x y H Q ∨ rCatL K x y H Q
theorem op_addA {X : Cx} : OpR X (binaryOp .Add) (rAdd X.K) := op_add.or (op_add_str.or (op_catA.or op_catL))
theorem ok_add {K : PySem.W.Frag} {mg : Str → Option Value} : Ok2 K mg oAdd (rAdd K) := by
  intro E x y cs v w U H μ Q r hx hy h
  unfold oAdd at h
  split at h
  · cases hx; cases hy
    exact .inl ⟨_, _, rfl, rfl, out_val r (.int _) h⟩
  · cases hx; cases hy
    obtain ⟨hz, h⟩ := out_guard h
    exact .inr (.inl ⟨_, _, rfl, rfl, fits.ok hz, out_val r (.str _) h⟩)
  · rename_i a b
    obtain ⟨hz, h⟩ := out_guard h
    obtain ⟨a1, w1, rfl, s1, q1⟩ := asT_ok r hx rfl
    obtain ⟨a2, w2, rfl, s2, q2⟩ := asT_ok r hy rfl
    refine .inr (.inr (.inl ⟨a1, a2, w1, w2, rfl, rfl, s1, s2, ?_, fun e => ?_, fun e1 e2 => ?_, fun _ _ => out_tup r (q1.append q2) h⟩))
    · rw [← q1.length, ← q2.length]; exact fits.ok hz
    · have ea : a = [] := List.length_eq_zero_iff.mp (by rw [q1.length, e]; rfl)
      subst ea
      exact out_val r hy h
    · have eb : b = [] := List.length_eq_zero_iff.mp (by rw [q2.length, e2]; rfl)
      subst eb
      rw [List.append_nil] at h
      exact out_val r hx h
  · split at h
    · rename_i a b ea eb
      obtain ⟨hz, h⟩ := out_guard h
      obtain ⟨a1, w1, rfl, s1, q1⟩ := asL_ok r hx ea
      obtain ⟨a2, w2, rfl, s2, q2⟩ := asL_ok r hy eb
      refine .inr (.inr (.inr ⟨a1, a2, w1, w2, rfl, rfl, s1, s2, ?_, out_lst r (q1.append q2) h⟩))
      rw [← q1.length, ← q2.length]; exact fits.ok hz
    · exact h.elim
def oSub : F2 := fun x y cs => match x, y with
  | .int i, .int j => .ok (.int (i - j)) cs
  | _, _ => .bad
def oMul : F2 := fun x y cs => match x, y with
  | .int i, .int j => guard_ (mulOk i j) (.ok (.int (i * j)) cs)
  | _, _ => .bad
def oFdiv : F2 := fun x y cs => match x, y with
  | .int i, .int j => guard_ (fdivOk j) (.ok (.int (i.fdiv j)) cs)
  | _, _ => .bad
def oMod : F2 := fun x y cs => match x, y with
  | .int i, .int j => guard_ (decide (j ≠ 0)) (.ok (.int (i.fmod j)) cs)
  | _, _ => .bad
def oPow : F2 := fun x y cs => match x, y with
  | .int i, .int j => guard_ (powOk i j) (.ok (.int (i ^ j.toNat)) cs)
  | _, _ => .bad
theorem ok_sub {K : PySem.W.Frag} {mg : Str → Option Value} : Ok2 K mg oSub (rI0 fun i j => .int (i - j)) := by
  intro E x y cs v w U H μ Q r hx hy h
  unfold oSub at h
  split at h
  · cases hx; cases hy
    exact ⟨_, _, rfl, rfl, out_val r (.int _) h⟩
  · exact h.elim
def rMulG : R2 := rI (fun i j => mulOk i j = true) fun i j => .int (i * j)
theorem op_mulG {X : Cx} : OpR X (binaryOp .Mult) rMulG := opI fun _ _ _ _ _ _ _ hc q => mul_int q (mulOk.ok hc)
theorem ok_mul {K : PySem.W.Frag} {mg : Str → Option Value} : Ok2 K mg oMul rMulG := by
  intro E x y cs v w U H μ Q r hx hy h
  unfold oMul at h
  split at h
  · cases hx; cases hy
    obtain ⟨hz, h⟩ := out_guard h
    exact ⟨_, _, rfl, rfl, hz, out_val r (.int _) h⟩
  · exact h.elim
def rFdivG : R2 := rI (fun _ j => fdivOk j = true) fun i j => .int (i.fdiv j)
theorem op_fdivG {X : Cx} : OpR X (binaryOp .FloorDiv) rFdivG := opI fun i j _ _ _ _ _ hc q => by
  have hc := Bool.and_eq_true_iff.mp hc
  exact floordiv_int (of_decide_eq_true hc.1) q (.inl (PyProof.noPylong_of_log2 (of_decide_eq_true hc.2)))
theorem ok_fdiv {K : PySem.W.Frag} {mg : Str → Option Value} : Ok2 K mg oFdiv rFdivG := by
  intro E x y cs v w U H μ Q r hx hy h
  unfold oFdiv at h
  split at h
  · cases hx; cases hy
    obtain ⟨hz, h⟩ := out_guard h
    exact ⟨_, _, rfl, rfl, hz, out_val r (.int _) h⟩
  · exact h.elim
theorem ok_mod {K : PySem.W.Frag} {mg : Str → Option Value} : Ok2 K mg oMod (rI (fun _ j => j ≠ 0) fun i j => .int (i.fmod j)) := by
  intro E x y cs v w U H μ Q r hx hy h
  unfold oMod at h
  split at h
  · cases hx; cases hy
    obtain ⟨hz, h⟩ := out_guard h
    exact ⟨_, _, rfl, rfl, of_decide_eq_true hz, out_val r (.int _) h⟩
  · exact h.elim
theorem ok_pow {K : PySem.W.Frag} {mg : Str → Option Value} : Ok2 K mg oPow (rI CPow fun i j => .int (i ^ j.toNat)) := by
  intro E x y cs v w U H μ Q r hx hy h
  unfold oPow at h
  split at h
  · cases hx; cases hy
    obtain ⟨hz, h⟩ := out_guard h
    have h1 := Bool.and_eq_true_iff.mp hz
    have h2 := Bool.and_eq_true_iff.mp h1.1
    exact ⟨_, _, rfl, rfl, ⟨of_decide_eq_true h2.1, of_decide_eq_true h2.2, of_decide_eq_true h1.2⟩, out_val r (.int _) h⟩
  · exact h.elim
def oNeg : Pv → Cells → Res Pv := fun x cs => match x with
  | .int i => .ok (.int (-i)) cs
  | _ => .bad
theorem ok_neg {K : PySem.W.Frag} {mg : Str → Option Value} : Ok1 K mg oNeg (rU fun i => .int (-i)) := by
  intro E x cs v U H μ Q r hx h
  unfold oNeg at h
  split at h
  · cases hx
    exact ⟨_, rfl, out_val r (.int _) h⟩
  · exact h.elim

/-! ### comparisons -/
def oCmpI (p : Int → Int → Bool) : F2 := fun x y cs => match x, y with
  | .int i, .int j => .ok (.bl (p i j)) cs
  | _, _ => .bad
abbrev oLt : F2 := oCmpI fun i j => decide (i < j)
abbrev oLe : F2 := oCmpI fun i j => decide (i ≤ j)
abbrev oGt : F2 := oCmpI fun i j => decide (j < i)
abbrev oGe : F2 := oCmpI fun i j => decide (j ≤ i)
theorem ok_cmpI {K : PySem.W.Frag} {mg : Str → Option Value} {p : Int → Int → Bool} : Ok2 K mg (oCmpI p) (rI0 fun i j => .bl (p i j)) := by
  intro E x y cs v w U H μ Q r hx hy h
  unfold oCmpI at h
  split at h
  · cases hx; cases hy
    exact ⟨_, _, rfl, rfl, out_val r (.bl _) h⟩
  · exact h.elim
/-! data, as the library compares them -/
mutual
def toPy : Pv → Option PyData
  | .non => some .none
  | .bl b => some (.bool b)
  | .int i => some (.int i)
  | .str x => some (.str x)
  | .tup xs => (toPys xs).map .tuple
  | .lst xs => (toPys xs).map .list
  | _ => none
def toPys : List Pv → Option (List PyData)
  | [] => some []
  | x :: xs => match toPy x, toPys xs with
    | some d, some ds => some (d :: ds)
    | _, _ => none
end
def deref (cs : Cells) : Pv → Pv
  | .ref k => match cs[k]? with
    | some (.lst xs) => .lst xs
    | _ => .ref k
  | p => p
mutual
theorem toPy_ok {K : PySem.W.Frag} {mg : Str → Option Value} {U H : Hp} {μ : List Addr} (e : Ex U H) : ∀ {p : Pv} {v : V} {d : PyData}, RepV K mg U μ p v → toPy p = some d → Dp K H v d
  | _, _, _, .non, h => by cases h; exact .non
  | _, _, _, .bl b, h => by cases h; exact .bl b
  | _, _, _, .int i, h => by cases h; exact .int i
  | _, _, _, .str x, h => by cases h; exact .str x
  | _, _, _, .tup s r, h => by
    obtain ⟨ds, h1, h2⟩ := Option.map_eq_some_iff.mp h
    subst h2
    exact .tup (e.t s) (toPys_ok e r h1)
  | _, _, _, .lst s r, h => by
    obtain ⟨ds, h1, h2⟩ := Option.map_eq_some_iff.mp h
    subst h2
    exact .lst (e.l s) (toPys_ok e r h1)
  | _, _, _, .ref _, h => by cases h
  | _, _, _, .obj _ _ _ _, h => by cases h
  | _, _, _, .glo _, h => by cases h
  | _, _, _, .ty _, h => by cases h
theorem toPys_ok {K : PySem.W.Frag} {mg : Str → Option Value} {U H : Hp} {μ : List Addr} (e : Ex U H) : ∀ {ps : List Pv} {vs : List V} {ds : List PyData}, RepVs K mg U μ ps vs → toPys ps = some ds → DpAll K H vs ds
  | _, _, _, .nil, h => by cases h; exact .nil
  | _, _, _, .cons (p := p) (ps := ps) r rs, h => by
    unfold toPys at h
    split at h
    · rename_i d ds h1 h2
      cases h
      exact .cons (toPy_ok e r h1) (toPys_ok e rs h2)
    · cases h
end
theorem deref_ok {K : PySem.W.Frag} {mg : Str → Option Value} {U H : Hp} {μ : List Addr} {cs : Cells} {p : Pv} {v : V} {d : PyData} (r : Rel0 K mg cs μ U H) (h : RepV K mg U μ p v) (e : toPy (deref cs p) = some d) : Dp K H v d := by
  unfold deref at e
  split at e
  · rename_i k
    cases h with
    | ref m =>
      split at e
      · rename_i xs hk
        obtain ⟨ds, h1, h2⟩ := Option.map_eq_some_iff.mp e
        subst h2
        obtain ⟨ws, q1, q2⟩ := r.cel k _ _ hk m
        exact .lst (.of q1) (toPys_ok r.vh q2 h1)
      · cases e
  · exact toPy_ok r.vh h e
def eqD (neg : Bool) : F2 := fun x y cs => match toPy (deref cs x), toPy (deref cs y) with
  | some d, some e => guard_ (SeqAt.shaped d && SeqAt.shaped e) (.ok (.bl (if neg then !PyData.eqv d e else PyData.eqv d e)) cs)
  | _, _ => .bad
abbrev oEq : F2 := eqD false
abbrev oNe : F2 := eqD true
theorem ok_eqD {K : PySem.W.Frag} {mg : Str → Option Value} : Ok2 K mg oEq (rEqD K) := by
  intro E x y cs v w U H μ Q r hx hy h
  unfold oEq eqD at h
  split at h
  · rename_i d e h1 h2
    obtain ⟨hz, h⟩ := out_guard h
    have hz := Bool.and_eq_true_iff.mp hz
    exact ⟨d, e, deref_ok r hx h1, deref_ok r hy h2, hz.1, hz.2, out_val r (.bl _) h⟩
  · exact h.elim
theorem ok_neD {K : PySem.W.Frag} {mg : Str → Option Value} : Ok2 K mg oNe (rNeD K) := by
  intro E x y cs v w U H μ Q r hx hy h
  unfold oNe eqD at h
  split at h
  · rename_i d e h1 h2
    obtain ⟨hz, h⟩ := out_guard h
    have hz := Bool.and_eq_true_iff.mp hz
    exact ⟨d, e, deref_ok r hx h1, deref_ok r hy h2, hz.1, hz.2, out_val r (.bl _) h⟩
  · exact h.elim

/-! ### items, slices -/
theorem atI_rep {K : PySem.W.Frag} {mg : Str → Option Value} {U : Hp} {μ : List Addr} {ps : List Pv} {ws : List V} {i : Int} {p : Pv} (q : RepVs K mg U μ ps ws) (h : atI ps i = some p) : ∃ v, atI ws i = some v ∧ RepV K mg U μ p v := by
  unfold atI at h ⊢
  rw [← q.length]
  cases e : ixN ps.length i with
  | none => rw [e] at h; cases h
  | some j =>
    rw [e] at h
    exact q.at h
def oIx : F2 := fun x y cs => match x, y with
  | .str z, .int i => match atI z.cps.toList i with
    | some c => guard_ (fits z.length) (.ok (.str ⟨#[c]⟩) cs)
    | none => .bad
  | .tup xs, .int i => match atI xs i with
    | some v => .ok v cs
    | none => .bad
  | x, .int i => match asL cs x with
    | some xs => match atI xs i with
      | some v => .ok v cs
      | none => .bad
    | none => .bad
  | _, _ => .bad
theorem ok_ix {K : PySem.W.Frag} {mg : Str → Option Value} : Ok2 K mg oIx (rIx K) := by
  intro E x y cs v w U H μ Q r hx hy h
  unfold oIx at h
  split at h
  · cases hx; cases hy
    split at h
    · rename_i c hc
      obtain ⟨hz, h⟩ := out_guard h
      exact .inr (.inr ⟨_, _, c, rfl, rfl, fits.ok hz, hc, out_val r (.str _) h⟩)
    · exact h.elim
  · cases hy
    split at h
    · rename_i p hp
      obtain ⟨a, ws, rfl, s, q⟩ := asT_ok r hx rfl
      obtain ⟨u, h1, h2⟩ := atI_rep q hp
      exact .inr (.inl ⟨a, ws, _, u, rfl, rfl, s, h1, out_val r h2 h⟩)
    · exact h.elim
  · cases hy
    split at h
    · rename_i xs hxs
      split at h
      · rename_i p hp
        obtain ⟨a, ws, rfl, s, q⟩ := asL_ok r hx hxs
        obtain ⟨u, h1, h2⟩ := atI_rep q hp
        exact .inl ⟨a, ws, _, u, rfl, rfl, s, h1, out_val r h2 h⟩
      · exact h.elim
    · exact h.elim
  · exact h.elim
def cut {α : Type} (xs : List α) (lo hi : Option Int) : List α := (xs.drop (HT.sIx xs.length 0 lo)).take (HT.sIx xs.length xs.length hi - HT.sIx xs.length 0 lo)
theorem cut_rep {K : PySem.W.Frag} {mg : Str → Option Value} {U : Hp} {μ : List Addr} {ps : List Pv} {ws : List V} (q : RepVs K mg U μ ps ws) (lo hi : Option Int) : RepVs K mg U μ (cut ps lo hi) (cutV ws lo hi) := by
  unfold cut cutV
  rw [← q.length]
  exact (q.drop _).take _
end AL

set_option Elab.async false
set_option linter.all false
set_option autoImplicit false
set_option maxRecDepth 100000
set_option maxHeartbeats 4000000
/-! Own layer, part 4: tests, arguments, calls, displays, slices, plain statements. -/
namespace AL
open PySem PySem.Spec PyProof.Rows L2

/-! ### tests -/
def tru : Pv → Cells → Res Bool := fun v cs => match v with
  | .bl b => .ok b cs
  | .non => .ok false cs
  | .int i => .ok (i != 0) cs
  | .str y => guard_ (fits y.length) (.ok ((y.length : Int) != 0) cs)
  | .tup xs => .ok (!xs.isEmpty) cs
  | v => match asL cs v with
    | some xs => .ok (!xs.isEmpty) cs
    | none => match v with
      | .ref k => match cs[k]? with
        | some (.dK kvs) => .ok (!kvs.isEmpty) cs
        | _ => .bad
      | _ => .bad
def fTru (f : FE) : FT := fun sl cs => (f sl cs).bind tru
def fTst (f : FE) : FT := fun sl cs => (f sl cs).bind fun v cs => match v with
  | .bl b => .ok b cs
  | _ => .bad
def fNot (f : FT) : FT := fun sl cs => (f sl cs).bind fun b cs => .ok (!b) cs
def fAnd (f g : FT) : FT := fun sl cs => (f sl cs).bind fun b cs1 => if b = true then g sl cs1 else .ok false cs1
def fOr (f g : FT) : FT := fun sl cs => (f sl cs).bind fun b cs1 => if b = true then .ok true cs1 else g sl cs1
def fIfE (c : FT) (f g : FE) : FE := fun sl cs => (c sl cs).bind fun b cs1 => if b = true then f sl cs1 else g sl cs1
def fAndV (f g : FE) : FE := fun sl cs => (f sl cs).bind fun v cs1 => match v with
  | .bl b => if b = true then g sl cs1 else .ok (.bl false) cs1
  | _ => .bad
def fOrV (f g : FE) : FE := fun sl cs => (f sl cs).bind fun v cs1 => match v with
  | .bl b => if b = true then .ok (.bl true) cs1 else g sl cs1
  | _ => .bad
def fNotV (f : FE) : FE := fun sl cs => (f sl cs).bind fun v cs1 => match v with
  | .bl b => .ok (.bl (!b)) cs1
  | _ => .bad
def fChain (o o' : F2) (f g h : FE) : FE := fun sl cs => (f sl cs).bind fun x cs1 => (g sl cs1).bind fun y cs2 => (o x y cs2).bind fun z cs3 => match z with
  | .bl b => if b = true then (h sl cs3).bind fun w cs4 => o' y w cs4 else .ok (.bl false) cs3
  | _ => .bad
section
variable {K : PySem.W.Frag} {mg : Str → Option Value} {U H : Hp} {μ : List Addr} {cs : Cells}
theorem RepVs.isEmpty {ps : List Pv} {ws : List V} (q : RepVs K mg U μ ps ws) : ps.isEmpty = ws.isEmpty := by cases q <;> rfl
theorem tru_of {E : XK} {v : Pv} {x : V} {Q : Bool → Hp → Prop} (r : Rel0 K mg cs μ U H) (hx : RepV K mg U μ v x) (h : Out K mg (fun _ _ a b => a = b) E U H μ (tru v cs) Q) : ∃ k, TruV K x H k ∧ Q k H := by
  have go : ∀ {b : Bool}, Out K mg (fun _ _ a b => a = b) E U H μ (.ok b cs) Q → Q b H := fun h => h _ _ _ _ Gr.refl r rfl
  unfold tru at h
  split at h
  · cases hx; exact ⟨_, rfl, go h⟩
  · cases hx; exact ⟨_, rfl, go h⟩
  · cases hx; exact ⟨_, rfl, go h⟩
  · cases hx
    obtain ⟨hz, h⟩ := out_guard h
    exact ⟨_, ⟨fits.ok hz, rfl⟩, go h⟩
  · obtain ⟨a, ws, rfl, s, q⟩ := asT_ok r hx rfl
    exact ⟨_, .inr (.inl ⟨ws, s, by rw [← q.isEmpty]⟩), go h⟩
  · split at h
    · rename_i xs e
      obtain ⟨a, ws, rfl, s, q⟩ := asL_ok r hx e
      exact ⟨_, .inl ⟨ws, s, by rw [← q.isEmpty]⟩, go h⟩
    · split at h
      · rename_i k _ _ _ _ _ _ _
        cases hx with
        | ref m =>
          split at h
          · rename_i kvs hk
            obtain ⟨ws, h1, h2, h3⟩ := r.cel _ _ _ hk m
            refine ⟨_, .inr (.inr ⟨ws, h1, ?_⟩), go h⟩
            cases kvs with
            | nil => cases ws with
              | nil => rfl
              | cons _ _ => cases h2
            | cons _ _ => cases ws with
              | nil => cases h2
              | cons _ _ => rfl
          · exact h.elim
      · exact h.elim
end
section
variable {X : Cx} {W : WE} {f g h : FE} {c d : FT} {a b e : Expr} {es rest : List Expr} {pos : Pos}
theorem t_val (ha : PE X a (rdE X.K X.mg W f)) (he : ∀ whole, isTrue a X.env whole = (do let v ← whole; standAt a.pos; holding [v] (truthy v)) := by intro _; rfl) : PT X a (rdT X.K X.mg W (fTru f)) := by
  refine PT.le (pt_truth ha he) fun σ H Q q => ?_
  obtain ⟨sl, cs, μ, U, r0, rs, q⟩ := q
  exact ⟨sl, cs, μ, U, r0, rs, Out.seq q fun x cs1 w U1 H1 μ1 _ g1 r1 p1 h1 => tru_of r1 p1 h1⟩
theorem rd_tst {te : TE} {t : FE} (l : ∀ σ H Q, rdE X.K X.mg W t σ H Q → te σ H Q) (σ : L2.St) (H : Hp) (Q : Bool → Hp → Prop) (q : rdT X.K X.mg W (fTst t) σ H Q) : tTest te σ H Q := by
  refine l σ H _ ?_
  obtain ⟨sl, cs, μ, U, r0, rs, q⟩ := q
  refine ⟨sl, cs, μ, U, r0, rs, Out.seq q fun x cs1 w U1 H1 μ1 _ g1 r1 p1 h1 => ?_⟩
  split at h1
  · cases p1
    exact ⟨_, rfl, h1 _ _ _ _ Gr.refl r1 rfl⟩
  · exact h1.elim
theorem t_cmp {op : CmpOp} {o : F2} {r : R2} (ho : OpR X (compareOp op) r) (hr : Ok2 X.K X.mg o r) (ha : PE X a (rdE X.K X.mg W f)) (hb : PE X b (rdE X.K X.mg W g)) (hm : behindInMarks op b = false := by first | exact nomark _ | rfl) : PT X (.Compare a [op] [b] pos) (rdT X.K X.mg W (fTst (f2 o f g))) :=
  PT.le (pt_cmpR ho ha hb hm) (rd_tst (rd_op hr))
theorem rd_chain {o o' : F2} {r r' : R2} (hr : Ok2 X.K X.mg o r) (hr' : Ok2 X.K X.mg o' r') (σ : L2.St) (H : Hp) (Q : VK) (q : rdE X.K X.mg W (fChain o o' f g h) σ H Q) : tChain r r' (rdE X.K X.mg W f) (rdE X.K X.mg W g) (rdE X.K X.mg W h) σ H Q := by
  obtain ⟨sl, cs, μ, U, r0, rs, q⟩ := q
  refine ⟨sl, cs, μ, U, r0, rs, Out.seq q fun x cs1 w U1 H1 μ1 _ g1 r1 p1 h1 => ⟨sl, cs1, μ1, U1, r1, rs.mono g1, Out.seq h1 fun y cs2 w2 U2 H2 μ2 _ g2 r2 p2 h2 => ?_⟩⟩
  refine hr _ x y cs2 w w2 U2 H2 μ2 _ r2 (p1.mono g2.vv g2.mm) p2 (Out.seq h2 fun z cs3 w3 U3 H3 μ3 _ g3 r3 p3 h3 => ?_)
  split at h3
  · cases p3
    rename_i b _
    refine ⟨b, rfl, ?_⟩
    cases b with
    | true =>
      rw [if_pos rfl] at h3 ⊢
      refine ⟨sl, cs3, μ3, U3, r3, ((rs.mono g1).mono g2).mono g3, Out.seq h3 fun z4 cs4 w4 U4 H4 μ4 _ g4 r4 p4 h4 => ?_⟩
      exact hr' _ y z4 cs4 w2 w4 U4 H4 μ4 Q r4 ((p2.mono g3.vv g3.mm).mono g4.vv g4.mm) p4 h4
    | false =>
      rw [if_neg Bool.false_ne_true] at h3 ⊢
      exact out_val r3 (.bl _) h3
  · exact h3.elim
variable {cc : Expr}
theorem b_chain {op op' : CmpOp} {o o' : F2} {r r' : R2} (ho : OpR X (compareOp op) r) (ho' : OpR X (compareOp op') r') (hr : Ok2 X.K X.mg o r) (hr' : Ok2 X.K X.mg o' r') (ha : PE X a (rdE X.K X.mg W f)) (hb : PE X b (rdE X.K X.mg W g)) (hc : PE X cc (rdE X.K X.mg W h))
    (hm : lastMarks [op, op'] [b, cc] = false := by with_unfolding_all rfl) : PE X (.Compare a [op, op'] [b, cc] pos) (rdE X.K X.mg W (fChain o o' f g h)) := PE.le (pe_chain ho ho' ha hb hc hm) (rd_chain hr hr')
theorem t_chain {op op' : CmpOp} {o o' : F2} {r r' : R2} (ho : OpR X (compareOp op) r) (ho' : OpR X (compareOp op') r') (hr : Ok2 X.K X.mg o r) (hr' : Ok2 X.K X.mg o' r') (ha : PE X a (rdE X.K X.mg W f)) (hb : PE X b (rdE X.K X.mg W g)) (hc : PE X cc (rdE X.K X.mg W h))
    (hm : lastMarks [op, op'] [b, cc] = false := by with_unfolding_all rfl) : PT X (.Compare a [op, op'] [b, cc] pos) (rdT X.K X.mg W (fTst (fChain o o' f g h))) := PT.le (pt_chain ho ho' ha hb hc hm) (rd_tst (rd_chain hr hr'))
theorem t_not (ha : PT X a (rdT X.K X.mg W c)) : PT X (.UnaryOp .Not a pos) (rdT X.K X.mg W (fNot c)) := by
  refine PT.le (pt_not ha) fun σ H Q q => ?_
  obtain ⟨sl, cs, μ, U, r0, rs, q⟩ := q
  exact ⟨sl, cs, μ, U, r0, rs, Out.seq q fun x cs1 w U1 H1 μ1 _ g1 r1 p1 h1 => h1 _ _ _ _ Gr.refl r1 (congrArg _ p1)⟩
theorem w_and1 (ha : PT X a (rdT X.K X.mg W c)) : PW X (.BoolOp .And [a] pos) (rdT X.K X.mg W c) := pw_and1 ha
theorem w_or1 (ha : PT X a (rdT X.K X.mg W c)) : PW X (.BoolOp .Or [a] pos) (rdT X.K X.mg W c) := pw_or1 ha
theorem w_and (ha : PT X a (rdT X.K X.mg W c)) (hb : PW X (.BoolOp .And (b :: rest) pos) (rdT X.K X.mg W d)) : PW X (.BoolOp .And (a :: b :: rest) pos) (rdT X.K X.mg W (fAnd c d)) := by
  refine PW.le (pw_and ha hb) fun σ H Q q => ?_
  obtain ⟨sl, cs, μ, U, r0, rs, q⟩ := q
  refine ⟨sl, cs, μ, U, r0, rs, Out.seq q fun x cs1 w U1 H1 μ1 _ g1 r1 p1 h1 => ?_⟩
  subst p1
  cases x with
  | true => rw [if_pos rfl] at h1 ⊢; exact ⟨sl, cs1, μ1, U1, r1, rs.mono g1, h1⟩
  | false => rw [if_neg Bool.false_ne_true] at h1 ⊢; exact h1 _ _ _ _ Gr.refl r1 rfl
theorem w_or (ha : PT X a (rdT X.K X.mg W c)) (hb : PW X (.BoolOp .Or (b :: rest) pos) (rdT X.K X.mg W d)) : PW X (.BoolOp .Or (a :: b :: rest) pos) (rdT X.K X.mg W (fOr c d)) := by
  refine PW.le (pw_or ha hb) fun σ H Q q => ?_
  obtain ⟨sl, cs, μ, U, r0, rs, q⟩ := q
  refine ⟨sl, cs, μ, U, r0, rs, Out.seq q fun x cs1 w U1 H1 μ1 _ g1 r1 p1 h1 => ?_⟩
  subst p1
  cases x with
  | true => rw [if_pos rfl] at h1 ⊢; exact h1 _ _ _ _ Gr.refl r1 rfl
  | false => rw [if_neg Bool.false_ne_true] at h1 ⊢; exact ⟨sl, cs1, μ1, U1, r1, rs.mono g1, h1⟩
theorem b_ifE (hc : PT X cc (rdT X.K X.mg W c)) (ha : PE X a (rdE X.K X.mg W f)) (hb : PE X b (rdE X.K X.mg W g)) : PE X (.IfExp cc a b pos) (rdE X.K X.mg W (fIfE c f g)) := by
  refine PE.le (pe_ifExp hc ha hb) fun σ H Q q => ?_
  obtain ⟨sl, cs, μ, U, r0, rs, q⟩ := q
  refine ⟨sl, cs, μ, U, r0, rs, Out.seq q fun x cs1 w U1 H1 μ1 _ g1 r1 p1 h1 => ?_⟩
  subst p1
  cases x with
  | true => rw [if_pos rfl] at h1 ⊢; exact ⟨sl, cs1, μ1, U1, r1, rs.mono g1, h1⟩
  | false => rw [if_neg Bool.false_ne_true] at h1 ⊢; exact ⟨sl, cs1, μ1, U1, r1, rs.mono g1, h1⟩
theorem b_one {op} (h : PE X a (rdE X.K X.mg W f)) : PE X (.BoolOp op [a] pos) (rdE X.K X.mg W f) := pe_one h
theorem b_and (ha : PE X a (rdE X.K X.mg W f)) (hb : PE X (.BoolOp .And (b :: rest) pos) (rdE X.K X.mg W g)) : PE X (.BoolOp .And (a :: b :: rest) pos) (rdE X.K X.mg W (fAndV f g)) := by
  refine PE.le (pe_and ha hb) fun σ H Q q => ?_
  obtain ⟨sl, cs, μ, U, r0, rs, q⟩ := q
  refine ⟨sl, cs, μ, U, r0, rs, Out.seq q fun x cs1 w U1 H1 μ1 _ g1 r1 p1 h1 => ?_⟩
  split at h1
  · cases p1
    rename_i b' _
    refine ⟨b', rfl, ?_⟩
    cases b' with
    | true => rw [if_pos rfl] at h1 ⊢; exact ⟨sl, cs1, μ1, U1, r1, rs.mono g1, h1⟩
    | false => rw [if_neg Bool.false_ne_true] at h1 ⊢; exact out_val r1 (.bl _) h1
  · exact h1.elim
theorem b_or (ha : PE X a (rdE X.K X.mg W f)) (hb : PE X (.BoolOp .Or (b :: rest) pos) (rdE X.K X.mg W g)) : PE X (.BoolOp .Or (a :: b :: rest) pos) (rdE X.K X.mg W (fOrV f g)) := by
  refine PE.le (pe_or ha hb) fun σ H Q q => ?_
  obtain ⟨sl, cs, μ, U, r0, rs, q⟩ := q
  refine ⟨sl, cs, μ, U, r0, rs, Out.seq q fun x cs1 w U1 H1 μ1 _ g1 r1 p1 h1 => ?_⟩
  split at h1
  · cases p1
    rename_i b' _
    refine ⟨b', rfl, ?_⟩
    cases b' with
    | true => rw [if_pos rfl] at h1 ⊢; exact out_val r1 (.bl _) h1
    | false => rw [if_neg Bool.false_ne_true] at h1 ⊢; exact ⟨sl, cs1, μ1, U1, r1, rs.mono g1, h1⟩
  · exact h1.elim
theorem b_not (ha : PE X a (rdE X.K X.mg W f)) : PE X (.UnaryOp .Not a pos) (rdE X.K X.mg W (fNotV f)) := by
  refine PE.le (pe_not ha) fun σ H Q q => ?_
  obtain ⟨sl, cs, μ, U, r0, rs, q⟩ := q
  refine ⟨sl, cs, μ, U, r0, rs, Out.seq q fun x cs1 w U1 H1 μ1 _ g1 r1 p1 h1 => ?_⟩
  split at h1
  · cases p1
    exact ⟨_, rfl, out_val r1 (.bl _) h1⟩
  · exact h1.elim
end

/-! ### arguments -/
def fNil : FA := fun _ cs => .ok [] cs
def fCons (f : FE) (r : FA) : FA := fun sl cs => (f sl cs).bind fun v cs1 => (r sl cs1).bind fun vs cs2 => .ok (v :: vs) cs2
section
variable {X : Cx} {W : WE} {f : FE} {t : FA} {e : Expr} {es : List Expr} {pos : Pos}
theorem a_nil : PA X [] (rdA X.K X.mg W fNil) := PA.le pa_nil fun σ H Q q => by
  obtain ⟨sl, cs, μ, U, r0, rs, q⟩ := q
  exact q _ _ _ _ Gr.refl r0 .nil
theorem rd_cons (σ : L2.St) (H : Hp) (Q : List V → Hp → Prop) (q : rdA X.K X.mg W (fCons f t) σ H Q) : tCons (rdE X.K X.mg W f) (rdA X.K X.mg W t) σ H Q := by
  obtain ⟨sl, cs, μ, U, r0, rs, q⟩ := q
  refine ⟨sl, cs, μ, U, r0, rs, Out.seq q fun x cs1 w U1 H1 μ1 _ g1 r1 p1 h1 => ⟨sl, cs1, μ1, U1, r1, rs.mono g1, Out.seq h1 fun xs cs2 ws U2 H2 μ2 _ g2 r2 p2 h2 => ?_⟩⟩
  exact h2 _ _ _ _ Gr.refl r2 (.cons (p1.mono g2.vv g2.mm) p2)
theorem a_cons (ha : PE X e (rdE X.K X.mg W f)) (hr : PA X es (rdA X.K X.mg W t)) (hs : starEach (e :: es) X.env = (false, eval e X.env) :: starEach es X.env := by rfl) : PA X (e :: es) (rdA X.K X.mg W (fCons f t)) :=
  PA.le (pa_cons ha hr hs) rd_cons
end

/-! ### displays -/
def fTup (t : FA) : FE := fun sl cs => (t sl cs).bind fun vs cs1 => guard_ (fits vs.length) (.ok (.tup vs) cs1)
def fLst (t : FA) : FE := fun sl cs => (t sl cs).bind fun vs cs1 => guard_ (fits vs.length) (.ok (.lst vs) cs1)
def fLstC (t : FA) : FE := fun sl cs => (t sl cs).bind fun vs cs1 => guard_ (fits vs.length) (.ok (.ref cs1.length) (cs1 ++ [.lst vs]))
section
variable {X : Cx} {W : WE} {t : FA} {es : List Expr} {pos : Pos}
theorem b_tup {x1} (h : PA X es (rdA X.K X.mg W t)) : PE X (.Tuple es x1 pos) (rdE X.K X.mg W (fTup t)) := PE.le (pe_tup h) fun σ H Q q => by
  obtain ⟨sl, cs, μ, U, r0, rs, q⟩ := q
  refine ⟨sl, cs, μ, U, r0, rs, Out.seq q fun x cs1 w U1 H1 μ1 _ g1 r1 p1 h1 => ?_⟩
  obtain ⟨hz, h1⟩ := out_guard h1
  exact ⟨by rw [← p1.length]; exact fits.ok hz, out_tup r1 p1 h1⟩
theorem b_lst (h : PA X es (rdA X.K X.mg W t)) : PE X (.List es pos) (rdE X.K X.mg W (fLst t)) := PE.le (pe_lst h) fun σ H Q q => by
  obtain ⟨sl, cs, μ, U, r0, rs, q⟩ := q
  refine ⟨sl, cs, μ, U, r0, rs, Out.seq q fun x cs1 w U1 H1 μ1 _ g1 r1 p1 h1 => ?_⟩
  obtain ⟨hz, h1⟩ := out_guard h1
  exact ⟨by rw [← p1.length]; exact fits.ok hz, out_lst r1 p1 h1⟩
theorem b_lstC (h : PA X es (rdA X.K X.mg W t)) : PE X (.List es pos) (rdE X.K X.mg W (fLstC t)) := PE.le (pe_lst h) fun σ H Q q => by
  obtain ⟨sl, cs, μ, U, r0, rs, q⟩ := q
  refine ⟨sl, cs, μ, U, r0, rs, Out.seq q fun x cs1 w U1 H1 μ1 _ g1 r1 p1 h1 => ?_⟩
  obtain ⟨hz, h1⟩ := out_guard h1
  exact ⟨by rw [← p1.length]; exact fits.ok hz, out_cell r1 p1 h1⟩
end

/-! ### subscripts, slices -/
abbrev FO := Sl → Cells → Res (Option Int)
def fNoPart : FO := fun _ cs => .ok none cs
def fPart (f : FE) : FO := fun sl cs => (f sl cs).bind fun v cs1 => match v with
  | .int i => .ok (some i) cs1
  | _ => .bad
def rdO (K : PySem.W.Frag) (mg : Str → Option Value) (W : WE) (f : FO) : TO := fun σ H Q => ∃ sl cs μ U, Rel0 K mg cs μ U H ∧ RelS K mg W.x U μ sl σ ∧ Out K mg (fun _ _ a b => a = b) (fun c d H => W.w c d σ H) U H μ (f sl cs) Q
theorem PO.le {X : Cx} {e : Option Expr} {t t' : TO} (h : PO X e t) (l : ∀ σ H Q, t' σ H Q → t σ H Q) : PO X e t' := ⟨fun pins s σ H Q I q => h.run pins s σ H Q I (l σ H Q q)⟩
def oSlc (x : Pv) (lo hi : Option Int) (cs : Cells) : Res Pv := match x with
  | .str z => guard_ (fits z.length) (.ok (.str (cutS z lo hi)) cs)
  | .tup xs => .ok (.tup (cut xs lo hi)) cs
  | x => match asL cs x with
    | some xs => .ok (.lst (cut xs lo hi)) cs
    | none => .bad
def fSlc (f : FE) (lo hi : FO) : FE := fun sl cs => (f sl cs).bind fun x cs1 => (lo sl cs1).bind fun l cs2 => (hi sl cs2).bind fun h cs3 => oSlc x l h cs3
section
variable {X : Cx} {W : WE} {f g : FE} {lo hi : FO} {a b : Expr} {l h : Option Expr} {pos p2 : Pos}
theorem b_ix (ha : PE X a (rdE X.K X.mg W f)) (hb : PE X b (rdE X.K X.mg W g)) (hs : PlainIx b := by exact fun _ _ => rfl) : PE X (.Subscript a b pos) (rdE X.K X.mg W (f2 oIx f g)) := PE.le (pe_ix ix_seq ha hb hs) (rd_op ok_ix)
theorem o_none : PO X none (rdO X.K X.mg W fNoPart) := PO.le po_none fun σ H Q q => by
  obtain ⟨sl, cs, μ, U, r0, rs, q⟩ := q
  exact q _ _ _ _ Gr.refl r0 rfl
theorem o_some (ha : PE X a (rdE X.K X.mg W f)) : PO X (some a) (rdO X.K X.mg W (fPart f)) := PO.le (po_some ha) fun σ H Q q => by
  obtain ⟨sl, cs, μ, U, r0, rs, q⟩ := q
  refine ⟨sl, cs, μ, U, r0, rs, Out.seq q fun x cs1 w U1 H1 μ1 _ g1 r1 p1 h1 => ?_⟩
  split at h1
  · cases p1
    exact ⟨_, rfl, h1 _ _ _ _ Gr.refl r1 rfl⟩
  · exact h1.elim
def rSlc (K : PySem.W.Frag) : V → Option Int → Option Int → Hp → VK → Prop := fun x lo hi H Q => rSlS x lo hi H Q ∨ rSlA K x lo hi H Q ∨ rSlL K x lo hi H Q
theorem sl_all : SlR X (rSlc X.K) := sl_str.or (sl_tupA.or sl_list)
theorem slc_ok {K : PySem.W.Frag} {mg : Str → Option Value} {E : XK} {x : Pv} {l h : Option Int} {cs : Cells} {v : V} {U H : Hp} {μ : List Addr} {Q : VK} (r : Rel0 K mg cs μ U H) (hx : RepV K mg U μ x v) (q : Out K mg (RepV K mg) E U H μ (oSlc x l h cs) Q) : rSlc K v l h H Q := by
  unfold oSlc at q
  split at q
  · cases hx
    obtain ⟨hz, q⟩ := out_guard q
    exact .inl ⟨_, rfl, fits.ok hz, out_val r (.str _) q⟩
  · obtain ⟨a, ws, rfl, s, rp⟩ := asT_ok r hx rfl
    refine .inr (.inl ⟨a, ws, rfl, s, fun e => ?_, fun _ => out_tup r (cut_rep rp l h) q⟩)
    rename_i xs
    have ec : cut xs l h = xs := by
      unfold cut
      rw [rp.length, e.1, e.2, List.drop_zero, Nat.sub_zero, ← rp.length]
      exact List.take_length
    rw [ec] at q
    exact out_val r hx q
  · split at q
    · rename_i xs e
      obtain ⟨a, ws, rfl, s, rp⟩ := asL_ok r hx e
      exact .inr (.inr ⟨a, ws, rfl, s, out_lst r (cut_rep rp l h) q⟩)
    · exact q.elim
theorem b_slc (ha : PE X a (rdE X.K X.mg W f)) (hl : PO X l (rdO X.K X.mg W lo)) (hh : PO X h (rdO X.K X.mg W hi)) : PE X (.Subscript a (.Slice l h none p2) pos) (rdE X.K X.mg W (fSlc f lo hi)) := PE.le (pe_slice sl_all ha hl hh) fun σ H Q q => by
  obtain ⟨sl, cs, μ, U, r0, rs, q⟩ := q
  refine ⟨sl, cs, μ, U, r0, rs, Out.seq q fun x cs1 w U1 H1 μ1 _ g1 r1 p1 h1 => ⟨sl, cs1, μ1, U1, r1, rs.mono g1, Out.seq h1 fun y cs2 w2 U2 H2 μ2 _ g2 r2 p2 h2 => ⟨sl, cs2, μ2, U2, r2, (rs.mono g1).mono g2, Out.seq h2 fun z cs3 w3 U3 H3 μ3 _ g3 r3 p3 h3 => ?_⟩⟩⟩
  subst p2
  subst p3
  exact slc_ok r3 ((p1.mono g2.vv g2.mm).mono g3.vv g3.mm) h3
end

/-! ### built-ins called by name -/
abbrev FN := List Pv → Cells → Res Pv
def fCall (m : FN) (t : FA) : FE := fun sl cs => (t sl cs).bind fun vs cs1 => m vs cs1
def OkC (K : PySem.W.Frag) (mg : Str → Option Value) (m : FN) (r : List V → Hp → VK → Prop) : Prop := ∀ (E : XK) ps cs vs U H μ Q, Rel0 K mg cs μ U H → RepVs K mg U μ ps vs → Out K mg (RepV K mg) E U H μ (m ps cs) Q → r vs H Q
section
variable {X : Cx} {W : WE} {t : FA} {x : Str} {p pos : Pos} {e : Expr} {es : List Expr} {id T : String} {r : List V → Hp → VK → Prop} {m : FN}
theorem rd_cb (hr : OkC X.K X.mg m r) (σ : L2.St) (H : Hp) (Q : VK) (q : rdE X.K X.mg W (fCall m t) σ H Q) : tCB r (rdA X.K X.mg W t) σ H Q := by
  obtain ⟨sl, cs, μ, U, r0, rs, q⟩ := q
  exact ⟨sl, cs, μ, U, r0, rs, Out.seq q fun x cs1 w U1 H1 μ1 _ g1 r1 p1 h1 => hr _ _ _ _ _ _ _ _ r1 p1 h1⟩
theorem b_callB (hc : CallR X (.builtin id) r) (hr : OkC X.K X.mg m r) (hm : X.mg x = none) (hv : bootBuiltins x = some (.builtin id)) (ha : PA X (e :: es) (rdA X.K X.mg W t)) (hg : Gl X x := by rfl) (hn : x ≠ "__name__" := by decide) (hdb : (x == ("__debug__" : Str)) = false := by decide)
    (he : starEach (e :: es) X.env = (false, eval e X.env) :: starEach es X.env := by rfl) (hpl : (backTo pos (starEach es X.env)).any (·.1) = false := by rfl) : PE X (.Call (.Name x p) (e :: es) [] pos) (rdE X.K X.mg W (fCall m t)) :=
  PE.le (pe_callB hc hg hm hv ha hn hdb he hpl) (rd_cb hr)
theorem b_callTy (hc : CallR X (.type T) r) (hr : OkC X.K X.mg m r) (hm : X.mg x = none) (hv : bootBuiltins x = some (.type T)) (ha : PA X (e :: es) (rdA X.K X.mg W t)) (hg : Gl X x := by rfl) (hn : x ≠ "__name__" := by decide) (hdb : (x == ("__debug__" : Str)) = false := by decide)
    (he : starEach (e :: es) X.env = (false, eval e X.env) :: starEach es X.env := by rfl) (hpl : (backTo pos (starEach es X.env)).any (·.1) = false := by rfl) : PE X (.Call (.Name x p) (e :: es) [] pos) (rdE X.K X.mg W (fCall m t)) :=
  PE.le (pe_callTy hc hg hm hv ha hn hdb he hpl) (rd_cb hr)
/-- a built-in type's or a module's own name as a value -/
theorem b_ty {n : String} (hm : X.mg x = none) (hv : bootBuiltins x = some (.type n)) (hg : Gl X x := by rfl) (hn : x ≠ "__name__" := by decide) (hd : (x == ("__debug__" : Str)) = false := by decide) : PE X (.Name x pos) (rdE X.K X.mg W (fCon (.ty n))) :=
  PE.le (pe_bltn hg hm hv (show RelV (.ty n) _ from rfl) hn hd) fun σ H Q h => rd_con (fun _ _ => .ty n) σ H Q h
end
def mLen : FN := fun vs cs => match vs with
  | [.str z] => guard_ (fits z.length) (.ok (.int z.length) cs)
  | [.tup xs] => .ok (.int xs.length) cs
  | [x] => match asL cs x with
    | some xs => .ok (.int xs.length) cs
    | none => .bad
  | _ => .bad
def rLen (K : PySem.W.Frag) : List V → Hp → VK → Prop := fun xs H Q => ∃ x n, xs = [x] ∧ LenV K x H n ∧ Q (.int n) H
theorem ok_len {K : PySem.W.Frag} {mg : Str → Option Value} : OkC K mg mLen (rLen K) := by
  intro E ps cs vs U H μ Q r hx h
  unfold mLen at h
  split at h
  · cases hx with
    | cons h1 h2 =>
      cases h2; cases h1
      obtain ⟨hz, h⟩ := out_guard h
      exact ⟨_, _, rfl, ⟨fits.ok hz, rfl⟩, out_val r (.int _) h⟩
  · cases hx with
    | cons h1 h2 =>
      cases h2
      obtain ⟨a, ws, rfl, s, q⟩ := asT_ok r h1 rfl
      exact ⟨_, _, rfl, .inr ⟨ws, s, q.length⟩, out_val r (.int _) h⟩
  · cases hx with
    | cons h1 h2 =>
      cases h2
      split at h
      · rename_i xs e
        obtain ⟨a, ws, rfl, s, q⟩ := asL_ok r h1 e
        exact ⟨_, _, rfl, .inl ⟨ws, s, q.length⟩, out_val r (.int _) h⟩
      · exact h.elim
  · exact h.elim
def mAbs : FN := fun vs cs => match vs with
  | [.int i] => .ok (.int (if i < 0 then -i else i)) cs
  | _ => .bad
theorem ok_abs {K : PySem.W.Frag} {mg : Str → Option Value} : OkC K mg mAbs (fun xs H Q => ∃ i, xs = [.int i] ∧ Q (.int (if i < 0 then -i else i)) H) := by
  intro E ps cs vs U H μ Q r hx h
  unfold mAbs at h
  split at h
  · cases hx with
    | cons h1 h2 =>
      cases h2; cases h1
      exact ⟨_, rfl, out_val r (.int _) h⟩
  · exact h.elim
def mInt : FN := fun vs cs => match vs with
  | [.int i] => .ok (.int i) cs
  | [.bl k] => .ok (.int (if k then 1 else 0)) cs
  | _ => .bad
theorem ok_int {K : PySem.W.Frag} {mg : Str → Option Value} : OkC K mg mInt (fun xs H Q => (∃ i, xs = [.int i] ∧ Q (.int i) H) ∨ ∃ k, xs = [.bl k] ∧ Q (.int (if k then 1 else 0)) H) := by
  intro E ps cs vs U H μ Q r hx h
  unfold mInt at h
  split at h
  · cases hx with
    | cons h1 h2 =>
      cases h2; cases h1
      exact .inl ⟨_, rfl, out_val r (.int _) h⟩
  · cases hx with
    | cons h1 h2 =>
      cases h2; cases h1
      exact .inr ⟨_, rfl, out_val r (.int _) h⟩
  · exact h.elim
/-- ints in a list -/
def intsOf : List Pv → Option (List Int)
  | [] => some []
  | .int i :: r => (intsOf r).map (i :: ·)
  | _ => none
theorem intsOf_map : ∀ (ns : List Int), intsOf (ns.map Pv.int) = some ns
  | [] => rfl
  | n :: ns => by
    show (intsOf (ns.map Pv.int)).map (n :: ·) = _
    rw [intsOf_map ns]; rfl
theorem intsOf_eq : ∀ {ps : List Pv} {ns : List Int}, intsOf ps = some ns → ps = ns.map Pv.int
  | [], ns, h => by cases h; rfl
  | .int i :: r, ns, h => by
    obtain ⟨ms, h1, h2⟩ := Option.map_eq_some_iff.mp h
    subst h2
    rw [intsOf_eq h1]; rfl
  | .non :: _, _, h => by cases h
  | .bl _ :: _, _, h => by cases h
  | .str _ :: _, _, h => by cases h
  | .tup _ :: _, _, h => by cases h
  | .lst _ :: _, _, h => by cases h
  | .ref _ :: _, _, h => by cases h
  | .obj _ _ :: _, _, h => by cases h
  | .glo _ :: _, _, h => by cases h
  | .ty _ :: _, _, h => by cases h
def mSum : FN := fun vs cs => match vs with
  | [x] => match asL cs x with
    | some xs => match intsOf xs with
      | some ns => .ok (.int ns.sum) cs
      | none => .bad
    | none => .bad
  | _ => .bad
theorem ok_sum {K : PySem.W.Frag} {mg : Str → Option Value} : OkC K mg mSum (rSum K) := by
  intro E ps cs vs U H μ Q r hx h
  unfold mSum at h
  split at h
  · cases hx with
    | cons h1 h2 =>
      cases h2
      split at h
      · rename_i xs e
        split at h
        · rename_i ns en
          obtain ⟨a, ws, rfl, s, q⟩ := asL_ok r h1 e
          rw [intsOf_eq en] at q
          rw [q.ints] at s
          exact ⟨a, ns, rfl, s, out_val r (.int _) h⟩
        · exact h.elim
      · exact h.elim
  · exact h.elim
def mTuple : FN := fun vs cs => match vs with
  | [.tup xs] => .ok (.tup xs) cs
  | [x] => match asL cs x with
    | some xs => .ok (.tup xs) cs
    | none => .bad
  | _ => .bad
theorem ok_tuple {K : PySem.W.Frag} {mg : Str → Option Value} : OkC K mg mTuple (fun xs H Q => ∃ p ys, xs = [.ref p] ∧ ((SqL K H p ys ∧ ∀ l, H l = none → Q (.ref l) (upd H l (.tup ys))) ∨ (SqT K H p ys ∧ Q (.ref p) H))) := by
  intro E ps cs vs U H μ Q r hx h
  unfold mTuple at h
  split at h
  · cases hx with
    | cons h1 h2 =>
      cases h2
      obtain ⟨a, ws, rfl, s, q⟩ := asT_ok r h1 rfl
      exact ⟨a, ws, rfl, .inr ⟨s, out_val r h1 h⟩⟩
  · cases hx with
    | cons h1 h2 =>
      cases h2
      split at h
      · rename_i xs e
        obtain ⟨a, ws, rfl, s, q⟩ := asL_ok r h1 e
        exact ⟨a, ws, rfl, .inl ⟨s, out_tup r q h⟩⟩
      · exact h.elim
  · exact h.elim
/-- list(x): a new list, frozen | a new cell -/
def seqOf (cs : Cells) : Pv → Option (List Pv)
  | .tup xs => some xs
  | x => asL cs x
theorem seqOf_ok {K : PySem.W.Frag} {mg : Str → Option Value} {U H : Hp} {μ : List Addr} {cs : Cells} {p : Pv} {v : V} {xs : List Pv} (r : Rel0 K mg cs μ U H) (h : RepV K mg U μ p v) (e : seqOf cs p = some xs) : ∃ a ws, v = .ref a ∧ (SqL K H a ws ∨ SqT K H a ws) ∧ RepVs K mg U μ xs ws := by
  unfold seqOf at e
  split at e
  · cases e
    obtain ⟨a, ws, rfl, s, q⟩ := asT_ok r h rfl
    exact ⟨a, ws, rfl, .inr s, q⟩
  · obtain ⟨a, ws, rfl, s, q⟩ := asL_ok r h e
    exact ⟨a, ws, rfl, .inl s, q⟩
def mList : FN := fun vs cs => match vs with
  | [x] => match seqOf cs x with
    | some xs => .ok (.lst xs) cs
    | none => .bad
  | _ => .bad
def mListC : FN := fun vs cs => match vs with
  | [x] => match seqOf cs x with
    | some xs => .ok (.ref cs.length) (cs ++ [.lst xs])
    | none => .bad
  | _ => .bad
def rListOf (K : PySem.W.Frag) : List V → Hp → VK → Prop := fun xs H Q => ∃ p ys, xs = [.ref p] ∧ (SqL K H p ys ∨ SqT K H p ys) ∧ ∀ l, H l = none → Q (.ref l) (upd H l (.lst ys))
theorem ok_list {K : PySem.W.Frag} {mg : Str → Option Value} : OkC K mg mList (rListOf K) := by
  intro E ps cs vs U H μ Q r hx h
  unfold mList at h
  split at h
  · cases hx with
    | cons h1 h2 =>
      cases h2
      split at h
      · rename_i xs e
        obtain ⟨a, ws, rfl, s, q⟩ := seqOf_ok r h1 e
        exact ⟨a, ws, rfl, s, out_lst r q h⟩
      · exact h.elim
  · exact h.elim
theorem ok_listC {K : PySem.W.Frag} {mg : Str → Option Value} : OkC K mg mListC (rListOf K) := by
  intro E ps cs vs U H μ Q r hx h
  unfold mListC at h
  split at h
  · cases hx with
    | cons h1 h2 =>
      cases h2
      split at h
      · rename_i xs e
        obtain ⟨a, ws, rfl, s, q⟩ := seqOf_ok r h1 e
        exact ⟨a, ws, rfl, s, out_cell r q h⟩
      · exact h.elim
  · exact h.elim
/-- isinstance of plain data, a built-in class -/
def pyTy (cs : Cells) : Pv → Option String
  | .non => some "NoneType" | .bl _ => some "bool" | .int _ => some "int" | .str _ => some "str" | .tup _ => some "tuple"
  | x => match asL cs x with
    | some _ => some "list"
    | none => none
def mIsB : FN := fun vs cs => match vs with
  | [x, .ty n] => match pyTy cs x with
    | some t => match kitB t n with
      | some b => .ok (.bl b) cs
      | none => .bad
    | none => .bad
  | _ => .bad
theorem tyX_L {K : PySem.W.Frag} {H : Hp} {a : Addr} {ws : List V} (s : SqL K H a ws) : TyX K H (.ref a) (.type "list") := by
  rcases s with (s | ⟨o, s⟩) | ⟨o, its, n, h1, h2, _⟩
  · exact .base (.lst s)
  · exact .base (.frz s)
  · exact .kList h1 h2
theorem tyX_T {K : PySem.W.Frag} {H : Hp} {a : Addr} {ws : List V} (s : SqT K H a ws) : TyX K H (.ref a) (.type "tuple") := by
  rcases s with (s | ⟨o, s⟩) | ⟨o, its, n, h1, h2, _⟩
  · exact .base (.tup s)
  · exact .fTuple s
  · exact .kTuple h1 h2
theorem pyTy_ok {K : PySem.W.Frag} {mg : Str → Option Value} {U H : Hp} {μ : List Addr} {cs : Cells} {p : Pv} {v : V} {t : String} (r : Rel0 K mg cs μ U H) (h : RepV K mg U μ p v) (e : pyTy cs p = some t) : TyX K H v (.type t) := by
  unfold pyTy at e
  split at e
  · cases h; cases e; exact .base .non
  · cases h; cases e; exact .base (.bl _)
  · cases h; cases e; exact .base (.int _)
  · cases h; cases e; exact .base (.str _)
  · cases e
    obtain ⟨a, ws, rfl, s, q⟩ := asT_ok r h rfl
    exact tyX_T s
  · split at e
    · rename_i xs ex
      cases e
      obtain ⟨a, ws, rfl, s, q⟩ := asL_ok r h ex
      exact tyX_L s
    · cases e
theorem ok_isB {K : PySem.W.Frag} {mg : Str → Option Value} : OkC K mg mIsB (rIsi K) := by
  intro E ps cs vs U H μ Q r hx h
  unfold mIsB at h
  split at h
  · cases hx with
    | cons h1 h2 =>
      cases h2 with
      | cons h2 h3 =>
        cases h3; cases h2
        split at h
        · rename_i t et
          split at h
          · rename_i b eb
            exact ⟨_, _, _, _, b, rfl, .ty _, pyTy_ok r h1 et, kit_ty eb, out_val r (.bl _) h⟩
          · exact h.elim
        · exact h.elim
  · exact h.elim

/-! ### statements -/
def sRet (f : FE) : FS := fun sl cs => (f sl cs).go sl fun v cs1 => .rt v cs1
def sRetN : FS := fun _ cs => .rt .non cs
def sExpr (f : FE) : FS := fun sl cs => (f sl cs).go sl fun _ cs1 => .nx sl cs1
def sPass : FS := fun sl cs => .nx sl cs
def sBrk : FS := fun sl cs => .bk sl cs
def sCnt : FS := fun sl cs => .ct sl cs
def sSeq (f g : FS) : FS := fun sl cs => (f sl cs).then g
def sIf (c : FT) (f g : FS) : FS := fun sl cs => (c sl cs).go sl fun b cs1 => if b = true then f sl cs1 else g sl cs1
def sAsg (i : Nat) (f : FE) : FS := fun sl cs => (f sl cs).go sl fun v cs1 => .nx (sl.set i (some v)) cs1
section
variable {X : Cx} {W : WE} {f : FE} {s t : FS} {c : FT} {e cc : Expr} {st : Stmt} {sts a b : List Stmt} {pos : Pos}
theorem s_ret (he : PE X e (rdE X.K X.mg W f)) : PS X (.Return (some e) pos) (rdS X.K X.mg W (sRet f)) := PS.le (ps_ret he) fun D σ H q => by
  obtain ⟨sl, cs, μ, U, r0, rs, q⟩ := q
  exact ⟨sl, cs, μ, U, r0, rs, OutS.seq q rs fun x cs1 w U1 H1 μ1 _ g1 r1 p1 h1 => h1 _ _ _ _ Gr.refl r1 p1⟩
theorem s_retN : PS X (.Return none pos) (rdS X.K X.mg W sRetN) := PS.le ps_retN fun D σ H q => by
  obtain ⟨sl, cs, μ, U, r0, rs, q⟩ := q
  exact q _ _ _ _ Gr.refl r0 .non
theorem s_expr (he : PE X e (rdE X.K X.mg W f)) (hs : swapsWith e none pos.line X.env = pure false := by rfl) : PS X (.Expr e pos) (rdS X.K X.mg W (sExpr f)) := PS.le (ps_expr he hs) fun D σ H q => by
  obtain ⟨sl, cs, μ, U, r0, rs, q⟩ := q
  exact ⟨sl, cs, μ, U, r0, rs, OutS.seq q rs fun x cs1 w U1 H1 μ1 _ g1 r1 p1 h1 => h1 _ _ _ _ Gr.refl r1 (rs.mono g1)⟩
theorem s_pass : PS X (.Pass pos) (rdS X.K X.mg W sPass) := PS.le ps_pass fun D σ H q => by
  obtain ⟨sl, cs, μ, U, r0, rs, q⟩ := q
  exact q _ _ _ _ Gr.refl r0 rs
theorem s_brk : PS X (.Break pos) (rdS X.K X.mg W sBrk) := PS.le ps_break fun D σ H q => by
  obtain ⟨sl, cs, μ, U, r0, rs, q⟩ := q
  exact q _ _ _ _ Gr.refl r0 rs
theorem s_cnt : PS X (.Continue pos) (rdS X.K X.mg W sCnt) := PS.le ps_continue fun D σ H q => by
  obtain ⟨sl, cs, μ, U, r0, rs, q⟩ := q
  exact q _ _ _ _ Gr.refl r0 rs
theorem ss_nil : PSs X [] (rdS X.K X.mg W sPass) := PSs.le pss_nil fun D σ H q => by
  obtain ⟨sl, cs, μ, U, r0, rs, q⟩ := q
  exact q _ _ _ _ Gr.refl r0 rs
theorem ss_one (h : PS X st (rdS X.K X.mg W s)) : PSs X [st] (rdS X.K X.mg W s) := pss_one h
theorem ss_cons (h1 : PS X st (rdS X.K X.mg W s)) (h2 : PSs X sts (rdS X.K X.mg W t)) : PSs X (st :: sts) (rdS X.K X.mg W (sSeq s t)) := PSs.le (pss_cons h1 h2) fun D σ H q => by
  obtain ⟨sl, cs, μ, U, r0, rs, q⟩ := q
  exact ⟨sl, cs, μ, U, r0, rs, OutS.then q (fun _ _ z => z) (fun _ _ z => z) (fun _ _ z => z) fun sl1 cs1 σ1 U1 H1 μ1 _ g1 r1 rs1 h1 => ⟨sl1, cs1, μ1, U1, r1, rs1, h1⟩⟩
theorem s_if (hc : PT X cc (rdT X.K X.mg W c)) (ha : PSs X a (rdS X.K X.mg W s)) (hb : PSs X b (rdS X.K X.mg W t)) : PS X (.If cc a b pos) (rdS X.K X.mg W (sIf c s t)) := PS.le (ps_if hc ha hb) fun D σ H q => by
  obtain ⟨sl, cs, μ, U, r0, rs, q⟩ := q
  refine ⟨sl, cs, μ, U, r0, rs, OutS.seq q rs fun x cs1 w U1 H1 μ1 _ g1 r1 p1 h1 => ?_⟩
  subst p1
  cases x with
  | true => rw [if_pos rfl] at h1 ⊢; exact ⟨sl, cs1, μ1, U1, r1, rs.mono g1, h1⟩
  | false => rw [if_neg Bool.false_ne_true] at h1 ⊢; exact ⟨sl, cs1, μ1, U1, r1, rs.mono g1, h1⟩
theorem rd_asg {i : Nat} (D : Ends) (σ : L2.St) (H : Hp) (q : rdS X.K X.mg W (sAsg i f) D σ H) : tAsg (rdE X.K X.mg W f) (gName i) D σ H := by
  obtain ⟨sl, cs, μ, U, r0, rs, q⟩ := q
  exact ⟨sl, cs, μ, U, r0, rs, OutS.seq q rs fun x cs1 w U1 H1 μ1 _ g1 r1 p1 h1 => h1 _ _ _ _ Gr.refl r1 ((rs.mono g1).set p1 i)⟩
theorem s_asg {i : Nat} {x : Str} {pos' : Pos} (hN : X.N.Nodup) (he : PE X e (rdE X.K X.mg W f)) (hi : X.N[i]? = some x := by rfl) (hx : Loc X.env.scope x := by first | exact Or.inl rfl | exact Or.inr rfl) (hs : swapsWith e (some (.Name x pos')) pos.line X.env = pure false := by rfl) (hf : X.fn x = true ∨ X.env.scope.names.lookup x = some .local := by first | exact .inl rfl | exact .inr rfl | assumption) :
    PS X (.Assign [.Name x pos'] e pos) (rdS X.K X.mg W (sAsg i f)) := PS.le (ps_set hN hi hx he hs hf) rd_asg
end

/-! ### o[i] = e, x op= e -/
def putIx (o i v : Pv) (cs : Cells) : Option Cells := match o, i with
  | .ref k, .int j => match cs[k]? with
    | some (.lst xs) => match ixN xs.length j with
      | some m => some (cs.set k (.lst (xs.set m v)))
      | none => none
    | _ => none
  | _, _ => none
def sPutIx (o i f : FE) : FS := fun sl cs => (f sl cs).go sl fun v cs1 => (o sl cs1).go sl fun ov cs2 => (i sl cs2).go sl fun iv cs3 => match putIx ov iv v cs3 with
  | some cs4 => .nx sl cs4
  | none => .bad
def sAug (i : Nat) (o : F2) (f : FE) : FS := fun sl cs => match sl[i]? with
  | some (some x) => (f sl cs).go sl fun y cs1 => (o x y cs1).go sl fun z cs2 => .nx (sl.set i (some z)) cs2
  | _ => .bad
section
variable {X : Cx} {W : WE} {f fo fi : FE} {e o i : Expr} {pos tp : Pos}
theorem s_putIx (he : PE X e (rdE X.K X.mg W f)) (ho : PE X o (rdE X.K X.mg W fo)) (hi : PE X i (rdE X.K X.mg W fi))
    (ha : ∀ v, assign (.Subscript o i tp) X.env v = (do
      let ov ← holding [v] (eval o X.env)
      let iv ← holding [v, ov] (eval i X.env)
      standAt tp
      holding [v, ov, iv] (setItem ov iv v)
      release [v, ov, iv] []) := by intro _; rfl)
    (hs : swapsWithSole [.Subscript o i tp] e pos.line X.env = pure false := by rfl) (hw : swappedStores [.Subscript o i tp] e X.env = pure none := by rfl)
    (h1 : (assignEach [.Subscript o i tp] X.env).map (·.2) = [assign (.Subscript o i tp) X.env] := by rfl) :
    PS X (.Assign [.Subscript o i tp] e pos) (rdS X.K X.mg W (sPutIx fo fi f)) := PS.le (ps_asg he (pg_sub ho hi set_list ha) hs hw h1) fun D σ H q => by
  obtain ⟨sl, cs, μ, U, r0, rs, q⟩ := q
  refine ⟨sl, cs, μ, U, r0, rs, OutS.seq q rs fun x cs1 w U1 H1 μ1 _ g1 r1 p1 h1 => ?_⟩
  refine ⟨sl, cs1, μ1, U1, r1, rs.mono g1, OutS.seq h1 (rs.mono g1) fun ov cs2 wo U2 H2 μ2 _ g2 r2 p2 h2 => ?_⟩
  refine ⟨sl, cs2, μ2, U2, r2, (rs.mono g1).mono g2, OutS.seq h2 ((rs.mono g1).mono g2) fun iv cs3 wi U3 H3 μ3 _ g3 r3 p3 h3 => ?_⟩
  split at h3
  · rename_i cs4 e4
    unfold putIx at e4
    split at e4
    · split at e4
      · rename_i xs hk
        split at e4
        · rename_i m hm
          cases e4
          cases p3
          have p2' := p2.mono g3.vv g3.mm
          cases p2' with
          | ref hμ =>
            obtain ⟨ws, q1, q2⟩ := r3.cel _ _ _ hk hμ
            refine ⟨_, ws, _, m, rfl, rfl, q1, by rw [← q2.length]; exact hm, ?_⟩
            have px := (p1.mono g2.vv g2.mm).mono g3.vv g3.mm
            obtain ⟨r4, g4⟩ := r3.put (c' := .lst (xs.set m x)) (o := .lst (ws.set m w)) hk (fun z => nomatch z) hμ ⟨_, rfl, RepVs.set px m q2⟩
            exact h3 _ _ _ _ g4 r4 (((rs.mono g1).mono g2).mono g3 |>.mono g4)
        · cases e4
      · cases e4
    · cases e4
  · exact h3.elim
theorem s_aug {i : Nat} {x : Str} {op : Operator} {ti : TIp} {oo : F2} {pos' : Pos} (hN : X.N.Nodup) (ho : PIp X op ti) (hr : Ok2 X.K X.mg oo ti) (he : PE X e (rdE X.K X.mg W f)) (hi : X.N[i]? = some x := by rfl) (hx : Loc X.env.scope x := by first | exact Or.inl rfl | exact Or.inr rfl) (hf : X.fn x = true ∨ X.env.scope.names.lookup x = some .local := by first | exact .inl rfl | exact .inr rfl | assumption) :
    PS X (.AugAssign (.Name x pos') op e pos) (rdS X.K X.mg W (sAug i oo f)) := PS.le (ps_aug hN hi hx he ho hf) fun D σ H q => by
  obtain ⟨sl, cs, μ, U, r0, rs, q⟩ := q
  unfold sAug at q
  split at q
  · rename_i y ey
    obtain ⟨w0, h1, h2⟩ := rs.val i y ey
    refine ⟨w0, h1, sl, cs, μ, U, r0, rs, OutS.seq q rs fun x cs1 w U1 H1 μ1 _ g1 r1 p1 h1 => ?_⟩
    exact hr _ y x cs1 w0 w U1 H1 μ1 _ r1 (h2.mono g1.vv g1.mm) p1 (OutS.seq h1 (rs.mono g1) fun z cs2 wz U2 H2 μ2 _ g2 r2 p2 h3 => h3 _ _ _ _ Gr.refl r2 (((rs.mono g1).mono g2).set p2 i))
  · exact q.elim
end
def oAddI : F2 := fun x y cs => match x, y with
  | .int i, .int j => .ok (.int (i + j)) cs
  | _, _ => .bad
theorem ok_addI {K : PySem.W.Frag} {mg : Str → Option Value} : Ok2 K mg oAddI (ipI fun i j => i + j) := by
  intro E x y cs v w U H μ Q r hx hy h
  unfold oAddI at h
  split at h
  · cases hx; cases hy
    exact ⟨_, _, rfl, rfl, out_val r (.int _) h⟩
  · exact h.elim
end AL

set_option Elab.async false
set_option linter.all false
set_option autoImplicit false
set_option maxRecDepth 100000
set_option maxHeartbeats 4000000
/-! Own layer, part 5: targets, loops, comprehensions. -/
namespace AL
open PySem PySem.Spec PyProof.Rows L2

/-! ### targets -/
abbrev FG := Pv → Sl → Cells → Option Sl
abbrev FGs := List Pv → Sl → Cells → Option Sl
def gN (i : Nat) : FG := fun v sl _ => some (sl.set i (some v))
def gsNil : FGs := fun vs sl _ => match vs with
  | [] => some sl
  | _ => none
def gsCons (g : FG) (r : FGs) : FGs := fun vs sl cs => match vs with
  | v :: vs => (g v sl cs).bind fun sl' => r vs sl' cs
  | [] => none
def gT (n : Nat) (r : FGs) : FG := fun v sl cs => match asT v with
  | some xs => if xs.length = n then r xs sl cs else none
  | none => none
theorem wipe_get (σ : L2.St) (i : Nat) : ∀ vs : List Nat, (wipe σ vs)[i]? = if i ∈ vs ∧ i < σ.length then some none else σ[i]?
  | [] => by simp [wipe]
  | v :: vs => by
    show ((wipe σ vs).set v none)[i]? = _
    by_cases hv : v = i
    · subst hv
      by_cases hl : v < σ.length
      · rw [List.getElem?_set_self (by rw [wipe_length]; exact hl), if_pos ⟨List.mem_cons_self, hl⟩]
      · rw [if_neg (fun z => hl z.2), List.getElem?_eq_none (by rw [List.length_set, wipe_length]; omega), List.getElem?_eq_none (by omega)]
    · rw [List.getElem?_set_ne hv, wipe_get σ i vs]
      by_cases hm : i ∈ vs ∧ i < σ.length
      · rw [if_pos hm, if_pos ⟨List.mem_cons_of_mem _ hm.1, hm.2⟩]
      · rw [if_neg hm, if_neg]
        intro z
        rcases List.mem_cons.mp z.1 with e | e
        · exact hv e.symm
        · exact hm ⟨e, z.2⟩
theorem wipe_set {σ : L2.St} {i : Nat} {x : Option V} {vs : List Nat} (h : i ∈ vs) : wipe (σ.set i x) vs = wipe σ vs := by
  refine List.ext_getElem? fun j => ?_
  rw [wipe_get, wipe_get, List.length_set]
  by_cases hj : j ∈ vs ∧ j < σ.length
  · rw [if_pos hj, if_pos hj]
  · rw [if_neg hj, if_neg hj]
    by_cases e : i = j
    · subst e
      have hl : ¬ i < σ.length := fun z => hj ⟨h, z⟩
      rw [List.getElem?_eq_none (by rw [List.length_set]; omega), List.getElem?_eq_none (by omega)]
    · rw [List.getElem?_set_ne e]
theorem wipe_wipe (σ : L2.St) (vs : List Nat) : wipe (wipe σ vs) vs = wipe σ vs := by
  refine List.ext_getElem? fun j => ?_
  rw [wipe_get, wipe_get, wipe_length]
  by_cases hj : j ∈ vs ∧ j < σ.length
  · rw [if_pos hj, if_pos hj]
  · rw [if_neg hj]
def wipeS (sl : Sl) : List Nat → Sl
  | [] => sl
  | v :: vs => (wipeS sl vs).set v none
theorem RelS.wipe {K : PySem.W.Frag} {mg : Str → Option Value} {U : Hp} {μ : List Addr} {sl : Sl} {σ : L2.St} (r : RelS K mg none U μ sl σ) : ∀ vs : List Nat, RelS K mg none U μ (wipeS sl vs) (L2.wipe σ vs)
  | [] => r
  | v :: vs => (RelS.wipe r vs).setNone v
section
variable (K : PySem.W.Frag) (mg : Str → Option Value)
def rdG (xa : Option Xa) (vs : List Nat) (g : FG) : TG := fun v σ H Q => ∃ p sl cs μ U sl', Rel0 K mg cs μ U H ∧ RelS K mg xa U μ sl σ ∧ RepV K mg U μ p v ∧ g p sl cs = some sl' ∧ ∀ σ', RelS K mg xa U μ sl' σ' → wipe σ' vs = wipe σ vs → Q σ' H
def rdGs (xa : Option Xa) (vs : List Nat) (g : FGs) : TGs := fun ws σ H Q => ∃ ps sl cs μ U sl', Rel0 K mg cs μ U H ∧ RelS K mg xa U μ sl σ ∧ RepVs K mg U μ ps ws ∧ g ps sl cs = some sl' ∧ ∀ σ', RelS K mg xa U μ sl' σ' → wipe σ' vs = wipe σ vs → Q σ' H
end
theorem PG.le {X : Cx} {e : Expr} {t t' : TG} (h : PG X e t) (l : ∀ v σ H Q, t' v σ H Q → t v σ H Q) : PG X e t' := ⟨fun pins s σ H v u Q I r q => h.run pins s σ H v u Q I r (l v σ H Q q)⟩
theorem PGs.le {X : Cx} {e : List Expr} {t t' : TGs} (h : PGs X e t) (l : ∀ v σ H Q, t' v σ H Q → t v σ H Q) : PGs X e t' := ⟨fun pins s σ H v u Q I r q => h.run pins s σ H v u Q I r (l v σ H Q q)⟩
section
variable {X : Cx} {xa : Option Xa} {vs : List Nat} {g : FG} {gs : FGs} {e : Expr} {es : List Expr} {pos : Pos}
theorem g_name {i : Nat} {x : Str} (hN : X.N.Nodup) (hv : i ∈ vs := by decide) (hi : X.N[i]? = some x := by rfl) (hx : Loc X.env.scope x := by first | exact Or.inl rfl | exact Or.inr rfl) (hf : X.fn x = true ∨ X.env.scope.names.lookup x = some .local := by first | exact .inl rfl | exact .inr rfl | assumption) : PG X (.Name x pos) (rdG X.K X.mg xa vs (gN i)) :=
  PG.le (pg_name hN hi hx hf) fun v σ H Q q => by
    obtain ⟨p, sl, cs, μ, U, sl', r0, rs, rp, e, q⟩ := q
    cases e
    exact q _ (rs.set rp i) (wipe_set hv)
theorem gs_nil : PGs X [] (rdGs X.K X.mg xa vs gsNil) := PGs.le pgs_nil fun v σ H Q q => by
  obtain ⟨p, sl, cs, μ, U, sl', r0, rs, rp, e, q⟩ := q
  unfold gsNil at e
  split at e
  · cases e; cases rp
    exact ⟨rfl, q _ rs rfl⟩
  · cases e
theorem gs_cons (h1 : PG X e (rdG X.K X.mg xa vs g)) (h2 : PGs X es (rdGs X.K X.mg xa vs gs)) (hs : (assignEach (e :: es) X.env).map (·.2) = assign e X.env :: (assignEach es X.env).map (·.2) := by rfl) : PGs X (e :: es) (rdGs X.K X.mg xa vs (gsCons g gs)) :=
  PGs.le (pgs_cons h1 h2 hs) fun v σ H Q q => by
    obtain ⟨p, sl, cs, μ, U, sl', r0, rs, rp, e, q⟩ := q
    unfold gsCons at e
    split at e
    · obtain ⟨sl1, e1, e2⟩ := Option.bind_eq_some_iff.mp e
      cases rp with
      | cons r1 r2 => exact ⟨_, _, rfl, _, sl, cs, μ, U, sl1, r0, rs, r1, e1, fun σ1 rs1 w1 => ⟨_, sl1, cs, μ, U, sl', r0, rs1, r2, e2, fun σ2 rs2 w2 => q σ2 rs2 (w2.trans w1)⟩⟩
    · cases e
theorem g_tup {k : Nat} {n : Nat} (hc : X.calm = true) (h : PGs X es (rdGs X.K X.mg xa vs gs)) (hn : (assignEach es X.env).length = n := by rfl) (hst : (assignEach es X.env).findIdx? (·.1) = none := by rfl) : PG X (.Tuple es k pos) (rdG X.K X.mg xa vs (gT n gs)) :=
  PG.le (pg_tup hc h hn hst) fun v σ H Q q => by
    obtain ⟨p, sl, cs, μ, U, sl', r0, rs, rp, e, q⟩ := q
    unfold gT at e
    split at e
    · rename_i xs ex
      split at e
      · rename_i el
        obtain ⟨a, ws, rfl, s, rq⟩ := asT_ok r0 rp ex
        exact ⟨a, ws, rfl, s, by rw [← rq.length]; exact el, xs, sl, cs, μ, U, sl', r0, rs, rq, e, q⟩
      · cases e
    · cases e
end
/-- target = e, a target of several names -/
def sAsgG (g : FG) (f : FE) : FS := fun sl cs => (f sl cs).go sl fun v cs1 => match g v sl cs1 with
  | some sl' => .nx sl' cs1
  | none => .bad
section
variable {X : Cx} {W : WE} {vs : List Nat} {g : FG} {f : FE} {e tg : Expr} {pos : Pos}
theorem s_asgG (he : PE X e (rdE X.K X.mg W f)) (hg : PG X tg (rdG X.K X.mg W.x vs g)) (hs : swapsWithSole [tg] e pos.line X.env = pure false := by rfl) (hw : swappedStores [tg] e X.env = pure none := by rfl)
    (h1 : (assignEach [tg] X.env).map (·.2) = [assign tg X.env] := by rfl) : PS X (.Assign [tg] e pos) (rdS X.K X.mg W (sAsgG g f)) := PS.le (ps_asg he hg hs hw h1) fun D σ H q => by
  obtain ⟨sl, cs, μ, U, r0, rs, q⟩ := q
  refine ⟨sl, cs, μ, U, r0, rs, OutS.seq q rs fun x cs1 w U1 H1 μ1 _ g1 r1 p1 h1 => ?_⟩
  split at h1
  · rename_i sl' e'
    exact ⟨x, sl, cs1, μ1, U1, sl', r1, rs.mono g1, p1, e', fun σ' rs' _ => h1 _ _ _ _ Gr.refl r1 rs'⟩
  · exact h1.elim
end

/-! ### what is walked -/
inductive Src where
  | fz (ps : List Pv) | lv (it : Nat → Cells → Option (Option Pv))
def Src.it : Src → Nat → Cells → Option (Option Pv)
  | .fz ps, i, _ => if i ≤ ps.length then some ps[i]? else none
  | .lv it, i, cs => it i cs
abbrev FI := Sl → Cells → Res Src
def ItOk (K : PySem.W.Frag) (mg : Str → Option Value) (it : Nat → Cells → Option (Option Pv)) (J : It) (U0 : Hp) (μ0 : List Addr) : Prop :=
  ∀ U H μ cs i, Ex U0 U → μ0 <+: μ → Rel0 K mg cs μ U H → match it i cs with
    | some (some p) => J.go i H ∧ ∀ x H', J.yld i H x H' → ∃ U', Gr U H μ U' H' μ ∧ Rel0 K mg cs μ U' H' ∧ RepV K mg U' μ p x
    | some none => J.stop i H
    | none => True
def rdI (K : PySem.W.Frag) (mg : Str → Option Value) (W : WE) (f : FI) : TI := fun σ H R => ∃ sl cs μ U, Rel0 K mg cs μ U H ∧ RelS K mg W.x U μ sl σ ∧ Out K mg (fun U μ s J => ItOk K mg s.it J U μ) (fun c d H => W.w c d σ H) U H μ (f sl cs) R
theorem PI.le {X : Cx} {tg e : Expr} {t t' : TI} (h : PI X tg e t) (l : ∀ σ H R, t' σ H R → t σ H R) : PI X tg e t' := ⟨fun pins s σ H R I q => h.run pins s σ H R I (l σ H R q)⟩
theorem PI.or {X : Cx} {tg e : Expr} {t t' : TI} (h : PI X tg e t) (h' : PI X tg e t') : PI X tg e (fun σ H R => t σ H R ∨ t' σ H R) := ⟨fun pins s σ H R I q => q.elim (h.run pins s σ H R I) (h'.run pins s σ H R I)⟩
/-- a list, a tuple -/
def cellIt (k : Nat) : Nat → Cells → Option (Option Pv) := fun i cs => match cs[k]? with
  | some (.lst xs) => some xs[i]?
  | _ => none
def srcOf (cs : Cells) : Pv → Option Src
  | .tup xs => some (.fz xs)
  | .lst xs => some (.fz xs)
  | .ref k => match cs[k]? with
    | some (.lst _) => some (.lv (cellIt k))
    | _ => none
  | _ => none
def iSeq (f : FE) : FI := fun sl cs => (f sl cs).bind fun v cs1 => match srcOf cs1 v with
  | some s => .ok s cs1
  | none => .bad
def rngOk (j : Int) : Bool := Nat.ble j.natAbs 16777216
theorem rngOk.ok {j : Int} (h : rngOk j = true) : -(2 ^ 62) ≤ j ∧ j < 2 ^ 62 := by
  have h1 := Nat.le_of_ble_eq_true h
  omega
theorem rngOk.of {j : Int} (h : 0 ≤ j) (h2 : j ≤ 16777216) : rngOk j = true := Nat.ble_eq_true_of_le (by omega)
def iRange1 (f : FE) : FI := fun sl cs => (f sl cs).bind fun v cs1 => match v with
  | .int j => guard_ (rngOk j) (.ok (.fz ((List.range j.toNat).map fun (k : Nat) => .int (k : Int))) cs1)
  | _ => .bad
def iRange2 (f g : FE) : FI := fun sl cs => (f sl cs).bind fun u cs1 => (g sl cs1).bind fun v cs2 => match u, v with
  | .int i, .int j => guard_ (rngOk i && rngOk j) (.ok (.fz ((List.range (j - i).toNat).map fun (k : Nat) => .int (i + (k : Int)))) cs2)
  | _, _ => .bad
section
variable {K : PySem.W.Frag} {mg : Str → Option Value}
theorem it_list {U0 : Hp} {μ0 : List Addr} {a : Addr} {ps : List Pv} {ws : List V} (s : SqL K U0 a ws) (q : RepVs K mg U0 μ0 ps ws) : ItOk K mg (Src.fz ps).it (Itl K a) U0 μ0 := by
  intro U H μ cs i e m r
  show match (if i ≤ ps.length then some ps[i]? else none) with | some (some p) => _ | some none => _ | none => _
  by_cases hle : i ≤ ps.length
  case neg => rw [if_neg hle]; trivial
  rw [if_pos hle]
  have sH := r.vh.l (e.l s)
  cases hp : ps[i]? with
  | some p =>
    obtain ⟨v, h1, h2⟩ := q.at hp
    refine ⟨⟨ws, v, sH, h1⟩, fun x H' y => ?_⟩
    obtain ⟨rfl, y⟩ := y
    have := y ws sH
    rw [h1] at this; cases this
    exact ⟨U, Gr.refl, r, h2.mono e m⟩
  | none => exact ⟨ws, sH, by rw [← q.length]; exact List.getElem?_eq_none_iff.mp hp⟩
theorem it_tup {U0 : Hp} {μ0 : List Addr} {a : Addr} {ps : List Pv} {ws : List V} (s : SqT K U0 a ws) (q : RepVs K mg U0 μ0 ps ws) : ItOk K mg (Src.fz ps).it (Itt K a) U0 μ0 := by
  intro U H μ cs i e m r
  show match (if i ≤ ps.length then some ps[i]? else none) with | some (some p) => _ | some none => _ | none => _
  by_cases hle : i ≤ ps.length
  case neg => rw [if_neg hle]; trivial
  rw [if_pos hle]
  have sH := r.vh.t (e.t s)
  cases hp : ps[i]? with
  | some p =>
    obtain ⟨v, h1, h2⟩ := q.at hp
    refine ⟨⟨ws, v, sH, h1⟩, fun x H' y => ?_⟩
    obtain ⟨rfl, y⟩ := y
    have := y ws sH
    rw [h1] at this; cases this
    exact ⟨U, Gr.refl, r, h2.mono e m⟩
  | none => exact ⟨ws, sH, by rw [← q.length]; exact List.getElem?_eq_none_iff.mp hp⟩
theorem it_cell {U0 : Hp} {μ0 : List Addr} {a : Addr} {k : Nat} (h : μ0[k]? = some a) : ItOk K mg (Src.lv (cellIt k)).it (Itl K a) U0 μ0 := by
  intro U H μ cs i e m r
  show match cellIt k i cs with | some (some p) => _ | some none => _ | none => _
  unfold cellIt
  split
  · rename_i p hp
    split at hp
    · rename_i xs hk
      obtain ⟨ws, h1, q⟩ := r.cel k _ a hk (pre_get m h)
      obtain ⟨v, h2, h3⟩ := q.at (Option.some.inj hp)
      refine ⟨⟨ws, v, .of h1, h2⟩, fun x H' y => ?_⟩
      obtain ⟨rfl, y⟩ := y
      have := y ws (.of h1)
      rw [h2] at this; cases this
      exact ⟨U, Gr.refl, r, h3⟩
    · cases hp
  · rename_i hp
    split at hp
    · rename_i xs hk
      obtain ⟨ws, h1, q⟩ := r.cel k _ a hk (pre_get m h)
      exact ⟨ws, .of h1, by rw [← q.length]; exact List.getElem?_eq_none_iff.mp (Option.some.inj hp)⟩
    · cases hp
  · trivial
theorem it_range {U0 : Hp} {μ0 : List Addr} {lo : Int} {n : Nat} : ItOk K mg (Src.fz ((List.range n).map fun (k : Nat) => .int (lo + (k : Int)))).it (Itr lo n) U0 μ0 := by
  intro U H μ cs i e m r
  show match (if i ≤ ((List.range n).map fun (k : Nat) => Pv.int (lo + (k : Int))).length then some ((List.range n).map fun (k : Nat) => Pv.int (lo + (k : Int)))[i]? else none) with | some (some p) => _ | some none => _ | none => _
  by_cases hle : i ≤ ((List.range n).map fun (k : Nat) => Pv.int (lo + (k : Int))).length
  case neg => rw [if_neg hle]; trivial
  rw [if_pos hle]
  by_cases hi : i < n
  · rw [List.getElem?_map, List.getElem?_range hi]
    refine ⟨hi, fun x H' y => ?_⟩
    obtain ⟨rfl, rfl⟩ := y
    exact ⟨U, Gr.refl, r, .int _⟩
  · rw [List.getElem?_eq_none (by rw [List.length_map, List.length_range]; omega)]
    exact Nat.not_lt.mp hi
theorem it_range0 {U0 : Hp} {μ0 : List Addr} (n : Nat) : ItOk K mg (Src.fz ((List.range n).map fun (k : Nat) => .int (k : Int))).it (Itr 0 n) U0 μ0 := by
  have := it_range (K := K) (mg := mg) (U0 := U0) (μ0 := μ0) (lo := 0) (n := n)
  simp only [Int.zero_add] at this
  exact this
end
section
variable {X : Cx} {W : WE} {f g : FE} {e e2 tg : Expr} {p pos : Pos}
theorem i_seq (he : PE X e (rdE X.K X.mg W f)) : PI X tg e (rdI X.K X.mg W (iSeq f)) := PI.le (PI.or (pi_list he) (pi_tup he)) fun σ H R q => by
  obtain ⟨sl, cs, μ, U, r0, rs, q⟩ := q
  unfold iSeq at q
  cases hf : f sl cs with
  | bad => rw [hf] at q; exact q.elim
  | exn c fs cs1 =>
    rw [hf] at q
    refine .inl ⟨sl, cs, μ, U, r0, rs, ?_⟩
    rw [hf]
    exact q
  | ok v cs1 =>
    rw [hf] at q
    have q : Out X.K X.mg (fun U μ (s : Src) J => ItOk X.K X.mg s.it J U μ) (fun c d H => W.w c d σ H) U H μ (match srcOf cs1 v with | some s => .ok s cs1 | none => .bad) R := q
    split at q
    · rename_i s es
      unfold srcOf at es
      split at es
      · cases es
        refine .inr ⟨sl, cs, μ, U, r0, rs, ?_⟩
        rw [hf]
        intro w U1 H1 μ1 g1 r1 p1
        cases p1 with
        | tup s rp => exact ⟨_, rfl, ⟨_, r1.vh.t s⟩, q _ _ _ _ g1 r1 (it_tup s rp)⟩
      · cases es
        refine .inl ⟨sl, cs, μ, U, r0, rs, ?_⟩
        rw [hf]
        intro w U1 H1 μ1 g1 r1 p1
        cases p1 with
        | lst s rp => exact ⟨_, rfl, ⟨_, r1.vh.l s⟩, q _ _ _ _ g1 r1 (it_list s rp)⟩
      · split at es
        · rename_i k xs hk
          cases es
          refine .inl ⟨sl, cs, μ, U, r0, rs, ?_⟩
          rw [hf]
          intro w U1 H1 μ1 g1 r1 p1
          cases p1 with
          | ref hm =>
            obtain ⟨ws, h1, _⟩ := r1.cel _ _ _ hk hm
            exact ⟨_, rfl, ⟨_, .of h1⟩, q _ _ _ _ g1 r1 (it_cell hm)⟩
        · cases es
      · cases es
    · exact q.elim
theorem i_range1 (hm : X.mg "range" = none) (ha : PE X e (rdE X.K X.mg W f)) (hg : Gl X "range" := by rfl) (hs : starEach [e] X.env = [(false, eval e X.env)] := by rfl) (hs1 : starEach [e] X.env = (false, eval e X.env) :: starEach [] X.env := by rfl) : PI X tg (.Call (.Name "range" p) [e] [] pos) (rdI X.K X.mg W (iRange1 f)) :=
  PI.le (pi_range1 hg hm (a_cons ha a_nil hs1) hs) fun σ H R q => by
    obtain ⟨sl, cs, μ, U, r0, rs, q⟩ := q
    refine ⟨sl, cs, μ, U, r0, rs, ?_⟩
    unfold iRange1 at q
    show Out _ _ _ _ _ _ _ ((f sl cs).bind fun v cs1 => (Res.ok [] cs1).bind fun vs cs2 => .ok (v :: vs) cs2) _
    cases hf : f sl cs with
    | bad => rw [hf] at q; exact q.elim
    | exn c fs cs1 => rw [hf] at q; exact q
    | ok v cs1 =>
      rw [hf] at q
      intro w U1 H1 μ1 g1 r1 p1
      have q := Out.later g1 q
      simp only [Res.bind_ok] at q
      cases p1 with
      | cons h1 h2 =>
        cases h2
        split at q
        · cases h1
          obtain ⟨hz, q⟩ := out_guard q
          have hz := rngOk.ok hz
          refine ⟨_, rfl, hz.1, hz.2, q _ _ _ _ Gr.refl r1 (it_range0 _)⟩
        · exact q.elim
theorem i_range2 (hm : X.mg "range" = none) (ha : PE X e (rdE X.K X.mg W f)) (hb : PE X e2 (rdE X.K X.mg W g)) (hg : Gl X "range" := by rfl) (hs : starEach [e, e2] X.env = [(false, eval e X.env), (false, eval e2 X.env)] := by rfl) (hs2 : starEach [e2] X.env = [(false, eval e2 X.env)] := by rfl)
    (hs3 : starEach [e, e2] X.env = (false, eval e X.env) :: starEach [e2] X.env := by rfl) (hs4 : starEach [e2] X.env = (false, eval e2 X.env) :: starEach [] X.env := by rfl) : PI X tg (.Call (.Name "range" p) [e, e2] [] pos) (rdI X.K X.mg W (iRange2 f g)) :=
  PI.le (pi_range2 hg hm (a_cons ha (a_cons hb a_nil hs4) hs3) hs hs2) fun σ H R q => by
    obtain ⟨sl, cs, μ, U, r0, rs, q⟩ := q
    refine ⟨sl, cs, μ, U, r0, rs, ?_⟩
    unfold iRange2 at q
    show Out _ _ _ _ _ _ _ ((f sl cs).bind fun v cs1 => ((g sl cs1).bind fun v2 cs2 => (Res.ok [] cs2).bind fun vs cs3 => .ok (v2 :: vs) cs3).bind fun vs cs2 => .ok (v :: vs) cs2) _
    cases hf : f sl cs with
    | bad => rw [hf] at q; exact q.elim
    | exn c fs cs1 => rw [hf] at q; exact q
    | ok v cs1 =>
      rw [hf] at q
      simp only [Res.bind_ok] at q ⊢
      cases hg2 : g sl cs1 with
      | bad => rw [hg2] at q; exact q.elim
      | exn c fs cs1 => rw [hg2] at q; exact q
      | ok v2 cs2 =>
        rw [hg2] at q
        simp only [Res.bind_ok] at q ⊢
        intro w U1 H1 μ1 g1 r1 p1
        have q := Out.later g1 q
        cases p1 with
        | cons h1 h2 =>
          cases h2 with
          | cons h2 h3 =>
            cases h3
            split at q
            · cases h1; cases h2
              obtain ⟨hz, q⟩ := out_guard q
              have hz := Bool.and_eq_true_iff.mp hz
              have hz1 := rngOk.ok hz.1
              have hz2 := rngOk.ok hz.2
              exact ⟨_, _, rfl, ⟨hz1.1, hz1.2, hz2.1, hz2.2⟩, q _ _ _ _ Gr.refl r1 it_range⟩
            · exact q.elim
end

/-! ### for -/
def RS.turn : RS → (Sl → Cells → RS) → RS
  | .nx sl cs, k => k sl cs
  | .ct sl cs, k => k sl cs
  | .bk sl cs, _ => .nx sl cs
  | .rt v cs, _ => .rt v cs
  | .exn c fs sl cs, _ => .exn c fs sl cs
  | .bad, _ => .bad
@[simp] theorem RS.turn_nx (sl : Sl) (cs : Cells) (k : Sl → Cells → RS) : (RS.nx sl cs).turn k = k sl cs := rfl
@[simp] theorem RS.turn_ct (sl : Sl) (cs : Cells) (k : Sl → Cells → RS) : (RS.ct sl cs).turn k = k sl cs := rfl
@[simp] theorem RS.turn_bk (sl : Sl) (cs : Cells) (k : Sl → Cells → RS) : (RS.bk sl cs).turn k = .nx sl cs := rfl
@[simp] theorem RS.turn_rt (v : Pv) (cs : Cells) (k : Sl → Cells → RS) : (RS.rt v cs).turn k = .rt v cs := rfl
@[simp] theorem RS.turn_exn (c : Str) (fs : List (Str × Pv)) (sl : Sl) (cs : Cells) (k : Sl → Cells → RS) : (RS.exn c fs sl cs).turn k = .exn c fs sl cs := rfl
@[simp] theorem RS.turn_bad (k : Sl → Cells → RS) : RS.bad.turn k = .bad := rfl
def gTurn (g : FG) (body : FS) (v : Pv) : FS := fun sl cs => match g v sl cs with
  | some sl' => body sl' cs
  | none => .bad
def forN (it : Nat → Cells → Option (Option Pv)) (body : Pv → FS) : Nat → Nat → Sl → Cells → RS
  | 0, _, _, _ => .bad
  | n + 1, i, sl, cs => match it i cs with
    | some (some v) => (body v sl cs).turn (forN it body n (i + 1))
    | some none => .nx sl cs
    | none => .bad
def forL (body : Pv → FS) : List Pv → Sl → Cells → RS
  | [], sl, cs => .nx sl cs
  | v :: vs, sl, cs => (body v sl cs).turn (forL body vs)
/-- more turns than any run has -/
def FU : Nat := 1099511627776
theorem forN_fz (body : Pv → FS) (ps : List Pv) : ∀ (n i : Nat) (sl : Sl) (cs : Cells), i ≤ ps.length → ps.length < i + n → forN (Src.fz ps).it body n i sl cs = forL body (ps.drop i) sl cs
  | 0, i, sl, cs, h0, h => by omega
  | n + 1, i, sl, cs, h0, h => by
    show (match (if i ≤ ps.length then some ps[i]? else none) with | some (some v) => (body v sl cs).turn (forN (Src.fz ps).it body n (i + 1)) | some none => RS.nx sl cs | none => .bad) = _
    rw [if_pos h0]
    by_cases hi : i < ps.length
    · rw [List.getElem?_eq_getElem hi, List.drop_eq_getElem_cons hi]
      show (body ps[i] sl cs).turn (forN (Src.fz ps).it body n (i + 1)) = (body ps[i] sl cs).turn (forL body (ps.drop (i + 1)))
      congr 1
      funext sl' cs'
      exact forN_fz body ps n (i + 1) sl' cs' (by omega) (by omega)
    · rw [List.getElem?_eq_none (by omega), List.drop_eq_nil_iff.mpr (by omega)]
      rfl
def forS (body : Pv → FS) (s : Src) : FS := match s with
  | .fz ps => forL body ps
  | .lv it => forN it body FU 0
theorem forS_N (body : Pv → FS) (s : Src) : ∃ n, forS body s = forN s.it body n 0 := by
  cases s with
  | fz ps => exact ⟨ps.length + 1, funext fun sl => funext fun cs => by rw [forN_fz body ps _ 0 sl cs (by omega) (by omega)]; rfl⟩
  | lv it => exact ⟨FU, rfl⟩
def sFor (g : FG) (src : FI) (body : FS) : FS := fun sl cs => (src sl cs).go sl fun s cs1 => forS (gTurn g body) s sl cs1
theorem OutS.turn {K : PySem.W.Frag} {mg : Str → Option Value} {U H : Hp} {μ : List Addr} {W : WE} {D : Ends} {N : L2.St → Hp → Prop} {r : RS} {k : Sl → Cells → RS} (h : OutS K mg W D U H μ (r.turn k))
    (c : ∀ sl1 cs1 σ1 U1 H1 μ1, Gr U H μ U1 H1 μ1 → Rel0 K mg cs1 μ1 U1 H1 → RelS K mg W.x U1 μ1 sl1 σ1 → OutS K mg W D U1 H1 μ1 (k sl1 cs1) → N σ1 H1) : OutS K mg W { D with nx := N, ct := N, bk := D.nx } U H μ r := by
  cases r with
  | nx a cs => exact fun σ' U' H' μ' g' r' q => c a cs σ' U' H' μ' g' r' q (OutS.later g' h)
  | ct a cs => exact fun σ' U' H' μ' g' r' q => c a cs σ' U' H' μ' g' r' q (OutS.later g' h)
  | bk a cs => exact h
  | rt a cs => exact h
  | exn c fs sl cs => exact h
  | bad => exact h
section
variable {X : Cx} {W : WE} {vs : List Nat} {g : FG} {src : FI} {body : FS} {c : FT} {tg iter cc : Expr} {sts : List Stmt} {pos : Pos}
theorem s_for (hp : PassesOwn (model X.prog X.w) X.A X.env X.xe) (hc : X.calm = true) (hi : PI X tg iter (rdI X.K X.mg W src)) (hg : PG X tg (rdG X.K X.mg W.x vs g)) (hb : PSs X sts (rdS X.K X.mg W body))
    (hs : ∀ x, foldedSetIterable iter X.env x = pure x := by intro _; rfl) : PS X (.For tg iter sts [] pos) (rdS X.K X.mg W (sFor g src body)) := PS.le (ps_for hp hc hi hg hb hs) fun D σ H q => by
  obtain ⟨sl, cs, μ, U, r0, rs, q⟩ := q
  refine ⟨sl, cs, μ, U, r0, rs, OutS.seq q rs fun s cs1 J U1 H1 μ1 _ g1 r1 hJ h1 => ?_⟩
  obtain ⟨n, en⟩ := forS_N (gTurn g body) s
  rw [en] at h1
  refine ⟨fun i m σ H => ∃ sl cs μ U, Ex U1 U ∧ μ1 <+: μ ∧ Rel0 X.K X.mg cs μ U H ∧ RelS X.K X.mg W.x U μ sl σ ∧ OutS X.K X.mg W D U H μ (forN s.it (gTurn g body) m i sl cs), ⟨n, sl, cs1, μ1, U1, Ex.refl _, List.prefix_refl _, r1, rs.mono g1, h1⟩, ?_⟩
  rintro i m σ2 H2 ⟨sl2, cs2, μ2, U2, ex, mm, r2, rs2, h2⟩
  cases m with
  | zero => exact h2.elim
  | succ m =>
    have hJ2 := hJ U2 H2 μ2 cs2 i ex mm r2
    have h2 : OutS X.K X.mg W D U2 H2 μ2 (match s.it i cs2 with | some (some v) => (gTurn g body v sl2 cs2).turn (forN s.it (gTurn g body) m (i + 1)) | some none => .nx sl2 cs2 | none => .bad) := h2
    cases hv : s.it i cs2 with
    | none => rw [hv] at h2; exact h2.elim
    | some o =>
      rw [hv] at h2 hJ2
      cases o with
      | none => exact .inl ⟨hJ2, h2 _ _ _ _ Gr.refl r2 rs2⟩
      | some v =>
        obtain ⟨go, yl⟩ := hJ2
        refine .inr ⟨go, fun σ H => ∃ sl cs μ U, Ex U1 U ∧ μ1 <+: μ ∧ Rel0 X.K X.mg cs μ U H ∧ RelS X.K X.mg W.x U μ sl σ ∧ OutS X.K X.mg W D U H μ (forN s.it (gTurn g body) m (i + 1) sl cs), fun σ' H' hN => ⟨m, Nat.lt_succ_self _, hN⟩, fun x H' y => ?_⟩
        obtain ⟨U3, g3, r3, p3⟩ := yl x H' y
        have h3 := OutS.later g3 h2
        have h3 : OutS X.K X.mg W D U3 H' μ2 ((match g v sl2 cs2 with | some sl' => body sl' cs2 | none => .bad).turn (forN s.it (gTurn g body) m (i + 1))) := h3
        split at h3
        · rename_i sl' e'
          refine ⟨v, sl2, cs2, μ2, U3, sl', r3, rs2.mono g3, p3, e', fun σ' rs' _ => ⟨sl', cs2, μ2, U3, r3, rs', OutS.turn h3 fun sl4 cs4 σ4 U4 H4 μ4 g4 r4 rs4 h4 => ?_⟩⟩
          exact ⟨sl4, cs4, μ4, U4, (ex.trans g3.vv).trans g4.vv, mm.trans g4.mm, r4, rs4, h4⟩
        · exact h3.elim

/-! ### while -/
end
def whileN (c : FT) (body : FS) : Nat → Sl → Cells → RS
  | 0, _, _ => .bad
  | n + 1, sl, cs => (c sl cs).go sl fun b cs1 => if b = true then (body sl cs1).turn (whileN c body n) else .nx sl cs1
def sWhile (c : FT) (body : FS) : FS := whileN c body FU
section
variable {X : Cx} {W : WE} {c : FT} {body : FS} {cc : Expr} {sts : List Stmt} {pos : Pos}
theorem s_while (hp : PassesOwn (model X.prog X.w) X.A X.env X.xe) (hc : PT X cc (rdT X.K X.mg W c)) (hb : PSs X sts (rdS X.K X.mg W body)) : PS X (.While cc sts [] pos) (rdS X.K X.mg W (sWhile c body)) := PS.le (ps_while hp hc hb) fun D σ H q => by
  obtain ⟨sl, cs, μ, U, r0, rs, q⟩ := q
  refine ⟨fun m σ H => ∃ sl cs μ U, Rel0 X.K X.mg cs μ U H ∧ RelS X.K X.mg W.x U μ sl σ ∧ OutS X.K X.mg W D U H μ (whileN c body m sl cs), ⟨FU, sl, cs, μ, U, r0, rs, q⟩, ?_⟩
  rintro m σ2 H2 ⟨sl2, cs2, μ2, U2, r2, rs2, h2⟩
  cases m with
  | zero => exact h2.elim
  | succ m =>
    refine ⟨sl2, cs2, μ2, U2, r2, rs2, OutS.seq h2 rs2 fun b cs3 w U3 H3 μ3 _ g3 r3 p3 h3 => ?_⟩
    subst p3
    cases b with
    | false => rw [if_neg Bool.false_ne_true] at h3 ⊢; exact h3 _ _ _ _ Gr.refl r3 (rs2.mono g3)
    | true =>
      rw [if_pos rfl] at h3 ⊢
      refine ⟨fun σ H => ∃ sl cs μ U, Rel0 X.K X.mg cs μ U H ∧ RelS X.K X.mg W.x U μ sl σ ∧ OutS X.K X.mg W D U H μ (whileN c body m sl cs), fun σ' H' hN => ⟨m, Nat.lt_succ_self _, hN⟩, sl2, cs3, μ3, U3, r3, rs2.mono g3, OutS.turn h3 fun sl4 cs4 σ4 U4 H4 μ4 g4 r4 rs4 h4 => ⟨sl4, cs4, μ4, U4, r4, rs4, h4⟩⟩
end
end AL

set_option Elab.async false
set_option linter.all false
set_option autoImplicit false
set_option maxRecDepth 100000
set_option maxHeartbeats 4000000
/-! Own layer, part 6: comprehensions, calls of own defs, a def's promise, methods of lists. -/
namespace AL
open PySem PySem.Spec PyProof.Rows L2

/-! ### list comprehensions -/
/-- nothing is raised there -/
def noX {α : Type} : Res α → Res α
  | .ok a cs => .ok a cs
  | _ => .bad
@[simp] theorem noX_ok {α : Type} (a : α) (cs : Cells) : noX (.ok a cs) = .ok a cs := rfl
@[simp] theorem noX_bad {α : Type} : noX (.bad : Res α) = .bad := rfl
/-- one turn: nothing, or one more item -/
def lcTurn (g : FG) (c : FT) (e : FE) (sl : Sl) (v : Pv) (cs : Cells) : Res (Option Pv) := match g v sl cs with
  | some sl2 => (noX (c sl2 cs)).bind fun b cs1 => if b = true then (noX (e sl2 cs1)).bind fun y cs2 => .ok (some y) cs2 else .ok none cs1
  | none => .bad
def lcN (it : Nat → Cells → Option (Option Pv)) (turn : Pv → Cells → Res (Option Pv)) : Nat → Nat → List Pv → Cells → Res (List Pv)
  | 0, _, _, _ => .bad
  | n + 1, i, acc, cs => match it i cs with
    | some (some v) => (turn v cs).bind fun o cs1 => match o with
      | some y => guard_ (fits (acc.length + 1)) (lcN it turn n (i + 1) (acc ++ [y]) cs1)
      | none => lcN it turn n (i + 1) acc cs1
    | some none => .ok acc cs
    | none => .bad
def lcL (turn : Pv → Cells → Res (Option Pv)) : List Pv → Cells → Res (List Pv)
  | [], cs => .ok [] cs
  | v :: vs, cs => (turn v cs).bind fun o cs1 => (lcL turn vs cs1).bind fun ys cs2 => .ok (match o with | some y => y :: ys | none => ys) cs2
theorem Res.bind_assoc {α β γ : Type} (r : Res α) (k : α → Cells → Res β) (l : β → Cells → Res γ) : (r.bind k).bind l = r.bind fun a cs => (k a cs).bind l := by cases r <;> rfl
theorem Res.bind_id {α : Type} (r : Res α) : (r.bind fun a cs => .ok a cs) = r := by cases r <;> rfl
theorem lcN_fz (turn : Pv → Cells → Res (Option Pv)) (ps : List Pv) : ∀ (n i : Nat) (acc : List Pv) (cs : Cells), i ≤ ps.length → ps.length < i + n → acc.length + (ps.length - i) ≤ 16777216 →
    lcN (Src.fz ps).it turn n i acc cs = (lcL turn (ps.drop i) cs).bind fun ys cs1 => .ok (acc ++ ys) cs1
  | 0, i, acc, cs, h0, h, _ => by omega
  | n + 1, i, acc, cs, h0, h, hf => by
    show (match (if i ≤ ps.length then some ps[i]? else none) with
      | some (some v) => (turn v cs).bind fun o cs1 => match o with
        | some y => guard_ (fits (acc.length + 1)) (lcN (Src.fz ps).it turn n (i + 1) (acc ++ [y]) cs1)
        | none => lcN (Src.fz ps).it turn n (i + 1) acc cs1
      | some none => .ok acc cs
      | none => .bad) = _
    rw [if_pos h0]
    by_cases hi : i < ps.length
    · rw [List.getElem?_eq_getElem hi, List.drop_eq_getElem_cons hi]
      show (turn ps[i] cs).bind _ = ((turn ps[i] cs).bind _).bind _
      rw [Res.bind_assoc]
      congr 1
      funext o cs1
      rw [Res.bind_assoc]
      cases o with
      | some y =>
        show guard_ (fits (acc.length + 1)) _ = _
        rw [guard_of (show fits (acc.length + 1) = true from decide_eq_true (by omega))]
        rw [lcN_fz turn ps n (i + 1) (acc ++ [y]) cs1 (by omega) (by omega) (by rw [List.length_append, List.length_singleton]; omega)]
        congr 1
        funext ys cs2
        show Res.ok ((acc ++ [y]) ++ ys) cs2 = Res.ok (acc ++ (y :: ys)) cs2
        rw [List.append_assoc]
        rfl
      | none => exact lcN_fz turn ps n (i + 1) acc cs1 (by omega) (by omega) (by omega)
    · rw [List.getElem?_eq_none (by omega), List.drop_eq_nil_iff.mpr (by omega)]
      show Res.ok acc cs = Res.ok (acc ++ []) cs
      rw [List.append_nil]
def lcS (turn : Pv → Cells → Res (Option Pv)) (s : Src) (cs : Cells) : Res (List Pv) := match s with
  | .fz ps => guard_ (fits ps.length) (lcL turn ps cs)
  | .lv it => lcN it turn FU 0 [] cs
theorem lcS_N (turn : Pv → Cells → Res (Option Pv)) (s : Src) (cs : Cells) : lcS turn s cs = .bad ∨ ∃ n, lcS turn s cs = lcN s.it turn n 0 [] cs := by
  cases s with
  | fz ps =>
    show guard_ (fits ps.length) (lcL turn ps cs) = .bad ∨ _
    cases hf : fits ps.length with
    | false => exact .inl rfl
    | true =>
      refine .inr ⟨ps.length + 1, ?_⟩
      show guard_ (fits ps.length) (lcL turn ps cs) = _
      rw [guard_of hf, lcN_fz turn ps _ 0 [] cs (by omega) (by omega) (by have := of_decide_eq_true hf; simp; omega)]
      show lcL turn ps cs = (lcL turn ps cs).bind fun ys cs1 => .ok ys cs1
      rw [Res.bind_id]
  | lv it => exact .inr ⟨FU, rfl⟩
/-- [e for g in src if c], frozen | a cell; vs: the comprehension's own slots -/
def fLc (src : FI) (g : FG) (c : FT) (e : FE) (vs : List Nat) : FE := fun sl cs => (src sl cs).bind fun s cs1 => (lcS (lcTurn g c e (wipeS sl vs)) s cs1).bind fun ys cs2 => .ok (.lst ys) cs2
def fLcC (src : FI) (g : FG) (c : FT) (e : FE) (vs : List Nat) : FE := fun sl cs => (src sl cs).bind fun s cs1 => (lcS (lcTurn g c e (wipeS sl vs)) s cs1).bind fun ys cs2 => .ok (.ref cs2.length) (cs2 ++ [.lst ys])
def fYes : FT := fun _ cs => .ok true cs
abbrev W0 : WE := ⟨fun _ _ _ _ => False, none⟩
theorem out_noX {K : PySem.W.Frag} {mg : Str → Option Value} {α β γ δ : Type} {R : Hp → List Addr → α → γ → Prop} {R' : Hp → List Addr → β → δ → Prop} {E E' : XK} {U0 H0 U H : Hp} {μ0 μ : List Addr} {r : Res α} {k : α → Cells → Res β} {Q : δ → Hp → Prop} {Q1 : γ → Hp → Prop} (h : Out K mg R' E U0 H0 μ0 ((noX r).bind k) Q)
    (c : ∀ a cs1 w U1 H1 μ1, Gr U H μ U1 H1 μ1 → Rel0 K mg cs1 μ1 U1 H1 → R U1 μ1 a w → Out K mg R' E U0 H0 μ0 (k a cs1) Q → Q1 w H1) : Out K mg R E' U H μ r Q1 := by
  cases r with
  | ok a cs => exact fun w U' H' μ' g' r' q => c a cs w U' H' μ' g' r' q h
  | exn c fs cs => exact h.elim
  | bad => exact h.elim
section
variable {K : PySem.W.Frag} {mg : Str → Option Value} {W : WE} {src : FI} {g : FG} {c : FT} {e : FE} {vs : List Nat}
theorem rd_lc {mk : List Pv → Cells → Res Pv} (cell : Bool) (hmk : ∀ ys cs, mk ys cs = if cell = true then .ok (.ref cs.length) (cs ++ [.lst ys]) else .ok (.lst ys) cs) (σ : L2.St) (H : Hp) (Q : VK)
    (q : rdE K mg W (fun sl cs => (src sl cs).bind fun s cs1 => (lcS (lcTurn g c e (wipeS sl vs)) s cs1).bind mk) σ H Q) : tLc (rdI K mg W src) (rdG K mg none vs g) (rdT K mg W0 c) (rdE K mg W0 e) vs σ H Q := by
  obtain ⟨sl, cs, μ, U, r0, rs, q⟩ := q
  refine ⟨sl, cs, μ, U, r0, rs, Out.seq q fun s cs1 J U1 H1 μ1 _ g1 r1 hJ h1 => fun D hD => ?_⟩
  rcases lcS_N (lcTurn g c e (wipeS sl vs)) s cs1 with hb | ⟨n, hn⟩
  · rw [hb] at h1; exact h1.elim
  rw [hn] at h1
  obtain ⟨rD, gD⟩ := r1.hidden (o := .lst []) hD
  have hUD : U1 D = none := r1.vh.none hD
  have hmD : D ∉ μ1 := fun z => r1.there z hD
  have rs1 := (rs.mono g1).lose.wipe vs
  refine ⟨fun i m H => ∃ acc ws cs μ U, Gr U1 H1 μ1 U H μ ∧ Rel0 K mg cs μ U H ∧ H D = some (.lst ws) ∧ U D = none ∧ D ∉ μ ∧ RepVs K mg U μ acc ws ∧ Out K mg (RepV K mg) (fun c d H => W.w c d σ H) U1 H1 μ1 ((lcN s.it (lcTurn g c e (wipeS sl vs)) m i acc cs).bind mk) Q,
    ⟨n, [], [], cs1, μ1, U1, gD, rD, upd_same, hUD, hmD, .nil, h1⟩, ?_⟩
  rintro i m H2 ⟨acc, ws, cs2, μ2, U2, g2, r2, hD2, hU2, hm2, rp2, h2⟩
  cases m with
  | zero => exact h2.elim
  | succ m =>
    have hJ2 := hJ U2 H2 μ2 cs2 i g2.vv g2.mm r2
    have h2 : Out K mg (RepV K mg) (fun c d H => W.w c d σ H) U1 H1 μ1 ((match s.it i cs2 with
      | some (some v) => (lcTurn g c e (wipeS sl vs) v cs2).bind fun o cs1 => match o with
        | some y => guard_ (fits (acc.length + 1)) (lcN s.it (lcTurn g c e (wipeS sl vs)) m (i + 1) (acc ++ [y]) cs1)
        | none => lcN s.it (lcTurn g c e (wipeS sl vs)) m (i + 1) acc cs1
      | some none => .ok acc cs2
      | none => .bad).bind mk) Q := h2
    cases hv : s.it i cs2 with
    | none => rw [hv] at h2; exact h2.elim
    | some o =>
      rw [hv] at h2 hJ2
      cases o with
      | none =>
        refine .inl ⟨hJ2, ?_⟩
        have h2 : Out K mg (RepV K mg) (fun c d H => W.w c d σ H) U1 H1 μ1 (mk acc cs2) Q := h2
        rw [hmk] at h2
        cases cell with
        | false =>
          rw [if_neg Bool.false_ne_true] at h2
          obtain ⟨r3, ex3⟩ := r2.show_ hD2 hU2 hm2
          refine h2 _ _ _ μ2 ⟨g2.vv.trans ex3, g2.mm, fun a o ha hu hm => ?_⟩ r3 (.lst (.of upd_same) (rp2.mono ex3 (List.prefix_refl _)))
          obtain ⟨b1, b2, b3⟩ := g2.hid a o ha hu hm
          exact ⟨b1, by rw [upd_ne (ne_of_none ha hD)]; exact b2, b3⟩
        | true =>
          rw [if_pos rfl] at h2
          have pm : μ2 <+: μ2 ++ [D] := List.prefix_append _ _
          have r3 := r2.cell (p := D) (c := .lst acc) ⟨ws, hD2, rp2.mono (Ex.refl _) pm⟩ hU2 hm2
          refine h2 _ U2 _ (μ2 ++ [D]) ⟨g2.vv, g2.mm.trans pm, fun a o ha hu hm => ?_⟩ r3 (.ref ?_)
          · obtain ⟨b1, b2, b3⟩ := g2.hid a o ha hu hm
            refine ⟨b1, b2, fun z => ?_⟩
            rcases List.mem_append.mp z with z | z
            · exact b3 z
            · exact ne_of_none ha hD (by simpa using z)
          · rw [← r2.len, List.getElem?_append_right (Nat.le_refl _), Nat.sub_self]; rfl
      | some v =>
        obtain ⟨go, yl⟩ := hJ2
        have nx : ∀ {acc' : List Pv} {ws' : List V} {cs' : Cells} {μ' : List Addr} {U' H' : Hp}, Gr U1 H1 μ1 U' H' μ' → Rel0 K mg cs' μ' U' H' → H' D = some (.lst ws') → U' D = none → D ∉ μ' → RepVs K mg U' μ' acc' ws' → Out K mg (RepV K mg) (fun c d H => W.w c d σ H) U1 H1 μ1 ((lcN s.it (lcTurn g c e (wipeS sl vs)) m (i + 1) acc' cs').bind mk) Q →
          ∃ acc ws cs μ U, Gr U1 H1 μ1 U H' μ ∧ Rel0 K mg cs μ U H' ∧ H' D = some (.lst ws) ∧ U D = none ∧ D ∉ μ ∧ RepVs K mg U μ acc ws ∧ Out K mg (RepV K mg) (fun c d H => W.w c d σ H) U1 H1 μ1 ((lcN s.it (lcTurn g c e (wipeS sl vs)) m (i + 1) acc cs).bind mk) Q :=
          fun a1 a2 a3 a4 a5 a6 a7 => ⟨_, _, _, _, _, a1, a2, a3, a4, a5, a6, a7⟩
        refine .inr ⟨go, fun H => ∃ acc ws cs μ U, Gr U1 H1 μ1 U H μ ∧ Rel0 K mg cs μ U H ∧ H D = some (.lst ws) ∧ U D = none ∧ D ∉ μ ∧ RepVs K mg U μ acc ws ∧ Out K mg (RepV K mg) (fun c d H => W.w c d σ H) U1 H1 μ1 ((lcN s.it (lcTurn g c e (wipeS sl vs)) m (i + 1) acc cs).bind mk) Q, fun H' hN => ⟨m, Nat.lt_succ_self _, hN⟩, fun x H3 y => ?_⟩
        obtain ⟨U3, g3, r3, p3⟩ := yl x H3 y
        obtain ⟨d3, u3, m3⟩ := g3.hid D _ hD2 hU2 hm2
        have G3 := g2.trans g3
        have rs3 : RelS K mg none U3 μ2 (wipeS sl vs) (L2.wipe σ vs) := (rs1.mono g2).mono g3
        have rp3 := rp2.mono g3.vv g3.mm
        have h2 : Out K mg (RepV K mg) (fun c d H => W.w c d σ H) U1 H1 μ1 ((((match g v (wipeS sl vs) cs2 with
          | some sl2 => (noX (c sl2 cs2)).bind fun b cs1 => if b = true then (noX (e sl2 cs1)).bind fun y cs2 => .ok (some y) cs2 else .ok none cs1
          | none => .bad) : Res (Option Pv)).bind fun o cs1 => match o with
            | some y => guard_ (fits (acc.length + 1)) (lcN s.it (lcTurn g c e (wipeS sl vs)) m (i + 1) (acc ++ [y]) cs1)
            | none => lcN s.it (lcTurn g c e (wipeS sl vs)) m (i + 1) acc cs1).bind mk) Q := h2
        split at h2
        · rename_i sl2 esl
          refine ⟨v, wipeS sl vs, cs2, μ2, U3, sl2, r3, rs3, p3, esl, fun σ2 rs2 hw => ⟨hw.trans (wipe_wipe σ vs), ?_⟩⟩
          rw [Res.bind_assoc, Res.bind_assoc] at h2
          refine ⟨sl2, cs2, μ2, U3, r3, rs2, out_noX h2 fun b cs4 wb U4 H4 μ4 g4 r4 pb h4 => ?_⟩
          obtain ⟨d4, u4, m4⟩ := g4.hid D _ d3 u3 m3
          have G4 := G3.trans g4
          subst pb
          cases b with
          | false =>
            rw [if_neg Bool.false_ne_true] at h4 ⊢
            exact nx G4 r4 d4 u4 m4 (rp3.mono g4.vv g4.mm) h4
          | true =>
            rw [if_pos rfl] at h4 ⊢
            rw [Res.bind_assoc] at h4
            refine ⟨sl2, cs4, μ4, U4, r4, rs2.mono g4, out_noX h4 fun y cs5 wy U5 H5 μ5 g5 r5 py h5 => ?_⟩
            obtain ⟨d5, u5, m5⟩ := g5.hid D _ d4 u4 m4
            have G5 := G4.trans g5
            have h5 : Out K mg (RepV K mg) (fun c d H => W.w c d σ H) U1 H1 μ1 ((guard_ (fits (acc.length + 1)) (lcN s.it (lcTurn g c e (wipeS sl vs)) m (i + 1) (acc ++ [y]) cs5)).bind mk) Q := h5
            cases hz : fits (acc.length + 1) with
            | false => rw [hz] at h5; exact h5.elim
            | true =>
              rw [hz] at h5
              have rp5 := (rp3.mono g4.vv g4.mm).mono g5.vv g5.mm
              refine ⟨ws, d5, ?_, nx ?_ (r5.turn u5 m5) upd_same u5 m5 (rp5.append (.cons py .nil)) h5⟩
              · have := fits.ok hz
                rw [← rp2.length]; omega
              · refine ⟨G5.vv, G5.mm, fun a o ha hu hm => ?_⟩
                obtain ⟨b1, b2, b3⟩ := G5.hid a o ha hu hm
                exact ⟨by rw [upd_ne (ne_of_none ha hD)]; exact b1, b2, b3⟩
        · exact h2.elim
end
theorem PTs.le {X : Cx} {es : List Expr} {t t' : TT} (h : PTs X es t) (l : ∀ σ H Q, t' σ H Q → t σ H Q) : PTs X es t' := ⟨fun pins s σ H Q I q => h.run pins s σ H Q I (l σ H Q q)⟩
section
variable {X : Cx} {W : WE} {src : FI} {g : FG} {c : FT} {e : FE} {elt tg iter cc : Expr} {ifs : List Expr} {scope : Scope} {own : List (Str × Nat)} {pos spos py : Pos}
theorem ts_nil : PTs X [] (rdT X.K X.mg W fYes) := PTs.le pts_nil fun σ H Q q => by
  obtain ⟨sl, cs, μ, U, r0, rs, q⟩ := q
  exact q _ _ _ _ Gr.refl r0 rfl
theorem ts_one (h : PT X cc (rdT X.K X.mg W c)) : PTs X [cc] (rdT X.K X.mg W c) := pts_one h
theorem b_lc (hc : X.calm = true) (hN : X.N.Nodup) (ok : BlkOk X.N X.env.scope scope own) (hi : PI X tg iter (rdI X.K X.mg W src))
    (hg : ∀ (s : Shared) (H : Hp) (C : Addr) (cl : List (Str × Addr)) (fp : List Addr), PG (X.blk s H scope (compEnvC scope cl C X.env) fp) tg (rdG X.K X.mg none (own.map (·.2)) g)) (ht : ∀ (s : Shared) (H : Hp) (C : Addr) (cl : List (Str × Addr)) (fp : List Addr), PTs (X.blk s H scope (compEnvC scope cl C X.env) fp) ifs (rdT X.K X.mg W0 c))
    (he : ∀ (s : Shared) (H : Hp) (C : Addr) (cl : List (Str × Addr)) (fp : List Addr), PE (X.blk s H scope (compEnvC scope cl C X.env) fp) elt (rdE X.K X.mg W0 e)) (hs : ∀ x, foldedSetIterable iter X.env x = pure x := by intro _; rfl) :
    PE X (.ListComp elt [⟨tg, iter, ifs, 0⟩] scope pos) (rdE X.K X.mg W (fLc src g c e (own.map (·.2)))) := PE.le (pe_lc hc hN hi ok hg ht he hs) (rd_lc false fun _ _ => rfl)
theorem b_lcC (hc : X.calm = true) (hN : X.N.Nodup) (ok : BlkOk X.N X.env.scope scope own) (hi : PI X tg iter (rdI X.K X.mg W src))
    (hg : ∀ (s : Shared) (H : Hp) (C : Addr) (cl : List (Str × Addr)) (fp : List Addr), PG (X.blk s H scope (compEnvC scope cl C X.env) fp) tg (rdG X.K X.mg none (own.map (·.2)) g)) (ht : ∀ (s : Shared) (H : Hp) (C : Addr) (cl : List (Str × Addr)) (fp : List Addr), PTs (X.blk s H scope (compEnvC scope cl C X.env) fp) ifs (rdT X.K X.mg W0 c))
    (he : ∀ (s : Shared) (H : Hp) (C : Addr) (cl : List (Str × Addr)) (fp : List Addr), PE (X.blk s H scope (compEnvC scope cl C X.env) fp) elt (rdE X.K X.mg W0 e)) (hs : ∀ x, foldedSetIterable iter X.env x = pure x := by intro _; rfl) :
    PE X (.ListComp elt [⟨tg, iter, ifs, 0⟩] scope pos) (rdE X.K X.mg W (fLcC src g c e (own.map (·.2)))) := PE.le (pe_lc hc hN hi ok hg ht he hs) (rd_lc true fun _ _ => rfl)
/-- y = [..] -/
theorem s_asgLc {i : Nat} {y : Str} (hc : X.calm = true) (hN : X.N.Nodup) (hsw : swapsWith (.ListComp elt [⟨tg, iter, ifs, 0⟩] scope pos) (some (.Name y py)) spos.line X.env = pure true) (ok : BlkOk X.N X.env.scope scope own) (hi : PI X tg iter (rdI X.K X.mg W src))
    (hg : ∀ (s : Shared) (H : Hp) (C : Addr) (cl : List (Str × Addr)) (fp : List Addr), PG (X.blk s H scope (compEnvC scope cl C X.env) fp) tg (rdG X.K X.mg none (own.map (·.2)) g)) (ht : ∀ (s : Shared) (H : Hp) (C : Addr) (cl : List (Str × Addr)) (fp : List Addr), PTs (X.blk s H scope (compEnvC scope cl C X.env) fp) ifs (rdT X.K X.mg W0 c))
    (he : ∀ (s : Shared) (H : Hp) (C : Addr) (cl : List (Str × Addr)) (fp : List Addr), PE (X.blk s H scope (compEnvC scope cl C X.env) fp) elt (rdE X.K X.mg W0 e)) (hy : X.N[i]? = some y := by rfl) (hyl : X.env.scope.names.lookup y = some .local := by rfl) (hs : ∀ x, foldedSetIterable iter X.env x = pure x := by intro _; rfl) :
    PS X (.Assign [.Name y py] (.ListComp elt [⟨tg, iter, ifs, 0⟩] scope pos) spos) (rdS X.K X.mg W (sAsg i (fLc src g c e (own.map (·.2))))) := PS.le (ps_setLc hc hN hy hyl hsw hi ok hg ht he hs) fun D σ H q => by
  obtain ⟨sl, cs, μ, U, r0, rs, q⟩ := q
  exact rd_lc false (fun _ _ => rfl) σ H _ ⟨sl, cs, μ, U, r0, rs, OutS.seq q rs fun x cs1 w U1 H1 μ1 _ g1 r1 p1 h1 => h1 _ _ _ _ Gr.refl r1 ((rs.mono g1).set p1 i)⟩
theorem s_asgLcC {i : Nat} {y : Str} (hc : X.calm = true) (hN : X.N.Nodup) (hsw : swapsWith (.ListComp elt [⟨tg, iter, ifs, 0⟩] scope pos) (some (.Name y py)) spos.line X.env = pure true) (ok : BlkOk X.N X.env.scope scope own) (hi : PI X tg iter (rdI X.K X.mg W src))
    (hg : ∀ (s : Shared) (H : Hp) (C : Addr) (cl : List (Str × Addr)) (fp : List Addr), PG (X.blk s H scope (compEnvC scope cl C X.env) fp) tg (rdG X.K X.mg none (own.map (·.2)) g)) (ht : ∀ (s : Shared) (H : Hp) (C : Addr) (cl : List (Str × Addr)) (fp : List Addr), PTs (X.blk s H scope (compEnvC scope cl C X.env) fp) ifs (rdT X.K X.mg W0 c))
    (he : ∀ (s : Shared) (H : Hp) (C : Addr) (cl : List (Str × Addr)) (fp : List Addr), PE (X.blk s H scope (compEnvC scope cl C X.env) fp) elt (rdE X.K X.mg W0 e)) (hy : X.N[i]? = some y := by rfl) (hyl : X.env.scope.names.lookup y = some .local := by rfl) (hs : ∀ x, foldedSetIterable iter X.env x = pure x := by intro _; rfl) :
    PS X (.Assign [.Name y py] (.ListComp elt [⟨tg, iter, ifs, 0⟩] scope pos) spos) (rdS X.K X.mg W (sAsg i (fLcC src g c e (own.map (·.2))))) := PS.le (ps_setLc hc hN hy hyl hsw hi ok hg ht he hs) fun D σ H q => by
  obtain ⟨sl, cs, μ, U, r0, rs, q⟩ := q
  exact rd_lc true (fun _ _ => rfl) σ H _ ⟨sl, cs, μ, U, r0, rs, OutS.seq q rs fun x cs1 w U1 H1 μ1 _ g1 r1 p1 h1 => h1 _ _ _ _ Gr.refl r1 ((rs.mono g1).set p1 i)⟩
end

/-! ### a, b = x, y (plain local names) -/
def sPar (i j : Nat) (t : FA) : FS := fun sl cs => (t sl cs).go sl fun vs cs1 => match vs with
  | [v, w] => .nx ((sl.set i (some v)).set j (some w)) cs1
  | _ => .bad
def sPar3 (i j l : Nat) (t : FA) : FS := fun sl cs => (t sl cs).go sl fun vs cs1 => match vs with
  | [u, v, w] => .nx (((sl.set i (some u)).set j (some v)).set l (some w)) cs1
  | _ => .bad
section
variable {X : Cx} {W : WE} {t : FA} {a b c : Expr} {px py pz pt pos : Pos} {x y z : Str}
theorem s_par {i j : Nat} {kt k2 pt2} (hc : X.calm = true) (hN : X.N.Nodup) (ha : PA X [a, b] (rdA X.K X.mg W t)) (hi : X.N[i]? = some x := by rfl) (hj : X.N[j]? = some y := by rfl) (hij : i ≠ j := by decide)
    (hx : X.env.scope.names.lookup x = some .local := by rfl) (hy : X.env.scope.names.lookup y = some .local := by rfl)
    (hw : swappedStores [.Tuple [.Name x px, .Name y py] kt pt] (.Tuple [a, b] k2 pt2) X.env = pure (some [x, y]) := by rfl)
    (hs : swapsWithSole [.Tuple [.Name x px, .Name y py] kt pt] (.Tuple [a, b] k2 pt2) pos.line X.env = pure false := by rfl) :
    PS X (.Assign [.Tuple [.Name x px, .Name y py] kt pt] (.Tuple [a, b] k2 pt2) pos) (rdS X.K X.mg W (sPar i j t)) := PS.le (ps_par hc hN hi hj hij hx hy ha hw hs) fun D σ H q => by
  obtain ⟨sl, cs, μ, U, r0, rs, q⟩ := q
  refine ⟨sl, cs, μ, U, r0, rs, OutS.seq q rs fun vs cs1 ws U1 H1 μ1 _ g1 r1 p1 h1 => ?_⟩
  split at h1
  · cases p1 with
    | cons q1 q2 =>
      cases q2 with
      | cons q2 q3 =>
        cases q3
        exact ⟨_, _, rfl, h1 _ _ _ _ Gr.refl r1 (((rs.mono g1).set q1 i).set q2 j)⟩
  · exact h1.elim
theorem s_par3 {i j l : Nat} {kt k2 pt2} (hc : X.calm = true) (hN : X.N.Nodup) (ha : PA X [a, b, c] (rdA X.K X.mg W t)) (hi : X.N[i]? = some x := by rfl) (hj : X.N[j]? = some y := by rfl) (hl : X.N[l]? = some z := by rfl) (hij : i ≠ j := by decide) (hil : i ≠ l := by decide) (hjl : j ≠ l := by decide)
    (hx : X.env.scope.names.lookup x = some .local := by rfl) (hy : X.env.scope.names.lookup y = some .local := by rfl) (hz : X.env.scope.names.lookup z = some .local := by rfl)
    (hw : swappedStores [.Tuple [.Name x px, .Name y py, .Name z pz] kt pt] (.Tuple [a, b, c] k2 pt2) X.env = pure (some [x, y, z]) := by rfl)
    (hs : swapsWithSole [.Tuple [.Name x px, .Name y py, .Name z pz] kt pt] (.Tuple [a, b, c] k2 pt2) pos.line X.env = pure false := by rfl) :
    PS X (.Assign [.Tuple [.Name x px, .Name y py, .Name z pz] kt pt] (.Tuple [a, b, c] k2 pt2) pos) (rdS X.K X.mg W (sPar3 i j l t)) := PS.le (ps_par3 hc hN hi hj hl hij hil hjl hx hy hz ha hw hs) fun D σ H q => by
  obtain ⟨sl, cs, μ, U, r0, rs, q⟩ := q
  refine ⟨sl, cs, μ, U, r0, rs, OutS.seq q rs fun vs cs1 ws U1 H1 μ1 _ g1 r1 p1 h1 => ?_⟩
  split at h1
  · cases p1 with
    | cons q1 q2 =>
      cases q2 with
      | cons q2 q3 =>
        cases q3 with
        | cons q3 q4 =>
          cases q4
          exact ⟨_, _, _, rfl, h1 _ _ _ _ Gr.refl r1 ((((rs.mono g1).set q1 i).set q2 j).set q3 l)⟩
  · exact h1.elim
end

/-! ### methods of built-in types -/
def tyIs (T : String) (v : Pv) (cs : Cells) : Bool := match v with
  | .str _ => T == "str"
  | .int _ => T == "int"
  | v => (T == "list" && (asL cs v).isSome) || (T == "dict" && match v with
    | .ref k => match cs[k]? with
      | some (.dK _) => true
      | some (.dT _) => true
      | _ => false
    | _ => false)
theorem tyIs_ok {K : PySem.W.Frag} {mg : Str → Option Value} {U H : Hp} {μ : List Addr} {cs : Cells} {T : String} {p : Pv} {v : V} (r : Rel0 K mg cs μ U H) (h : RepV K mg U μ p v) (e : tyIs T p cs = true) : tyV K T v H := by
  unfold tyIs at e
  split at e
  · cases h; exact (show T = "str" by simpa using e)
  · cases h; exact (show T = "int" by simpa using e)
  · rcases Bool.or_eq_true_iff.mp e with e | e
    · obtain ⟨e1, e2⟩ := Bool.and_eq_true_iff.mp e
      obtain ⟨xs, ex⟩ := Option.isSome_iff_exists.mp e2
      obtain ⟨a, ws, rfl, s, q⟩ := asL_ok r h ex
      exact .inl ⟨by simpa using e1, ws, s⟩
    · obtain ⟨e1, e2⟩ := Bool.and_eq_true_iff.mp e
      split at e2
      · cases h with
        | ref hm =>
          split at e2
          · rename_i kvs hk
            obtain ⟨ws, h1, _⟩ := r.cel _ _ _ hk hm
            exact .inr (.inr (.inl ⟨by simpa using e1, .inl ⟨ws, h1⟩⟩))
          · rename_i kvs hk
            obtain ⟨ws, h1, _⟩ := r.cel _ _ _ hk hm
            exact .inr (.inr (.inl ⟨by simpa using e1, .inr ⟨ws, h1⟩⟩))
          · cases e2
      · cases e2
abbrev FM := Pv → List Pv → Cells → Res Pv
def fMeth (T : String) (m : FM) (o : FE) (t : FA) : FE := fun sl cs => (o sl cs).bind fun ov cs1 => guard_ (tyIs T ov cs1) ((t sl cs1).bind fun vs cs2 => m ov vs cs2)
def fMeth0 (T : String) (m : FM) (o : FE) : FE := fun sl cs => (o sl cs).bind fun ov cs1 => guard_ (tyIs T ov cs1) (m ov [] cs1)
def OkM (K : PySem.W.Frag) (mg : Str → Option Value) (m : FM) (r : V → List V → Hp → VK → Prop) : Prop := ∀ (E : XK) p ps cs v vs U H μ Q, Rel0 K mg cs μ U H → RepV K mg U μ p v → RepVs K mg U μ ps vs → Out K mg (RepV K mg) E U H μ (m p ps cs) Q → r v vs H Q
section
variable {X : Cx} {W : WE} {fo : FE} {t : FA} {o e : Expr} {es : List Expr} {apos cpos : Pos} {T id : String} {name : Str} {r : V → List V → Hp → VK → Prop} {m : FM}
theorem b_meth (pa : PlainAttrs T) (slot : Slot T name id) (hty : typeOf (.builtin id) = pure (.type "method_descriptor")) (hm : MtR X id r) (hr : OkM X.K X.mg m r) (ho : PE X o (rdE X.K X.mg W fo)) (ha : PA X (e :: es) (rdA X.K X.mg W t))
    (hbase : attributeBase o name X.env (eval o X.env) = eval o X.env := by rfl)
    (hfew : ((backTo cpos (starEach (e :: es) X.env)).all (fun x => !x.1) && (backToKw cpos (keywordEach [] X.env)).all (fun x => x.1.isSome)
      && decide ((e :: es).length + ([] : List Keyword).length + (if ([] : List Keyword).isEmpty then 0 else 1) < 30)) = true := by rfl)
    (hline : (apos.endLine == cpos.line) = true := by rfl) (hs : starEach (e :: es) X.env = (false, eval e X.env) :: starEach es X.env := by rfl) (hplain : (backTo cpos (starEach es X.env)).any (·.1) = false := by rfl) :
    PE X (.Call (.Attribute o name apos) (e :: es) [] cpos) (rdE X.K X.mg W (fMeth T m fo t)) := PE.le (pe_bm pa slot hty hm ho ha hbase hfew hline hs hplain) fun σ H Q q => by
  obtain ⟨sl, cs, μ, U, r0, rs, q⟩ := q
  refine ⟨sl, cs, μ, U, r0, rs, Out.seq q fun ov cs1 w U1 H1 μ1 _ g1 r1 p1 h1 => ?_⟩
  obtain ⟨hz, h1⟩ := out_guard h1
  exact ⟨tyIs_ok r1 p1 hz, sl, cs1, μ1, U1, r1, rs.mono g1, Out.seq h1 fun vs cs2 ws U2 H2 μ2 _ g2 r2 p2 h2 => hr _ _ _ _ _ _ _ _ _ _ r2 (p1.mono g2.vv g2.mm) p2 h2⟩
theorem b_meth0 (pa : PlainAttrs T) (slot : Slot T name id) (hty : typeOf (.builtin id) = pure (.type "method_descriptor")) (hm : MtR X id r) (hr : OkM X.K X.mg m r) (ho : PE X o (rdE X.K X.mg W fo))
    (hbase : attributeBase o name X.env (eval o X.env) = eval o X.env := by rfl) (hline : (apos.endLine == cpos.line) = true := by rfl) : PE X (.Call (.Attribute o name apos) [] [] cpos) (rdE X.K X.mg W (fMeth0 T m fo)) := PE.le (pe_bm0 pa slot hty hm ho hbase hline) fun σ H Q q => by
  obtain ⟨sl, cs, μ, U, r0, rs, q⟩ := q
  refine ⟨sl, cs, μ, U, r0, rs, Out.seq q fun ov cs1 w U1 H1 μ1 _ g1 r1 p1 h1 => ?_⟩
  obtain ⟨hz, h1⟩ := out_guard h1
  exact ⟨tyIs_ok r1 p1 hz, hr _ _ _ _ _ _ _ _ _ _ r1 p1 .nil h1⟩
end
def mAppend : FM := fun o vs cs => match o, vs with
  | .ref k, [v] => match cs[k]? with
    | some (.lst xs) => guard_ (fits (xs.length + 1)) (.ok .non (cs.set k (.lst (xs ++ [v]))))
    | _ => .bad
  | _, _ => .bad
theorem ok_append {K : PySem.W.Frag} {mg : Str → Option Value} : OkM K mg mAppend rAppend := by
  intro E p ps cs v vs U H μ Q r hp hps h
  unfold mAppend at h
  split at h
  · split at h
    · rename_i xs hk
      obtain ⟨hz, h⟩ := out_guard h
      cases hp with
      | ref hm =>
        cases hps with
        | cons h1 h2 =>
          cases h2
          obtain ⟨ws, q1, q2⟩ := r.cel _ _ _ hk hm
          refine ⟨_, ws, _, rfl, rfl, q1, by have := fits.ok hz; rw [← q2.length]; omega, ?_⟩
          obtain ⟨r4, g4⟩ := r.put (c' := .lst (xs ++ [_])) (o := .lst (ws ++ [_])) hk (fun z => nomatch z) hm ⟨_, rfl, q2.append (.cons h1 .nil)⟩
          exact h _ _ _ _ g4 r4 .non
    · exact h.elim
  · exact h.elim

/-! ### own defs -/
section
variable (K : PySem.W.Frag) (mg : Str → Option Value)
/-- a def's promise: the plain function m -/
def spOf (n : Nat) (m : FN) : Sp := fun vs H Q E => vs.length = n ∧ ∃ ps cs μ U, Rel0 K mg cs μ U H ∧ RepVs K mg U μ ps vs ∧ Out K mg (RepV K mg) E U H μ (m ps cs) Q
end
def LenA (t : FA) (n : Nat) : Prop := ∀ sl cs vs cs1, t sl cs = .ok vs cs1 → vs.length = n
theorem len_nil : LenA fNil 0 := fun _ _ vs cs1 h => by cases h; rfl
theorem len_cons {f : FE} {t : FA} {n : Nat} (h : LenA t n) : LenA (fCons f t) (n + 1) := fun sl cs vs cs1 e => by
  unfold fCons at e
  cases hf : f sl cs with
  | ok v cs2 =>
    rw [hf] at e
    have e : (t sl cs2).bind (fun vs cs2 => Res.ok (v :: vs) cs2) = .ok vs cs1 := e
    cases ht : t sl cs2 with
    | ok us cs3 =>
      rw [ht] at e
      cases e
      rw [List.length_cons, h sl cs2 us _ ht]
    | exn c fs cs3 => rw [ht] at e; cases e
    | bad => rw [ht] at e; cases e
  | exn c fs cs2 => rw [hf] at e; cases e
  | bad => rw [hf] at e; cases e
section
variable {X : Cx} {W : WE} {t : FA} {k n : Nat} {f : Addr} {fd : FuncData} {ps : List Str} {m : FN} {x : Str} {p pos : Pos} {e : Expr} {es : List Expr}
theorem b_call (F : FnOk X.prog X.w X.K X.mg X.base (L2.CX X.prog X.w) k f fd ps (spOf X.K X.mg n m)) (hr : Room k X.A) (hm : X.mg x = some (.ref f)) (hk : PySem.W.keepIn X.K (.ref f) = true) (hb : Binds X.K fd ps []) (tk : Takes X W.w)
    (ha : PA X (e :: es) (rdA X.K X.mg W t)) (hl : LenA t n) (hg : Gl X x := by rfl) (hdb : (x == ("__debug__" : Str)) = false := by decide) (he : starEach (e :: es) X.env = (false, eval e X.env) :: starEach es X.env := by rfl) (hpl : (backTo pos (starEach es X.env)).any (·.1) = false := by rfl) :
    PE X (.Call (.Name x p) (e :: es) [] pos) (rdE X.K X.mg W (fCall m t)) := PE.le (pe_callS F hr hg hm hk hb (fun σ => passAt tk σ) ha hdb he hpl) fun σ H Q q => by
  obtain ⟨sl, cs, μ, U, r0, rs, q⟩ := q
  exact ⟨sl, cs, μ, U, r0, rs, Out.seq q fun vs cs1 ws U1 H1 μ1 ev g1 r1 p1 h1 => ⟨by rw [← p1.length]; exact hl _ _ _ _ ev, vs, cs1, μ1, U1, r1, p1, h1⟩⟩
theorem takesB {X : Cx} : Takes X W0.w := fun _ _ x => by
  obtain ⟨_, _, _, _, _, _, _, _, _, _, _, _, _, _, _, _, z⟩ := x
  exact z.elim
end
/-- what a def's body comes to, as a function -/
def fnOut : RS → Res Pv
  | .rt v cs => .ok v cs
  | .nx _ cs => .ok .non cs
  | .exn c fs _ cs => .exn c fs cs
  | _ => .bad
def slots (N : Nat) (ps : List Pv) : Sl := ps.map some ++ List.replicate (N - ps.length) none
def fnSem (n N : Nat) (body : FS) : FN := fun ps cs => fnOut (body (slots N ps) cs)
theorem relS_start {K : PySem.W.Frag} {mg : Str → Option Value} {U : Hp} {μ : List Addr} {ps : List Pv} {vs : List V} {N : List Str} (h : RepVs K mg U μ ps vs) : RelS K mg none U μ (slots N.length ps) (start N vs) := by
  have hl := h.length
  refine ⟨?_, fun i p e => ?_, fun x ex => nomatch ex⟩
  · unfold slots L2.start
    simp [hl]
  · unfold slots at e
    by_cases hi : i < ps.length
    · rw [List.getElem?_append_left (by simpa using hi), List.getElem?_map] at e
      obtain ⟨q, h1, h2⟩ := Option.map_eq_some_iff.mp e
      cases h2
      obtain ⟨v, h3, h4⟩ := h.at h1
      refine ⟨v, ?_, h4⟩
      unfold L2.start
      rw [List.getElem?_append_left (by rw [List.length_map, ← hl]; exact hi), List.getElem?_map, h3]
      rfl
    · rw [List.getElem?_append_right (by simpa using hi), List.getElem?_replicate] at e
      split at e <;> cases e
section
variable {P : Program} {w : World} {K : PySem.W.Frag} {mg : Str → Option Value} {base : Heap} {x qual : Str} {st : Stmt} {f : Addr} {fd : FuncData} {N ps : List Str} {k : Nat}
/-- THE RULE for a def -/
theorem fn_ok {body : FS} (F : Fun K x qual st f fd) (S : FnScope N ps (defScope st))
    (hb : ∀ (cdv : Value) (A : Around) (outer : List Env) (s : Shared) (H : Hp) (E : XK), Room k (A.deeper (envOfC qual (defScope st) s.heap.objs.size f cdv)) → Takes (cxOf (L2.CX P w) P w K mg base N qual (defScope st) f cdv A outer s H E) (fun cls d _ H => E cls d H) →
      PassesOwn (model P w) (A.deeper (envOfC qual (defScope st) s.heap.objs.size f cdv)) (envOfC qual (defScope st) s.heap.objs.size f cdv) (cxOf (L2.CX P w) P w K mg base N qual (defScope st) f cdv A outer s H E).xe →
      PSs (cxOf (L2.CX P w) P w K mg base N qual (defScope st) f cdv A outer s H E) (defBody st) (rdS K mg ⟨fun cls d _ H => E cls d H, none⟩ body)) :
    FnOk P w K mg base (L2.CX P w) (k + 1) f fd ps (spOf K mg ps.length (fnSem ps.length N.length body)) := by
  refine F.okX S (fun vs H Q E h => h.1) (fun cdv A outer s H vs Q E hr h => ⟨_, hb cdv A outer s H E hr (takes_of rfl rfl rfl rfl) (passes_of rfl), ?_⟩)
  obtain ⟨_, qs, cs, μ, U, r0, rp, h⟩ := h
  refine ⟨slots N.length qs, cs, μ, U, r0, relS_start rp, ?_⟩
  unfold fnSem at h
  cases hbd : body (slots N.length qs) cs with
  | rt v cs1 => rw [hbd] at h; exact h
  | nx sl cs1 => rw [hbd] at h; exact fun σ' U' H' μ' g r rs => h _ U' H' μ' g r .non
  | exn c fs sl cs1 => rw [hbd] at h; exact fun C d σ' U' H' μ' g r rs m x => h C d U' H' μ' g r m x
  | bk sl cs1 => rw [hbd] at h; exact h.elim
  | ct sl cs1 => rw [hbd] at h; exact h.elim
  | bad => rw [hbd] at h; exact h.elim
/-- a plainer function that says the same where it says anything; what it leaves out are new cells -/
theorem fn_imp {CX : CXT} {n : Nat} {m m' : FN} (F : FnOk P w K mg base CX k f fd ps (spOf K mg n m)) (h : ∀ qs cs, qs.length = n → m' qs cs = .bad ∨ m qs cs = m' qs cs) : FnOk P w K mg base CX k f fd ps (spOf K mg n m') :=
  F.imp fun vs H Q E q => by
    obtain ⟨hn, qs, cs, μ, U, r0, rp, q⟩ := q
    refine ⟨hn, qs, cs, μ, U, r0, rp, ?_⟩
    rcases h qs cs (by rw [rp.length]; exact hn) with e | e
    · rw [e] at q; exact q.elim
    · rw [e]; exact q
end
end AL

set_option Elab.async false
set_option linter.all false
set_option autoImplicit false
set_option maxRecDepth 100000
set_option maxHeartbeats 4000000
/-! Own layer, part 7: zip over lists and tuples in any mix. -/
namespace AL
open PySem PySem.Spec PyProof.Rows L2

inductive Kd where
  | l | t
def SqX (K : PySem.W.Frag) (k : Kd) (H : Hp) (a : Addr) (xs : List V) : Prop := match k with
  | .l => SqL K H a xs
  | .t => SqT K H a xs
def ItX (k : Kd) (h : Heap) (it a : Addr) (i : Nat) : Prop := match k with
  | .l => h.IsListIter it a i
  | .t => h.IsTupleIter it a i
def SeX (k : Kd) (h : Heap) (a : Addr) (its : Array Value) : Prop := match k with
  | .l => h.IsList a its
  | .t => h.IsTuple a its
theorem ItX.obj {k : Kd} {h : Heap} {it a : Addr} {i : Nat} (x : ItX k h it a i) : ∃ o, h.get? it = some o ∧ ∀ v, o.data ≠ .cell v := by
  cases k with
  | l => obtain ⟨o, e, _, d⟩ := x; exact ⟨o, e, fun v q => by rw [d] at q; cases q⟩
  | t => obtain ⟨o, e, _, d⟩ := x; exact ⟨o, e, fun v q => by rw [d] at q; cases q⟩
theorem ItX.at {k : Kd} {h h' : Heap} {it a : Addr} {i : Nat} (x : ItX k h it a i) (e : ∀ o, h.get? it = some o → h'.get? it = some o) : ItX k h' it a i := by
  cases k with
  | l => exact Heap.IsListIter.at x e
  | t => exact Heap.IsTupleIter.at x e
theorem drawsX {prog : Program} {w : World} {A : Around} (k : Kd) (hh : A.handled = none) (it a : Addr) (hne : a ≠ it) (items : Array Value) : Draws prog w A it [it, a] items.size (fun i v => items[i]? = some v) (fun i h => ItX k h it a i ∧ SeX k h a items) := by
  cases k with
  | l => exact Draws.list hh it a hne items
  | t => exact Draws.tuple hh it a hne items
theorem Inv.seqX {X : Cx} {pins : List (Addr × Obj)} {σ : L2.St} {H : Hp} {s : Shared} {k : Kd} {a : Addr} {xs : List V} (I : Inv X pins σ H s) (h : SqX X.K k H a xs) : ∃ its : List Value, Vals xs its ∧ SeX k s.heap a its.toArray ∧ a < s.heap.objs.size := by
  cases k with
  | l => obtain ⟨its, r, p, _⟩ := I.list h; exact ⟨its, r, p.isList, p.lt⟩
  | t => obtain ⟨its, r, p, _⟩ := I.tuple h; obtain ⟨o, ho, _⟩ := id p; exact ⟨its, r, p, Heap.lt_size ho⟩
theorem Inv.seqX_inj {X : Cx} {pins : List (Addr × Obj)} {σ : L2.St} {H : Hp} {s : Shared} {k : Kd} {a : Addr} {xs ys : List V} (I : Inv X pins σ H s) (h : SqX X.K k H a xs) (h' : SqX X.K k H a ys) : xs = ys := by
  cases k with
  | l => exact I.list_inj h h'
  | t => exact I.tuple_inj h h'
theorem ne_it {k : Kd} {h : Heap} {a it : Addr} {its : Array Value} {i : Nat} (p : SeX k h a its) (x : ItX k h it a i) : a ≠ it := fun q => by
  subst q
  cases k with
  | l =>
    obtain ⟨o, e, c, _⟩ := p
    obtain ⟨o1, e1, c1, _⟩ := x
    rw [e] at e1; cases e1
    rw [c] at c1
    exact absurd c1 (by decide)
  | t =>
    obtain ⟨o, e, c, _⟩ := p
    obtain ⟨o1, e1, c1, _⟩ := x
    rw [e] at e1; cases e1
    rw [c] at c1
    exact absurd c1 (by decide)
theorem sub5 {c z TI TO i1 i2 : Addr} (q : c ∈ [z, TO, i1, i2]) : c ∈ [z, TI, TO, i1, i2] := by
  have q2 : c = z ∨ c = TO ∨ c = i1 ∨ c = i2 := by simpa using q
  rcases q2 with r | r | r | r <;> rw [r] <;> simp
def ItzX (K : PySem.W.Frag) (k1 k2 : Kd) (a b : Addr) : It :=
  ⟨fun i H => ∃ (xs ys : List V) (x y : V), SqX K k1 H a xs ∧ SqX K k2 H b ys ∧ xs[i]? = some x ∧ ys[i]? = some y,
    fun i H v H' => ∃ T x y, v = .ref T ∧ H T = none ∧ H' = upd H T (.tup [x, y]) ∧ (∀ xs, SqX K k1 H a xs → xs[i]? = some x) ∧ ∀ ys, SqX K k2 H b ys → ys[i]? = some y,
    fun i H => ∃ xs ys : List V, SqX K k1 H a xs ∧ SqX K k2 H b ys ∧ i = min xs.length ys.length⟩
def znX (z TI TO i1 i2 : Addr) (k1 k2 : Kd) (a b : Addr) (i : Nat) (h : Heap) : Prop := IsZip h z TI TO .none ∧ IsTupOf2 h TI (.ref i1) (.ref i2) ∧ (∃ x y, IsTupOf2 h TO x y) ∧ ItX k1 h i1 a i ∧ ItX k2 h i2 b i
theorem turn_zipX {P : Program} {w : World} {K : PySem.W.Frag} {elts : List Expr} {kk : Nat} {tpos : Pos} {k1 k2 : Kd} {a b z TI TO i1 i2 : Addr} (S : ZipSep2 z TI TO i1 i2 [i1, a] [i2, b]) :
    Turn P w K (.Tuple elts kk tpos) (ItzX K k1 k2 a b) [z, TI, TO, i1, i2] z (znX z TI TO i1 i2 k1 k2 a b) where
  mem := by simp
  obj := fun i h st c hc => by
    obtain ⟨hz, hTI, ⟨x, y, hTO⟩, h1, h2⟩ := st
    have e' : c = z ∨ c = TI ∨ c = TO ∨ c = i1 ∨ c = i2 := by simpa using hc
    rcases e' with q | q | q | q | q
    · rw [q]; exact ⟨_, hz, fun v q => nomatch q⟩
    · rw [q]; exact ⟨_, hTI, fun v q => nomatch q⟩
    · rw [q]; exact ⟨_, hTO, fun v q => nomatch q⟩
    · rw [q]; exact h1.obj
    · rw [q]; exact h2.obj
  keep := fun i h h' st k => by
    obtain ⟨hz, hTI, ⟨x, y, hTO⟩, h1, h2⟩ := st
    exact ⟨k z (by simp) _ hz, k TI (by simp) _ hTI, ⟨x, y, k TO (by simp) _ hTO⟩, h1.at fun o q => k i1 (by simp) o q, h2.at fun o q => k i2 (by simp) o q⟩
  item := by
    intro X hP hw hK hc i pins s σ H E I hf st hg
    subst hP hw hK
    obtain ⟨hz, hTI, hTO, h1, h2⟩ := st
    obtain ⟨xs, ys, x, y, hqx, hqy, hx, hy⟩ := hg
    obtain ⟨its, rv, p, la⟩ := Inv.seqX I hqx
    obtain ⟨its2, rv2, p2, lb⟩ := Inv.seqX I hqy
    obtain ⟨u, hu, ru⟩ := rv.get hx
    obtain ⟨u2, hu2, ru2⟩ := rv2.get hy
    have hh : X.A.in1.handled = none := I.ok.hd hc
    have na : a ≠ i1 := ne_it p h1
    have nb : b ≠ i2 := ne_it p2 h2
    have G := GoesN.zip2 (prog := X.prog) (w := X.w) (A := X.A) (elts := elts) (x1 := kk) (pos := tpos) S (drawsX k1 hh i1 a na its.toArray) (drawsX k2 hh i2 b nb its2.toArray)
    have hi : i < min its.toArray.size its2.toArray.size := by
      have a1 := (List.getElem?_eq_some_iff.mp hu).1
      have a2 := (List.getElem?_eq_some_iff.mp hu2).1
      simp only [List.size_toArray]; omega
    have fr : ∀ c ∈ [z, TI, TO, i1, i2], c < s.heap.objs.size := fun c hc => by
      have e' : c = z ∨ c = TI ∨ c = TO ∨ c = i1 ∨ c = i2 := by simpa using hc
      obtain ⟨tx, ty, hTO'⟩ := hTO
      rcases e' with q | q | q | q | q
      · rw [q]; exact Heap.lt_size hz
      · rw [q]; exact Heap.lt_size hTI
      · rw [q]; exact Heap.lt_size hTO'
      · rw [q]; obtain ⟨_, e, _⟩ := h1.obj; exact Heap.lt_size e
      · rw [q]; obtain ⟨_, e, _⟩ := h2.obj; exact Heap.lt_size e
    refine G.goes i s (fun u s2 => ∃ x H', Inv X pins σ H' s2 ∧ RelV x u ∧ (ItzX X.K k1 k2 a b).yld i H x H' ∧ znX z TI TO i1 i2 k1 k2 a b (i + 1) s2.heap ∧ ∀ b ∈ [z, TI, TO, i1, i2], H' b = none) E hi ⟨hz, hTI, hTO, ⟨h1, p⟩, h2, p2⟩ ?_
    intro v h' tk hY st' hk htk
    obtain ⟨T, x', y', rfl, hnew, hx', hy', hT⟩ := hY
    have ex : x' = u := Option.some.inj (hx'.symm.trans (by simpa using hu))
    have ey : y' = u2 := Option.some.inj (hy'.symm.trans (by simpa using hu2))
    subst ex; subst ey
    have new : ObjOk X.prog X.w (upd H T (.tup [x, y])) h' T (.tup [x, y]) := ⟨by show 2 ≤ sizeLine; decide, [x', y'], .cons ru (.cons ru2 .nil), hT⟩
    have I1 : Inv X pins σ (upd H T (.tup [x, y])) { s with heap := h', toks := tk } :=
      I.turnedNew (t' := tk) (ch := [z, TI, TO, i1, i2]) (fun c o hb q => hk c o (fun q' => hb (sub5 q')) q) hf hnew new
    refine ⟨.ref T, _, I1, rfl, ⟨T, x, y, rfl, I.hok.fresh hnew, rfl, fun l hl => by rw [Inv.seqX_inj I hl hqx]; exact hx, fun l hl => by rw [Inv.seqX_inj I hl hqy]; exact hy⟩, ?_, fun c hcm => ?_⟩
    · obtain ⟨a1, a2, a3, a4, a5⟩ := st'
      exact ⟨a1, a2, a3, a4.1, a5.1⟩
    · rw [upd_ne (Nat.ne_of_lt (Nat.lt_of_lt_of_le (fr c hcm) hnew))]
      exact (hf c hcm).1
  done := by
    intro X hP hw hK hc i pins s σ H E I hf st hg
    subst hP hw hK
    obtain ⟨hz, hTI, hTO, h1, h2⟩ := st
    obtain ⟨xs, ys, hqx, hqy, hend⟩ := hg
    obtain ⟨its, rv, p, la⟩ := Inv.seqX I hqx
    obtain ⟨its2, rv2, p2, lb⟩ := Inv.seqX I hqy
    have hh : X.A.in1.handled = none := I.ok.hd hc
    have na : a ≠ i1 := ne_it p h1
    have nb : b ≠ i2 := ne_it p2 h2
    have G := GoesN.zip2 (prog := X.prog) (w := X.w) (A := X.A) (elts := elts) (x1 := kk) (pos := tpos) S (drawsX k1 hh i1 a na its.toArray) (drawsX k2 hh i2 b nb its2.toArray)
    have ei : i = min its.toArray.size its2.toArray.size := by
      have l1 := rv.length
      have l2 := rv2.length
      simp only [List.size_toArray]; omega
    refine G.stops s (fun s1 => Inv X pins σ H s1) E ⟨hz, hTI, hTO, ⟨by rw [← ei]; exact h1, p⟩, by rw [← ei]; exact h2, p2⟩ fun h' tk hk htk => ?_
    exact I.turnedL (t' := tk) (ch := [z, TI, TO, i1, i2]) (fun c o hb q => hk c o (fun q' => hb (sub5 q')) q) hf
  self := fun A i s Q E st h => wpAny_pyIter_zip st.1 h

def iZipX (K : PySem.W.Frag) (ta : TA) : TI := fun σ H R => ta σ H fun vs H1 => ∃ k1 k2 a b xs ys, vs = [.ref a, .ref b] ∧ SqX K k1 H1 a xs ∧ SqX K k2 H1 b ys ∧ R (ItzX K k1 k2 a b) H1
theorem begX (k : Kd) (a : Addr) (items : Array Value) : ∃ o, Begins (.ref a) o (fun h => SeX k h a items) ∧ ∀ h it, h.get? it = some o → ItX k h it a 0 := by
  cases k with
  | l => exact ⟨_, begins_list a items, fun h it e => ⟨_, e, rfl, rfl⟩⟩
  | t => exact ⟨_, begins_tuple a items, fun h it e => ⟨_, e, rfl, rfl⟩⟩
theorem pi_zipX {X : Cx} {e e2 : Expr} {ta : TA} {p pos tpos : Pos} {elts : List Expr} {kk : Nat} (hg : Gl X "zip") (hm : X.mg "zip" = none) (ha : PA X [e, e2] ta)
    (hs : starEach [e, e2] X.env = (false, eval e X.env) :: starEach [e2] X.env := by rfl) (hpl : (backTo pos (starEach [e2] X.env)).any (·.1) = false := by rfl) :
    PI X (.Tuple elts kk tpos) (.Call (.Name "zip" p) [e, e2] [] pos) (iZipX X.K ta) := by
  refine ⟨fun pins s σ H R I h => ?_⟩
  refine Call_ (ld_blt I hg hm PyProof.Rows.boot_zip (PyProof.Rows.callWith_type1 (thn (ha.run pos pins s σ H _ I h) fun us s1 ⟨vs, H1, I1, r1, q1⟩ => ?_) hs hpl))
  obtain ⟨k1, k2, a, b, xs, ys, ex, hqx, hqy, q⟩ := q1
  subst ex
  cases r1 with
  | cons r rr =>
    cases rr with
    | cons r' rr =>
      cases rr
      cases r
      cases r'
      obtain ⟨its, rv, p1, la⟩ := Inv.seqX I1 hqx
      obtain ⟨its2, rv2, p2, lb⟩ := Inv.seqX I1 hqy
      obtain ⟨o1, B1, z1⟩ := begX k1 a its.toArray
      obtain ⟨o2, B2, z2⟩ := begX k2 b its2.toArray
      refine zip_begins2 B1 B2 p1 p2 fun h' hz hTI hTO h1 h2 hsz hk => wpAny_pyIter_zip hz ?_
      have I2 : Inv X pins σ H1 { s1 with heap := h' } := I1.kept (t' := s1.toks) hk
      have S := zip_sep2 (N := s1.heap.objs.size) (fp1 := [a]) (fp2 := [b]) (fun c hc => by rw [List.mem_singleton.mp hc]; exact la) (fun c hc => by rw [List.mem_singleton.mp hc]; exact lb)
      refine ⟨s1.heap.objs.size + 4, [s1.heap.objs.size + 4, s1.heap.objs.size + 2, s1.heap.objs.size + 3, s1.heap.objs.size, s1.heap.objs.size + 1], _, _, H1, rfl, I2, turn_zipX (k1 := k1) (k2 := k2) S, ⟨hz, hTI, ⟨_, _, hTO⟩, z1 _ _ h1, z2 _ _ h2⟩, fun c hcm => ?_, q⟩
      have e' : c = s1.heap.objs.size + 4 ∨ c = s1.heap.objs.size + 2 ∨ c = s1.heap.objs.size + 3 ∨ c = s1.heap.objs.size ∨ c = s1.heap.objs.size + 1 := by simpa using hcm
      have hle : s1.heap.objs.size ≤ c := by
        rcases e' with z | z | z | z | z
        · rw [z]; exact Nat.le_add_right _ _
        · rw [z]; exact Nat.le_add_right _ _
        · rw [z]; exact Nat.le_add_right _ _
        · rw [z]; exact Nat.le_refl _
        · rw [z]; exact Nat.le_add_right _ _
      exact I1.fpOk hle (I1.hok.fresh hle)

/-! ### zip as a source -/
def isFz : Pv → Bool
  | .ref _ => false
  | _ => true
def pairUp (xs ys : List Pv) : List Pv := List.zipWith (fun p q => .tup [p, q]) xs ys
def zipIt (x y : Pv) : Nat → Cells → Option (Option Pv) := fun i cs => match seqOf cs x, seqOf cs y with
  | some xs, some ys => if i ≤ (pairUp xs ys).length then some (pairUp xs ys)[i]? else none
  | _, _ => none
def iZip (f g : FE) : FI := fun sl cs => (f sl cs).bind fun x cs1 => (g sl cs1).bind fun y cs2 => match seqOf cs2 x, seqOf cs2 y with
  | some xs, some ys => if (isFz x && isFz y) = true then .ok (.fz (pairUp xs ys)) cs2 else .ok (.lv (zipIt x y)) cs2
  | _, _ => .bad
theorem seqOf_X {K : PySem.W.Frag} {mg : Str → Option Value} {U H : Hp} {μ : List Addr} {cs : Cells} {p : Pv} {v : V} {xs : List Pv} (r : Rel0 K mg cs μ U H) (h : RepV K mg U μ p v) (e : seqOf cs p = some xs) :
    ∃ k a, v = .ref a ∧ ∀ U' H' μ' cs' ys, Ex U U' → μ <+: μ' → Rel0 K mg cs' μ' U' H' → seqOf cs' p = some ys → ∃ ws, SqX K k H' a ws ∧ RepVs K mg U' μ' ys ws := by
  unfold seqOf at e
  split at e
  · cases e
    cases h with
    | tup s q => exact ⟨.t, _, rfl, fun U' H' μ' cs' ys ex m r' e' => by cases e'; exact ⟨_, r'.vh.t (ex.t s), q.mono ex m⟩⟩
  · rename_i hnt
    cases h with
    | lst s q => exact ⟨.l, _, rfl, fun U' H' μ' cs' ys ex m r' e' => by cases e'; exact ⟨_, r'.vh.l (ex.l s), q.mono ex m⟩⟩
    | ref hm => exact ⟨.l, _, rfl, fun U' H' μ' cs' ys ex m r' e' => by
        obtain ⟨a, ws, e1, s, q⟩ := asL_ok r' (.ref (pre_get m hm)) e'
        cases e1
        exact ⟨ws, s, q⟩⟩
    | tup s q => cases e
    | _ => cases e
theorem seqOf_fz {cs cs' : Cells} {p : Pv} (h : isFz p = true) : seqOf cs p = seqOf cs' p := by
  cases p <;> first | rfl | cases h
theorem pair_at {K : PySem.W.Frag} {mg : Str → Option Value} {U : Hp} {μ : List Addr} {xs ys : List Pv} {vs ws : List V} (h1 : RepVs K mg U μ xs vs) (h2 : RepVs K mg U μ ys ws) {i : Nat} {p : Pv} (e : (pairUp xs ys)[i]? = some p) :
    ∃ a b v w, p = .tup [a, b] ∧ vs[i]? = some v ∧ ws[i]? = some w ∧ RepV K mg U μ a v ∧ RepV K mg U μ b w := by
  unfold pairUp at e
  rw [List.getElem?_zipWith] at e
  cases ha : xs[i]? with
  | none => rw [ha] at e; cases e
  | some a =>
    cases hb : ys[i]? with
    | none => rw [ha, hb] at e; cases e
    | some b =>
      rw [ha, hb] at e
      cases e
      obtain ⟨v, q1, q2⟩ := h1.at ha
      obtain ⟨w, q3, q4⟩ := h2.at hb
      exact ⟨a, b, v, w, rfl, q1, q3, q2, q4⟩
/-- what a sequence holds is told by the heap -/
theorem it_zip {K : PySem.W.Frag} {mg : Str → Option Value} {U0 : Hp} {μ0 : List Addr} {x y : Pv} {k1 k2 : Kd} {a b : Addr}
    (h1 : ∀ U' H' μ' cs' ys, Ex U0 U' → μ0 <+: μ' → Rel0 K mg cs' μ' U' H' → seqOf cs' x = some ys → ∃ ws, SqX K k1 H' a ws ∧ RepVs K mg U' μ' ys ws)
    (h2 : ∀ U' H' μ' cs' ys, Ex U0 U' → μ0 <+: μ' → Rel0 K mg cs' μ' U' H' → seqOf cs' y = some ys → ∃ ws, SqX K k2 H' b ws ∧ RepVs K mg U' μ' ys ws) : ItOk K mg (zipIt x y) (ItzX K k1 k2 a b) U0 μ0 := by
  intro U H μ cs i e m r
  unfold zipIt
  cases ex : seqOf cs x with
  | none => trivial
  | some xs =>
    cases ey : seqOf cs y with
    | none => trivial
    | some ys =>
      obtain ⟨vs, s1, q1⟩ := h1 U H μ cs xs e m r ex
      obtain ⟨ws, s2, q2⟩ := h2 U H μ cs ys e m r ey
      show match (if i ≤ (pairUp xs ys).length then some (pairUp xs ys)[i]? else none) with | some (some p) => _ | some none => _ | none => _
      have hl : (pairUp xs ys).length = min vs.length ws.length := by unfold pairUp; rw [List.length_zipWith, q1.length, q2.length]
      by_cases hle : i ≤ (pairUp xs ys).length
      case neg => rw [if_neg hle]; trivial
      rw [if_pos hle]
      cases hp : (pairUp xs ys)[i]? with
      | none => exact ⟨vs, ws, s1, s2, by have := List.getElem?_eq_none_iff.mp hp; omega⟩
      | some p =>
        obtain ⟨pa, pb, v, w, rfl, a1, a2, a3, a4⟩ := pair_at q1 q2 hp
        refine ⟨⟨vs, ws, v, w, s1, s2, a1, a2⟩, fun z H' yl => ?_⟩
        obtain ⟨T, z1, z2, rfl, hT, rfl, f1, f2⟩ := yl
        have e1 : z1 = v := Option.some.inj ((f1 vs s1).symm.trans a1)
        have e2 : z2 = w := Option.some.inj ((f2 ws s2).symm.trans a2)
        subst e1; subst e2
        obtain ⟨r1, g1⟩ := r.freeze (o := .tup [z1, z2]) hT
        exact ⟨_, g1, r1, .tup (.of upd_same) (.cons (a3.mono g1.vv g1.mm) (.cons (a4.mono g1.vv g1.mm) .nil))⟩
theorem zipIt_fz {x y : Pv} {cs : Cells} {xs ys : List Pv} (hx : isFz x = true) (hy : isFz y = true) (ex : seqOf cs x = some xs) (ey : seqOf cs y = some ys) : zipIt x y = (Src.fz (pairUp xs ys)).it := by
  funext i cs'
  unfold zipIt
  rw [seqOf_fz (cs := cs') (cs' := cs) hx, seqOf_fz (cs := cs') (cs' := cs) hy, ex, ey]
  rfl
theorem i_zip {X : Cx} {W : WE} {f g : FE} {e e2 : Expr} {p pos tpos : Pos} {elts : List Expr} {kk : Nat} (hm : X.mg "zip" = none) (ha : PE X e (rdE X.K X.mg W f)) (hb : PE X e2 (rdE X.K X.mg W g)) (hg : Gl X "zip" := by rfl)
    (hs : starEach [e, e2] X.env = (false, eval e X.env) :: starEach [e2] X.env := by rfl) (hs2 : starEach [e2] X.env = (false, eval e2 X.env) :: starEach [] X.env := by rfl) (hpl : (backTo pos (starEach [e2] X.env)).any (·.1) = false := by rfl) :
    PI X (.Tuple elts kk tpos) (.Call (.Name "zip" p) [e, e2] [] pos) (rdI X.K X.mg W (iZip f g)) := PI.le (pi_zipX hg hm (a_cons ha (a_cons hb a_nil hs2) hs) hs hpl) fun σ H R q => by
  obtain ⟨sl, cs, μ, U, r0, rs, q⟩ := q
  refine ⟨sl, cs, μ, U, r0, rs, ?_⟩
  unfold iZip at q
  show Out _ _ _ _ _ _ _ ((f sl cs).bind fun v cs1 => ((g sl cs1).bind fun v2 cs2 => (Res.ok [] cs2).bind fun vs cs3 => .ok (v2 :: vs) cs3).bind fun vs cs2 => .ok (v :: vs) cs2) _
  cases hf : f sl cs with
  | bad => rw [hf] at q; exact q.elim
  | exn c fs cs1 => rw [hf] at q; exact q
  | ok v cs1 =>
    rw [hf] at q
    simp only [Res.bind_ok] at q ⊢
    cases hg2 : g sl cs1 with
    | bad => rw [hg2] at q; exact q.elim
    | exn c fs cs1 => rw [hg2] at q; exact q
    | ok v2 cs2 =>
      rw [hg2] at q
      simp only [Res.bind_ok] at q ⊢
      intro w U1 H1 μ1 g1 r1 p1
      have q := Out.later g1 q
      cases p1 with
      | cons h1 h2 =>
        cases h2 with
        | cons h2 h3 =>
          cases h3
          cases ex : seqOf cs2 v with
          | none => rw [ex] at q; exact q.elim
          | some xs =>
            cases ey : seqOf cs2 v2 with
            | none => rw [ex, ey] at q; exact q.elim
            | some ys =>
              rw [ex, ey] at q
              obtain ⟨k1, a, rfl, w1⟩ := seqOf_X r1 h1 ex
              obtain ⟨k2, b, rfl, w2⟩ := seqOf_X r1 h2 ey
              obtain ⟨vs, s1, _⟩ := w1 _ _ _ _ _ (Ex.refl _) (List.prefix_refl _) r1 ex
              obtain ⟨ws, s2, _⟩ := w2 _ _ _ _ _ (Ex.refl _) (List.prefix_refl _) r1 ey
              refine ⟨k1, k2, a, b, vs, ws, rfl, s1, s2, ?_⟩
              have hz := it_zip w1 w2
              have q : Out X.K X.mg (fun U μ (s : Src) J => ItOk X.K X.mg s.it J U μ) (fun c d H => W.w c d σ H) U1 H1 μ1 (if (isFz v && isFz v2) = true then .ok (.fz (pairUp xs ys)) cs2 else .ok (.lv (zipIt v v2)) cs2) R := q
              split at q
              · rename_i hfz
                obtain ⟨f1, f2⟩ := Bool.and_eq_true_iff.mp hfz
                rw [zipIt_fz f1 f2 ex ey] at hz
                exact q _ _ _ _ Gr.refl r1 hz
              · exact q _ _ _ _ Gr.refl r1 hz
end AL

set_option Elab.async false
set_option linter.all false
set_option autoImplicit false
set_option maxRecDepth 100000
set_option maxHeartbeats 4000000
/-! Own layer, part 8: the plain semantics, step by step, for simp; comprehensions and loops by words. -/
namespace AL
open PySem L2
section
variable {f g h o i : FE} {c d : FT} {t : FA} {a b s : FS} {sl : Sl} {cs : Cells}
@[simp] theorem ap_fnSem (n N : Nat) (b : FS) (ps : List Pv) (cs : Cells) : fnSem n N b ps cs = fnOut (b (slots N ps) cs) := rfl
@[simp] theorem ap_slots (N : Nat) (ps : List Pv) : slots N ps = ps.map some ++ List.replicate (N - ps.length) none := rfl
@[simp] theorem ap_out_rt (v : Pv) (cs : Cells) : fnOut (.rt v cs) = .ok v cs := rfl
@[simp] theorem ap_out_nx (sl : Sl) (cs : Cells) : fnOut (.nx sl cs) = .ok .non cs := rfl
@[simp] theorem ap_out_exn (c : Str) (fs : List (Str × Pv)) (sl : Sl) (cs : Cells) : fnOut (.exn c fs sl cs) = .exn c fs cs := rfl
@[simp] theorem ap_con (v : Pv) : fCon v sl cs = .ok v cs := rfl
theorem ap_var (k : Nat) : fVar k sl cs = match sl[k]? with | some (some v) => .ok v cs | _ => .bad := rfl
@[simp] theorem ap_var0 {x : Pv} {r : Sl} : fVar 0 (some x :: r) cs = .ok x cs := rfl
@[simp] theorem ap_varS {x : Option Pv} {r : Sl} (k : Nat) : fVar (k + 1) (x :: r) cs = fVar k r cs := rfl
@[simp] theorem ap_f2 (q : F2) : f2 q f g sl cs = (f sl cs).bind fun x cs1 => (g sl cs1).bind fun y cs2 => q x y cs2 := rfl
@[simp] theorem ap_f1 (q : Pv → Cells → Res Pv) : f1 q f sl cs = (f sl cs).bind fun x cs1 => q x cs1 := rfl
@[simp] theorem ap_tru : fTru f sl cs = (f sl cs).bind tru := rfl
@[simp] theorem ap_tst : fTst f sl cs = (f sl cs).bind fun v cs => match v with | .bl b => .ok b cs | _ => .bad := rfl
@[simp] theorem ap_not : fNot c sl cs = (c sl cs).bind fun b cs => .ok (!b) cs := rfl
@[simp] theorem ap_and : fAnd c d sl cs = (c sl cs).bind fun b cs1 => if b = true then d sl cs1 else .ok false cs1 := rfl
@[simp] theorem ap_or : fOr c d sl cs = (c sl cs).bind fun b cs1 => if b = true then .ok true cs1 else d sl cs1 := rfl
@[simp] theorem ap_ifE : fIfE c f g sl cs = (c sl cs).bind fun b cs1 => if b = true then f sl cs1 else g sl cs1 := rfl
@[simp] theorem ap_andV : fAndV f g sl cs = (f sl cs).bind fun v cs1 => match v with | .bl b => if b = true then g sl cs1 else .ok (.bl false) cs1 | _ => .bad := rfl
@[simp] theorem ap_orV : fOrV f g sl cs = (f sl cs).bind fun v cs1 => match v with | .bl b => if b = true then .ok (.bl true) cs1 else g sl cs1 | _ => .bad := rfl
@[simp] theorem ap_notV : fNotV f sl cs = (f sl cs).bind fun v cs1 => match v with | .bl b => .ok (.bl (!b)) cs1 | _ => .bad := rfl
@[simp] theorem ap_chain (q q' : F2) : fChain q q' f g h sl cs = (f sl cs).bind fun x cs1 => (g sl cs1).bind fun y cs2 => (q x y cs2).bind fun z cs3 => match z with | .bl b => if b = true then (h sl cs3).bind fun w cs4 => q' y w cs4 else .ok (.bl false) cs3 | _ => .bad := rfl
@[simp] theorem ap_nil : fNil sl cs = .ok [] cs := rfl
@[simp] theorem ap_cons : fCons f t sl cs = (f sl cs).bind fun v cs1 => (t sl cs1).bind fun vs cs2 => .ok (v :: vs) cs2 := rfl
@[simp] theorem ap_tup : fTup t sl cs = (t sl cs).bind fun vs cs1 => guard_ (fits vs.length) (.ok (.tup vs) cs1) := rfl
@[simp] theorem ap_lst : fLst t sl cs = (t sl cs).bind fun vs cs1 => guard_ (fits vs.length) (.ok (.lst vs) cs1) := rfl
@[simp] theorem ap_lstC : fLstC t sl cs = (t sl cs).bind fun vs cs1 => guard_ (fits vs.length) (.ok (.ref cs1.length) (cs1 ++ [.lst vs])) := rfl
@[simp] theorem ap_noPart : fNoPart sl cs = .ok none cs := rfl
@[simp] theorem ap_part : fPart f sl cs = (f sl cs).bind fun v cs1 => match v with | .int i => .ok (some i) cs1 | _ => .bad := rfl
@[simp] theorem ap_slc (lo hi : FO) : fSlc f lo hi sl cs = (f sl cs).bind fun x cs1 => (lo sl cs1).bind fun l cs2 => (hi sl cs2).bind fun h cs3 => oSlc x l h cs3 := rfl
@[simp] theorem ap_call (m : FN) : fCall m t sl cs = (t sl cs).bind fun vs cs1 => m vs cs1 := rfl
@[simp] theorem ap_meth (T : String) (m : FM) : fMeth T m o t sl cs = (o sl cs).bind fun ov cs1 => guard_ (tyIs T ov cs1) ((t sl cs1).bind fun vs cs2 => m ov vs cs2) := rfl
@[simp] theorem ap_meth0 (T : String) (m : FM) : fMeth0 T m o sl cs = (o sl cs).bind fun ov cs1 => guard_ (tyIs T ov cs1) (m ov [] cs1) := rfl
@[simp] theorem ap_yes : fYes sl cs = .ok true cs := rfl
@[simp] theorem ap_ret : sRet f sl cs = (f sl cs).go sl fun v cs1 => .rt v cs1 := rfl
@[simp] theorem ap_retN : sRetN sl cs = .rt .non cs := rfl
@[simp] theorem ap_expr : sExpr f sl cs = (f sl cs).go sl fun _ cs1 => .nx sl cs1 := rfl
@[simp] theorem ap_pass : sPass sl cs = .nx sl cs := rfl
@[simp] theorem ap_brk : sBrk sl cs = .bk sl cs := rfl
@[simp] theorem ap_cnt : sCnt sl cs = .ct sl cs := rfl
@[simp] theorem ap_seq : sSeq a b sl cs = (a sl cs).then b := rfl
@[simp] theorem ap_if : sIf c a b sl cs = (c sl cs).go sl fun q cs1 => if q = true then a sl cs1 else b sl cs1 := rfl
@[simp] theorem ap_asg (k : Nat) : sAsg k f sl cs = (f sl cs).go sl fun v cs1 => .nx (sl.set k (some v)) cs1 := rfl
@[simp] theorem ap_asgG (q : FG) : sAsgG q f sl cs = (f sl cs).go sl fun v cs1 => match q v sl cs1 with | some sl' => .nx sl' cs1 | none => .bad := rfl
@[simp] theorem ap_putIx : sPutIx o i f sl cs = (f sl cs).go sl fun v cs1 => (o sl cs1).go sl fun ov cs2 => (i sl cs2).go sl fun iv cs3 => match putIx ov iv v cs3 with | some cs4 => .nx sl cs4 | none => .bad := rfl
@[simp] theorem ap_aug (k : Nat) (q : F2) : sAug k q f sl cs = match sl[k]? with | some (some x) => (f sl cs).go sl fun y cs1 => (q x y cs1).go sl fun z cs2 => .nx (sl.set k (some z)) cs2 | _ => .bad := rfl
@[simp] theorem ap_par (k j : Nat) : sPar k j t sl cs = (t sl cs).go sl fun vs cs1 => match vs with | [v, w] => .nx ((sl.set k (some v)).set j (some w)) cs1 | _ => .bad := rfl
@[simp] theorem ap_par3 (k j l : Nat) : sPar3 k j l t sl cs = (t sl cs).go sl fun vs cs1 => match vs with | [u, v, w] => .nx (((sl.set k (some u)).set j (some v)).set l (some w)) cs1 | _ => .bad := rfl
@[simp] theorem ap_for (q : FG) (src : FI) : sFor q src b sl cs = (src sl cs).go sl fun s cs1 => forS (gTurn q b) s sl cs1 := rfl
@[simp] theorem ap_forS (body : Pv → FS) (ps : List Pv) : forS body (.fz ps) sl cs = forL body ps sl cs := rfl
@[simp] theorem ap_iSeq : iSeq f sl cs = (f sl cs).bind fun v cs1 => match srcOf cs1 v with | some s => .ok s cs1 | none => .bad := rfl
@[simp] theorem ap_iRange1 : iRange1 f sl cs = (f sl cs).bind fun v cs1 => match v with | .int j => guard_ (rngOk j) (.ok (.fz ((List.range j.toNat).map fun (k : Nat) => .int (k : Int))) cs1) | _ => .bad := rfl
@[simp] theorem ap_iZip : iZip f g sl cs = (f sl cs).bind fun x cs1 => (g sl cs1).bind fun y cs2 => match seqOf cs2 x, seqOf cs2 y with | some xs, some ys => if (isFz x && isFz y) = true then .ok (.fz (pairUp xs ys)) cs2 else .ok (.lv (zipIt x y)) cs2 | _, _ => .bad := rfl
@[simp] theorem ap_srcT (xs : List Pv) : srcOf cs (.tup xs) = some (.fz xs) := rfl
@[simp] theorem ap_srcL (xs : List Pv) : srcOf cs (.lst xs) = some (.fz xs) := rfl
@[simp] theorem ap_gN (k : Nat) (v : Pv) : gN k v sl cs = some (sl.set k (some v)) := rfl
@[simp] theorem ap_gT (n : Nat) (r : FGs) (xs : List Pv) : gT n r (.tup xs) sl cs = if xs.length = n then r xs sl cs else none := rfl
@[simp] theorem ap_gsNil : gsNil [] sl cs = some sl := rfl
@[simp] theorem ap_gsCons (q : FG) (r : FGs) (v : Pv) (vs : List Pv) : gsCons q r (v :: vs) sl cs = (q v sl cs).bind fun sl' => r vs sl' cs := rfl
@[simp] theorem ap_lcTurn (q : FG) (v : Pv) : lcTurn q c f sl v cs = match q v sl cs with | some sl2 => (noX (c sl2 cs)).bind fun b cs1 => if b = true then (noX (f sl2 cs1)).bind fun y cs2 => .ok (some y) cs2 else .ok none cs1 | none => .bad := rfl
@[simp] theorem ap_gTurn (q : FG) (v : Pv) : gTurn q b v sl cs = match q v sl cs with | some sl' => b sl' cs | none => .bad := rfl
@[simp] theorem ap_wipe0 : wipeS sl [] = sl := rfl
@[simp] theorem ap_wipe1 (k : Nat) (vs : List Nat) : wipeS sl (k :: vs) = (wipeS sl vs).set k none := rfl
end
/-! values -/
section
variable {cs : Cells}
@[simp] theorem v_addI (i j : Int) : oAdd (.int i) (.int j) cs = .ok (.int (i + j)) cs := rfl
@[simp] theorem v_addS (x y : Str) : oAdd (.str x) (.str y) cs = guard_ (fits (x.length + y.length)) (.ok (.str (x ++ y)) cs) := rfl
@[simp] theorem v_addL (x y : List Pv) : oAdd (.lst x) (.lst y) cs = guard_ (fits (x.length + y.length)) (.ok (.lst (x ++ y)) cs) := rfl
@[simp] theorem v_addT (x y : List Pv) : oAdd (.tup x) (.tup y) cs = guard_ (fits (x.length + y.length)) (.ok (.tup (x ++ y)) cs) := rfl
@[simp] theorem v_addII (i j : Int) : oAddI (.int i) (.int j) cs = .ok (.int (i + j)) cs := rfl
@[simp] theorem v_sub (i j : Int) : oSub (.int i) (.int j) cs = .ok (.int (i - j)) cs := rfl
@[simp] theorem v_mul (i j : Int) : oMul (.int i) (.int j) cs = guard_ (mulOk i j) (.ok (.int (i * j)) cs) := rfl
@[simp] theorem v_fdiv (i j : Int) : oFdiv (.int i) (.int j) cs = guard_ (fdivOk j) (.ok (.int (i.fdiv j)) cs) := rfl
@[simp] theorem v_mod (i j : Int) : oMod (.int i) (.int j) cs = guard_ (decide (j ≠ 0)) (.ok (.int (i.fmod j)) cs) := rfl
@[simp] theorem v_pow (i j : Int) : oPow (.int i) (.int j) cs = guard_ (powOk i j) (.ok (.int (i ^ j.toNat)) cs) := rfl
@[simp] theorem v_neg (i : Int) : oNeg (.int i) cs = .ok (.int (-i)) cs := rfl
@[simp] theorem v_cmp (p : Int → Int → Bool) (i j : Int) : oCmpI p (.int i) (.int j) cs = .ok (.bl (p i j)) cs := rfl
@[simp] theorem v_ixT (xs : List Pv) (i : Int) : oIx (.tup xs) (.int i) cs = match atI xs i with | some v => .ok v cs | none => .bad := rfl
@[simp] theorem v_ixL (xs : List Pv) (i : Int) : oIx (.lst xs) (.int i) cs = match atI xs i with | some v => .ok v cs | none => .bad := rfl
theorem v_ixC {k : Nat} {xs : List Pv} (h : cs[k]? = some (.lst xs)) (i : Int) : oIx (.ref k) (.int i) cs = match atI xs i with | some v => .ok v cs | none => .bad := by
  first
    | (simp [oIx, asL, h]; done)
    | (simp [oIx, asL, h]; rfl)
@[simp] theorem v_slcL (xs : List Pv) (lo hi : Option Int) : oSlc (.lst xs) lo hi cs = .ok (.lst (cut xs lo hi)) cs := rfl
@[simp] theorem v_slcT (xs : List Pv) (lo hi : Option Int) : oSlc (.tup xs) lo hi cs = .ok (.tup (cut xs lo hi)) cs := rfl
@[simp] theorem v_truB (b : Bool) : tru (.bl b) cs = .ok b cs := rfl
@[simp] theorem v_lenT (xs : List Pv) : mLen [.tup xs] cs = .ok (.int xs.length) cs := rfl
@[simp] theorem v_lenL (xs : List Pv) : mLen [.lst xs] cs = .ok (.int xs.length) cs := rfl
@[simp] theorem v_abs (i : Int) : mAbs [.int i] cs = .ok (.int (if i < 0 then -i else i)) cs := rfl
@[simp] theorem v_intI (i : Int) : mInt [.int i] cs = .ok (.int i) cs := rfl
@[simp] theorem v_intB (b : Bool) : mInt [.bl b] cs = .ok (.int (if b then 1 else 0)) cs := rfl
@[simp] theorem v_sum (ns : List Int) : mSum [.lst (ns.map Pv.int)] cs = .ok (.int ns.sum) cs := by simp [mSum, asL, intsOf_map]
@[simp] theorem v_tupleT (xs : List Pv) : mTuple [.tup xs] cs = .ok (.tup xs) cs := rfl
@[simp] theorem v_tupleL (xs : List Pv) : mTuple [.lst xs] cs = .ok (.tup xs) cs := rfl
@[simp] theorem v_listT (xs : List Pv) : mList [.tup xs] cs = .ok (.lst xs) cs := rfl
@[simp] theorem v_listL (xs : List Pv) : mList [.lst xs] cs = .ok (.lst xs) cs := rfl
/-- a datum is equal to itself -/
theorem v_neSelf {x : Pv} {d : PyData} (h : toPy (deref cs x) = some d) (hs : SeqAt.shaped d = true) : oNe x x cs = .ok (.bl false) cs := by
  simp [eqD, h, hs, SeqAt.eqv_refl d (SeqAt.canLay_of_shaped hs)]
theorem v_eqSelf {x : Pv} {d : PyData} (h : toPy (deref cs x) = some d) (hs : SeqAt.shaped d = true) : oEq x x cs = .ok (.bl true) cs := by
  simp [eqD, h, hs, SeqAt.eqv_refl d (SeqAt.canLay_of_shaped hs)]
@[simp] theorem v_eqI (i j : Int) : eqD false (.int i) (.int j) cs = .ok (.bl (i == j)) cs := rfl
@[simp] theorem v_neI (i j : Int) : eqD true (.int i) (.int j) cs = .ok (.bl (!(i == j))) cs := rfl
end
theorem range_ok {f : FE} {sl : Sl} {cs cs1 : Cells} {j : Int} (n : Nat) (hf : f sl cs = .ok (.int j) cs1) (hj : j = (n : Int)) (h : n ≤ 16777216) : iRange1 f sl cs = .ok (.fz ((List.range n).map fun (k : Nat) => .int (k : Int))) cs1 := by
  subst hj
  unfold iRange1
  rw [hf]
  simp only [Res.bind_ok, Int.toNat_natCast]
  rw [guard_of (rngOk.of (by omega) (by omega))]
/-! comprehensions over what is frozen -/
theorem lcL_mapG {α : Type} {turn : Pv → Cells → Res (Option Pv)} {f h : α → Pv} {cs : Cells} : ∀ (L : List α), (∀ o ∈ L, turn (f o) cs = .ok (some (h o)) cs) → lcL turn (L.map f) cs = .ok (L.map h) cs
  | [], _ => rfl
  | v :: vs, q => by
    simp [lcL, q v List.mem_cons_self, lcL_mapG vs fun u hu => q u (List.mem_cons_of_mem _ hu)]
theorem fLc_map {α : Type} {src : FI} {g : FG} {c : FT} {e : FE} {vs : List Nat} {sl : Sl} {cs : Cells} {L : List α} {f h : α → Pv} (hs : src sl cs = .ok (.fz (L.map f)) cs) (hf : L.length ≤ 16777216) (ht : ∀ o ∈ L, lcTurn g c e (wipeS sl vs) (f o) cs = .ok (some (h o)) cs) : fLc src g c e vs sl cs = .ok (.lst (L.map h)) cs := by
  have hl : fits (L.map f).length = true := decide_eq_true (by rw [List.length_map]; exact hf)
  simp [fLc, hs, lcS]
  rw [guard_of (by simpa using hl), lcL_mapG L ht]
  rfl
theorem lcL_some {turn : Pv → Cells → Res (Option Pv)} {P : Cells → Prop} {R : Pv → Prop} : ∀ (ps : List Pv) (cs : Cells), (∀ v ∈ ps, ∀ cs, P cs → ∃ y cs', turn v cs = .ok (some y) cs' ∧ R y ∧ P cs') → P cs →
    ∃ ys cs', lcL turn ps cs = .ok ys cs' ∧ ys.length = ps.length ∧ (∀ y ∈ ys, R y) ∧ P cs'
  | [], cs, _, p => ⟨[], cs, rfl, rfl, fun _ h => by simp at h, p⟩
  | v :: vs, cs, h, p => by
    obtain ⟨y, cs1, e1, r1, p1⟩ := h v List.mem_cons_self cs p
    obtain ⟨ys, cs2, e2, l2, r2, p2⟩ := lcL_some vs cs1 (fun u hu => h u (List.mem_cons_of_mem _ hu)) p1
    refine ⟨y :: ys, cs2, ?_, by simp [l2], fun u hu => ?_, p2⟩
    · simp [lcL, e1, e2]
    · rcases List.mem_cons.mp hu with e | e
      · rw [e]; exact r1
      · exact r2 u e
/-- each turn gives one item; P holds of the cells between the turns -/
theorem fLc_some {src : FI} {g : FG} {c : FT} {e : FE} {vs : List Nat} {sl : Sl} {cs cs0 : Cells} {ps : List Pv} {P : Cells → Prop} {R : Pv → Prop} (hs : src sl cs = .ok (.fz ps) cs0) (hf : ps.length ≤ 16777216)
    (ht : ∀ v ∈ ps, ∀ cs, P cs → ∃ y cs', lcTurn g c e (wipeS sl vs) v cs = .ok (some y) cs' ∧ R y ∧ P cs') (hp : P cs0) : ∃ ys cs', fLc src g c e vs sl cs = .ok (.lst ys) cs' ∧ ys.length = ps.length ∧ (∀ y ∈ ys, R y) ∧ P cs' := by
  obtain ⟨ys, cs1, e1, l1, r1, p1⟩ := lcL_some ps cs0 ht hp
  refine ⟨ys, cs1, ?_, l1, r1, p1⟩
  simp [fLc, hs, lcS]
  rw [guard_of (show fits ps.length = true from decide_eq_true hf), e1]
  rfl
/-! loops -/
theorem forL_inv {body : Pv → FS} {P : Sl → Cells → Prop} : ∀ (ps : List Pv) (sl : Sl) (cs : Cells), (∀ v ∈ ps, ∀ sl cs, P sl cs → ∃ sl' cs', body v sl cs = .nx sl' cs' ∧ P sl' cs') → P sl cs → ∃ sl' cs', forL body ps sl cs = .nx sl' cs' ∧ P sl' cs'
  | [], sl, cs, _, p => ⟨sl, cs, rfl, p⟩
  | v :: vs, sl, cs, h, p => by
    obtain ⟨sl1, cs1, e1, p1⟩ := h v List.mem_cons_self sl cs p
    obtain ⟨sl2, cs2, e2, p2⟩ := forL_inv vs sl1 cs1 (fun u hu => h u (List.mem_cons_of_mem _ hu)) p1
    exact ⟨sl2, cs2, by simp [forL, e1, e2], p2⟩
end AL

set_option Elab.async false
set_option linter.all false
set_option autoImplicit false
set_option maxRecDepth 100000
set_option maxHeartbeats 4000000
/-! Own layer, part 9: own exceptions: made, raised, caught, asked. -/
namespace AL
open PySem PySem.Spec PyProof.Rows L2
theorem noCX {P : Program} {w : World} {outer : List Env} {H : Hp} {s s' : Shared} {e : Value} (h : L2.CX P w outer H s (fun _ _ _ => False) e s') : False := by
  obtain ⟨_, _, _, _, _, _, _, _, _, _, _, _, z⟩ := h
  exact z

/-! ### __init__ that stores its arguments -/
def spXI (C : Addr) (fs : List Str) : Sp := fun vs H Q _ => ∃ a ws, vs = .ref a :: ws ∧ ws.length = fs.length ∧ H a = some (exo a C none) ∧
  ∀ d H2, H d = none → d ≠ a → H2 a = some (exo a C (some d)) → H2 d = some (exd d (fs.zip ws).reverse) → (∀ b, b ≠ a → b ≠ d → H2 b = H b) → Q .non H2
def tXI (K : PySem.W.Frag) : List (Str × Nat) → TS
  | [] => tNext
  | (f, i) :: r => tSeq (tOst K f (tVar 0) (tVar i)) (tXI K r)
def SlW (σ : L2.St) : List (Str × Nat) → List V → Prop
  | [], [] => True
  | (_, i) :: r, w :: ws => σ[i]? = some (some w) ∧ SlW σ r ws
  | _, _ => False
theorem slW_of (σ : L2.St) : ∀ (r : List (Str × Nat)) (ws : List V) (k : Nat), r.map (·.2) = List.range' k r.length → ws.length = r.length → (∀ j w, ws[j]? = some w → σ[k + j]? = some (some w)) → SlW σ r ws
  | [], [], _, _, _, _ => trivial
  | [], _ :: _, _, _, h, _ => by cases h
  | _ :: _, [], _, _, h, _ => by cases h
  | (f, i) :: r, w :: ws, k, h1, h2, h3 => by
    have e : i :: r.map (·.2) = k :: List.range' (k + 1) r.length := h1
    obtain ⟨e1, e2⟩ := List.cons.inj e
    subst e1
    refine ⟨h3 0 w rfl, slW_of σ r ws (i + 1) e2 (by simpa using h2) fun j w' hj => ?_⟩
    have := h3 (j + 1) w' (by simpa using hj)
    rwa [show i + (j + 1) = i + 1 + j by omega] at this
theorem tXI_old {K : PySem.W.Frag} {C a d : Addr} {D : Ends} {σ : L2.St} (T : OexC K C) (h0 : σ[0]? = some (some (.ref a))) (hda : d ≠ a) : ∀ (r : List (Str × Nat)) (ws : List V) (acc : List (Str × V)) (H : Hp), (∀ p ∈ r, PySem.W.findIn K (.ref C) p.1 = some none) → SlW σ r ws →
    H a = some (exo a C (some d)) → H d = some (exd d acc) → acc.length + r.length ≤ 900 →
    (∀ H2, H2 a = some (exo a C (some d)) → H2 d = some (exd d (((r.map (·.1)).zip ws).reverse ++ acc)) → (∀ b, b ≠ a → b ≠ d → H2 b = H b) → D.nx σ H2) → tXI K r D σ H
  | [], [], acc, H, _, _, ha, hd, _, q => q H ha hd fun _ _ _ => rfl
  | [], _ :: _, _, _, _, h, _, _, _, _ => h.elim
  | _ :: _, [], _, _, _, h, _, _, _, _ => h.elim
  | (f, i) :: r, w :: ws, acc, H, hno, ⟨hw, hs⟩, ha, hd, hl, q => by
    refine ⟨w, hw, _, h0, a, C, rfl, T, hno (f, i) List.mem_cons_self, .inr ⟨d, acc, ha, hd, by simp only [List.length_cons] at hl; omega, ?_⟩⟩
    refine tXI_old T h0 hda r ws ((f, w) :: acc) _ (fun p hp => hno p (List.mem_cons_of_mem _ hp)) hs (by rw [upd_ne (Ne.symm hda)]; exact ha) upd_same (by simp only [List.length_cons] at hl ⊢; omega) fun H2 e1 e2 e3 => ?_
    refine q H2 e1 ?_ fun b hb1 hb2 => by rw [e3 b hb1 hb2, upd_ne hb2]
    rw [e2]
    simp
theorem tXI_new {K : PySem.W.Frag} {C a : Addr} {D : Ends} {σ : L2.St} (T : OexC K C) (h0 : σ[0]? = some (some (.ref a))) (p : Str × Nat) (r : List (Str × Nat)) (ws : List V) (H : Hp) (hno : ∀ q ∈ p :: r, PySem.W.findIn K (.ref C) q.1 = some none) (hs : SlW σ (p :: r) ws)
    (ha : H a = some (exo a C none)) (hl : r.length ≤ 800)
    (q : ∀ d H2, H d = none → d ≠ a → H2 a = some (exo a C (some d)) → H2 d = some (exd d ((((p :: r).map (·.1)).zip ws).reverse)) → (∀ b, b ≠ a → b ≠ d → H2 b = H b) → D.nx σ H2) : tXI K (p :: r) D σ H := by
  obtain ⟨f, i⟩ := p
  cases ws with
  | nil => exact hs.elim
  | cons w ws =>
    obtain ⟨hw, hs⟩ := hs
    refine ⟨w, hw, _, h0, a, C, rfl, T, hno (f, i) List.mem_cons_self, .inl ⟨ha, fun d hd hda => ?_⟩⟩
    refine tXI_old (d := d) T h0 hda r ws [(f, w)] _ (fun p hp => hno p (List.mem_cons_of_mem _ hp)) hs upd_same (by rw [upd_ne hda, upd_same]) (by simp only [List.length_cons, List.length_nil]; omega) fun H2 e1 e2 e3 => ?_
    refine q d H2 hd hda e1 (by rw [e2]; simp) fun b hb1 hb2 => by rw [e3 b hb1 hb2, upd_ne hb1, upd_ne hb2]
section
variable {P : Program} {w : World} {K : PySem.W.Frag} {mg : Str → Option Value} {base : Heap} {x qual : Str} {st : Stmt} {f : Addr} {fd : FuncData} {ps : List Str} {C : Addr}
theorem xinit_ok {p : Str × Nat} {r : List (Str × Nat)} (T : OexC K C) (hno : ∀ q ∈ p :: r, PySem.W.findIn K (.ref C) q.1 = some none) (F : Fun K x qual st f fd) (S : FnScope ps ps (defScope st)) (hn : ps.length = r.length + 2) (hr : (p :: r).map (·.2) = List.range' 1 (p :: r).length) (hl : r.length ≤ 800)
    (hb : ∀ (cdv : Value) (A : Around) (outer : List Env) (s : Shared) (H : Hp) (E : XK), PSs (cxOf (L2.CX P w) P w K mg base ps qual (defScope st) f cdv A outer s H E) (defBody st) (tXI K (p :: r))) :
    FnOk P w K mg base (L2.CX P w) 1 f fd ps (spXI C ((p :: r).map (·.1))) := by
  refine F.okX S (fun vs H Q E h => ?_) (fun cdv A outer s H vs Q E _ h => ⟨_, hb cdv A outer s H E, ?_⟩)
  · obtain ⟨a, ws, rfl, h, _⟩ := h
    rw [List.length_cons, h, hn]; simp
  · obtain ⟨a, ws, rfl, h, ha, q⟩ := h
    refine tXI_new T rfl p r ws H hno (slW_of _ _ ws 1 hr (by simpa using h) fun j w' hj => ?_) ha hl fun d H2 h1 h2 h3 h4 h5 => q d H2 h1 h2 h3 h4 h5
    unfold L2.start
    have hj' := (List.getElem?_eq_some_iff.mp hj).1
    rw [List.getElem?_append_left (by simp; omega), List.getElem?_map, show 1 + j = j + 1 by omega, List.getElem?_cons_succ, hj]
    rfl
end

/-! ### raise -/
theorem RepVs.reverse {K : PySem.W.Frag} {mg : Str → Option Value} {U : Hp} {μ : List Addr} : ∀ {ps : List Pv} {vs : List V}, RepVs K mg U μ ps vs → RepVs K mg U μ ps.reverse vs.reverse
  | _, _, .nil => .nil
  | _, _, .cons h r => by
    rw [List.reverse_cons, List.reverse_cons]
    exact (RepVs.reverse r).append (.cons h .nil)
def sRaise (c : Str) (names : List Str) (t : FA) : FS := fun sl cs => (t sl cs).go sl fun vs cs1 => if vs.length = names.length then .exn c (names.zip vs).reverse sl cs1 else .bad
section
variable {X : Cx} {W : WE} {t : FA} {C fI : Addr} {k : Nat} {fd : FuncData} {ps names : List Str} {x : Str} {e : Expr} {es : List Expr} {p pos pos2 : Pos}
theorem s_raise (hc : X.calm = true) (T : OexC X.K C) (iC : PySem.W.findIn X.K (.ref C) "__init__" = some (some (.ref fI))) (tI : PySem.W.typeIn X.K (.ref fI) = some (.type "function"))
    (F1 : FnOk X.prog X.w X.K X.mg X.base (L2.CX X.prog X.w) k fI fd ps (spXI C names)) (hr : Room (k + 1) X.A) (hb : Binds X.K fd ps []) (hm : X.mg x = some (.ref C)) (tk : Takes X W.w) (ha : PA X (e :: es) (rdA X.K X.mg W t)) (hn : names.length ≤ 100 := by decide) (hg : Gl X x := by rfl)
    (hdb : (x == ("__debug__" : Str)) = false := by decide) (he : starEach (e :: es) X.env = (false, eval e X.env) :: starEach es X.env := by rfl) (hpl : (backTo pos (starEach es X.env)).any (·.1) = false := by rfl) :
    PS X (.Raise (some (.Call (.Name x p) (e :: es) [] pos)) none pos2) (rdS X.K X.mg W (sRaise x names t)) := by
  refine PS.le (ps_raise hc tk (pmk_oex T iC tI F1 hr hb .nil (fun _ _ _ _ _ _ _ h => (noCX h).elim) hg hm ha hdb he hpl)) fun D σ H q => ?_
  obtain ⟨sl, cs, μ, U, r0, rs, q⟩ := q
  refine ⟨sl, cs, μ, U, r0, rs, OutS.seq q rs fun vs cs1 ws U1 H1 μ1 _ g1 r1 p1 h1 => ?_⟩
  split at h1
  · rename_i hl
    have hl2 : ws.length = names.length := by rw [← p1.length]; exact hl
    refine ⟨by omega, fun a ha => ⟨a, ws, by rw [List.append_nil], hl2, upd_same, fun d H2 hd hda e1 e2 e3 => ⟨rfl, d, _, e1, e2, ?_, ?_⟩⟩⟩
    · rw [upd_ne hda] at hd; exact hd
    · rw [upd_ne hda] at hd
      have eH : upd (del H2 a) d (.xd (names.zip ws).reverse) = upd H1 d (.xd (names.zip ws).reverse) := by
        funext b
        by_cases hbd : b = d
        · subst hbd; rw [upd_same, upd_same]
        · rw [upd_ne hbd, upd_ne hbd]
          by_cases hba : b = a
          · subst hba; rw [del_same, ha]
          · rw [del_ne hba, e3 b hba hbd, upd_ne hba]
      rw [eH]
      obtain ⟨r2, g2⟩ := r1.freeze (o := .xd (names.zip ws).reverse) hd
      refine h1 C (some d) σ _ _ _ g2 r2 ((rs.mono g1).mono g2) hm (.inr ⟨d, _, rfl, upd_same, ?_, ?_⟩)
      · rw [List.map_reverse, List.map_reverse, List.map_fst_zip (by omega), List.map_fst_zip (by omega)]
      · rw [List.map_reverse, List.map_reverse, List.map_snd_zip (by omega), List.map_snd_zip (by omega)]
        exact (p1.mono g2.vv g2.mm).reverse
  · exact h1.elim
end

/-! ### try: body, except x as n: suite -/
def goneS (i : Nat) : RS → RS
  | .nx sl cs => .nx (sl.set i none) cs
  | .bk sl cs => .bk (sl.set i none) cs
  | .ct sl cs => .ct (sl.set i none) cs
  | .rt v cs => .rt v cs
  | _ => .bad
def sTry (tab : List (Str × Bool)) (i : Nat) (body : FS) (su : Str → List (Str × Pv) → FS) : FS := fun sl cs => match body sl cs with
  | .exn c fs sl1 cs1 => match tab.lookup c with
    | some true => goneS i (su c fs (sl1.set i none) cs1)
    | some false => .exn c fs sl1 cs1
    | none => .bad
  | r => r
/-- what the classes of tab say of an except clause of cx -/
def ExmT (K : PySem.W.Frag) (mg : Str → Option Value) (cx : Value) (tab : List (Str × Bool)) : Prop := ∀ c b, tab.lookup c = some b → ∀ C, mg c = some (.ref C) → PySem.W.exmOne K (.ref C) cx = some b
section
variable {X : Cx} {w : WX} {x n : Str} {cx : Value} {i : Nat} {body suite : List Stmt} {b₀ : Stmt} {np pos pos' : Pos} {bf : FS} {su : Str → List (Str × Pv) → FS} {tab : List (Str × Bool)}
theorem s_try (hN : X.N.Nodup) (hc : Names X x cx) (tk : Takes X w) (hT : ExmT X.K X.mg cx tab)
    (hb : ∀ (W : WX) (pn : List (Addr × Obj)) (xe : Value → Shared → Prop), Takes (X.tr pn xe) W → PassesOwn (model X.prog X.w) X.A X.env xe → PSs (X.tr pn xe) body (rdS X.K X.mg ⟨W, none⟩ bf))
    (hsu : ∀ (a : Addr) (oe : Obj) (C : Addr) (d : Option Addr) (pn : List (Addr × Obj)), Zc (.ref C) d oe → (∃ vs, oe.data = .fields vs) → ∀ c fs, X.mg c = some (.ref C) → PSs (X.suite a ((a, oe) :: pn)) (b₀ :: suite) (rdS X.K X.mg ⟨W0.w, some ⟨i, a, .ref C, fs, d⟩⟩ (su c fs)))
    (hi : X.N[i]? = some n := by rfl) (hln : X.env.kindOf n = some .local := by rfl) (hs : X.stack = X.env :: X.outer := by rfl) (hf : X.env.frame = some X.env.locals := by rfl) :
    PS X (.Try body [.ExceptHandler (some (.Name x np)) (some n) (b₀ :: suite) pos'] [] [] pos) (rdS X.K X.mg ⟨w, none⟩ (sTry tab i bf su)) := by
  refine PS.le (ps_try_as (tb := fun W => rdS X.K X.mg ⟨W, none⟩ bf) (ts := fun a cls d => fun D σ H => ∃ C c fs, cls = .ref C ∧ X.mg c = some (.ref C) ∧ rdS X.K X.mg ⟨W0.w, some ⟨i, a, .ref C, fs, d⟩⟩ (su c fs) D σ H) (Wout := w) hs hf hN hi hln hc tk hb
    (fun a oe cls d pn hz hf => ⟨fun pins s σ H D I h => by
      obtain ⟨C, c, fs, rfl, hm, h⟩ := h
      exact (hsu a oe C d pn hz hf c fs hm).run pins s σ H D I h⟩)) fun D σ H q => ?_
  obtain ⟨sl, cs, μ, U, r0, rs, q⟩ := q
  refine ⟨sl, cs, μ, U, r0, rs, ?_⟩
  unfold sTry at q
  cases hbd : bf sl cs with
  | nx sl1 cs1 => rw [hbd] at q; exact q
  | rt v cs1 => rw [hbd] at q; exact q
  | bk sl1 cs1 => rw [hbd] at q; exact q
  | ct sl1 cs1 => rw [hbd] at q; exact q
  | bad => rw [hbd] at q; exact q
  | exn c fs sl1 cs1 =>
    rw [hbd] at q
    intro C d σ1 U1 H1 μ1 g1 r1 rs1 hm hx
    have q : OutS X.K X.mg ⟨w, none⟩ D U H μ (match tab.lookup c with
      | some true => goneS i (su c fs (sl1.set i none) cs1)
      | some false => .exn c fs sl1 cs1
      | none => .bad) := q
    split at q
    · rename_i et
      refine ⟨true, hT c true et C hm, fun _ a ha => ⟨C, c, fs, rfl, hm, sl1.set i none, cs1, μ1, U1, r1, RelS.take (x := ⟨i, a, .ref C, fs, d⟩) rs1 hx, ?_⟩, fun z => nomatch z⟩
      have q := OutS.later g1 q
      cases hsr : su c fs (sl1.set i none) cs1 with
      | nx sl2 cs2 => rw [hsr] at q; exact fun σ2 U2 H2 μ2 g2 r2 rs2 => q _ U2 H2 μ2 g2 r2 (rs2.gone i)
      | bk sl2 cs2 => rw [hsr] at q; exact fun σ2 U2 H2 μ2 g2 r2 rs2 => q _ U2 H2 μ2 g2 r2 (rs2.gone i)
      | ct sl2 cs2 => rw [hsr] at q; exact fun σ2 U2 H2 μ2 g2 r2 rs2 => q _ U2 H2 μ2 g2 r2 (rs2.gone i)
      | rt v cs2 => rw [hsr] at q; exact q
      | exn c2 fs2 sl2 cs2 => rw [hsr] at q; exact q.elim
      | bad => rw [hsr] at q; exact q.elim
    · rename_i et
      exact ⟨false, hT c false et C hm, fun z => (nomatch z), fun _ => q C d σ1 U1 H1 μ1 g1 r1 rs1 hm hx⟩
    · exact q.elim
end

/-! ### the caught exception's fields, its classes -/
def fXf (tab : List Str) (c : Str) (fs : List (Str × Pv)) (i : Nat) (f : Str) : FE := fun sl cs => match sl[i]? with
  | some none => if tab.contains c = true then match fs.lookup f with
      | some v => .ok v cs
      | none => .bad
    else .bad
  | _ => .bad
def XfT (K : PySem.W.Frag) (mg : Str → Option Value) (f : Str) (tab : List Str) : Prop := ∀ c, tab.contains c = true → ∀ C, mg c = some (.ref C) → XfC K C ∧ PySem.W.findIn K (.ref C) f = some none
def fXis (tab : List (Str × Bool)) (c : Str) (i : Nat) : FE := fun sl cs => match sl[i]? with
  | some none => match tab.lookup c with
    | some b => .ok (.bl b) cs
    | none => .bad
  | _ => .bad

theorem repVs_lookup {K : PySem.W.Frag} {mg : Str → Option Value} {U : Hp} {μ : List Addr} {f : Str} : ∀ {fs : List (Str × Pv)} {ws : List (Str × V)} {p : Pv}, fs.map (·.1) = ws.map (·.1) → RepVs K mg U μ (fs.map (·.2)) (ws.map (·.2)) → fs.lookup f = some p → ∃ v, ws.lookup f = some v ∧ RepV K mg U μ p v
  | [], _, _, _, _, h => by cases h
  | _ :: _, [], _, h, _, _ => by cases h
  | (g, q) :: fs, (g', v) :: ws, p, h1, h2, h3 => by
    obtain ⟨e1, e2⟩ := List.cons.inj h1
    have e1 : g = g' := e1
    subst e1
    cases h2 with
    | cons r1 r2 =>
      by_cases hg : f = g
      · subst hg
        have h3 : (match f == f with | true => some q | false => fs.lookup f) = some p := h3
        rw [beq_self_eq_true] at h3
        cases h3
        exact ⟨v, by simp [List.lookup], r1⟩
      · have hb : (f == g) = false := by simpa using hg
        have h3 : (match f == g with | true => some q | false => fs.lookup f) = some p := h3
        rw [hb] at h3
        obtain ⟨v', h4, h5⟩ := repVs_lookup e2 r2 h3
        exact ⟨v', by simp [List.lookup, hb]; exact h4, h5⟩
section
variable {X : Cx} {a : Addr} {oe : Obj} {pn : List (Addr × Obj)} {C : Addr} {d : Option Addr} {c : Str} {fs : List (Str × Pv)} {i : Nat} {n f : Str} {p pos : Pos} {w : WX}
theorem b_xf {tab : List Str} (hT : XfT X.K X.mg f tab) (hz : Zc (.ref C) d oe) (hf : ∃ vs, oe.data = .fields vs) (hm : X.mg c = some (.ref C)) (hN : X.N[i]? = some n := by rfl) (hv : Vis X.env.scope n := by first | exact Or.inl rfl | exact Or.inr (Or.inl rfl) | exact Or.inr (Or.inr rfl))
    (hd : (n == ("__debug__" : Str)) = false := by decide) (hcd : (n == ("__classdict__" : Str)) = false := by decide) (hb : attributeBase (.Name n p) f X.env (eval (.Name n p) X.env) = eval (.Name n p) X.env := by rfl) :
    PE (X.suite a ((a, oe) :: pn)) (.Attribute (.Name n p) f pos) (rdE X.K X.mg ⟨w, some ⟨i, a, .ref C, fs, d⟩⟩ (fXf tab c fs i f)) := by
  refine ⟨fun pins s σ H Q I h => ?_⟩
  obtain ⟨sl, cs, μ, U, r0, rs, h⟩ := h
  unfold fXf at h
  split at h
  · rename_i hsl
    split at h
    · rename_i htab
      obtain ⟨hσ, hx⟩ := rs.exc _ rfl hsl
      split at h
      · rename_i v ev
        rcases hx with ⟨e1, e2⟩ | ⟨da, ws, e1, e2, e3, e4⟩
        · have e1 : fs = [] := e1
          subst e1; cases ev
        · obtain ⟨u, hu, ru⟩ := repVs_lookup e3 e4 ev
          obtain ⟨hxf, hno⟩ := hT c htab C hm
          refine (pe_xf (te := tVar i) hxf hno hz hf (pe_var hN hv hd hcd) hb).run pins s σ H Q I ⟨_, hσ, rfl, rfl, da, ws, u, e1, r0.vh _ _ e2, hu, ?_⟩
          exact out_val r0 ru h
      · exact h.elim
    · exact h.elim
  · exact h.elim
end
/-- what the class D must say, so that isinstance asks its instances rightly -/
structure ExcK (K : PySem.W.Frag) (D : Addr) : Prop where
  hc : (PySem.W.clsIn K D).isSome = true
  hg : PySem.W.findIn K (.ref D) "__getattribute__" = some (some (.builtin "BaseException.__getattribute__"))
  hk : PySem.W.findIn K (.ref D) "__getattr__" = some none
  hs : PySem.W.subIn K (.ref D) (.type "BaseException") = some true
  ha : PySem.W.findIn K (.ref D) "__class__" = some (some (.builtin "object.__class__"))
  hn : PySem.W.specialIn K (.builtin "object.__class__") "__get__" = some (some (.builtin "getset_descriptor.__get__"))
  ht : PySem.W.takesIn K (.builtin "object.__class__") = some true
  hm : PySem.W.mroIn K D (.type "object") = some true
def XisT (K : PySem.W.Frag) (mg : Str → Option Value) (cv : Value) (tab : List (Str × Bool)) : Prop := ∀ c b, tab.lookup c = some b → ∀ C, mg c = some (.ref C) → ExcK K C ∧ PySem.W.kitOne K (.ref C) cv = some b
def rIsX (K : PySem.W.Frag) (D a : Addr) (d : Option Addr) : List V → Hp → VK → Prop := fun xs H Q => ∃ (c : V) (cv : Value) (b : Bool), xs = [.ref a, c] ∧ (∀ u, RelV c u → u = cv) ∧ PySem.W.kitOne K (.ref D) cv = some b ∧ (d = none ∨ ∃ dd fs, d = some dd ∧ H dd = some (.xd fs)) ∧ Q (.bl b) H
theorem call_isX {X : Cx} {a D : Addr} {d : Option Addr} {oe : Obj} {pn : List (Addr × Obj)} (C : ExcK X.K D) (hz : Zc (.ref D) d oe) (hf : ∃ vs, oe.data = .fields vs) : CallR (X.suite a ((a, oe) :: pn)) (.builtin "isinstance") (rIsX X.K D a d) := by
  intro pins s σ H xs us Q I r h
  obtain ⟨c, cv, b, rfl, hcv, e, hd, q⟩ := h
  cases r with
  | cons rx rr =>
    cases rr with
    | cons rt rr =>
      cases rr
      cases rx
      have ec := hcv _ rt
      subst ec
      obtain ⟨hget, _⟩ := I.pin (a, oe) (List.mem_append.mpr (.inl List.mem_cons_self))
      obtain ⟨vs, hv⟩ := hf
      obtain ⟨od, J⟩ : ∃ od, PySem.W.InstAt s.heap a oe D od := by
        rcases hd with rfl | ⟨dd, fs, rfl, hdd⟩
        · exact ⟨none, hget, hz.1, by unfold PySem.W.notCls; rw [hv] <;> rfl, by rw [hz.2]; trivial⟩
        · have hx : ObjOk X.prog X.w H s.heap dd (.xd fs) := I.hok dd _ hdd
          obtain ⟨mA, hns, hr⟩ := hx
          obtain ⟨od, ho, hl⟩ := lookIn_ns hns
          exact ⟨some od, hget, hz.1, by unfold PySem.W.notCls; rw [hv] <;> rfl, by rw [hz.2]; exact ho⟩
      exact PySem.W.kia_one (PySem.W.kitx_exc (od := od) C.hc C.hg C.hk C.hs C.ha C.hn C.ht C.hm) I.kIn J e (fun z => nomatch z) fun tk => ⟨.bl b, H, I.kept (t' := tk) fun _ _ z => z, rfl, q⟩
section
variable {X : Cx} {a : Addr} {oe : Obj} {pn : List (Addr × Obj)} {C : Addr} {d : Option Addr} {c : Str} {fs : List (Str × Pv)} {i : Nat} {n : Str} {p p2 pos : Pos} {w : WX} {te : Expr}
theorem b_xis {tab : List (Str × Bool)} {tv : V} {cv : Value} (hT : XisT X.K X.mg cv tab) (hz : Zc (.ref C) d oe) (hf : ∃ vs, oe.data = .fields vs) (hm : X.mg c = some (.ref C)) (hcv : ∀ u, RelV tv u → u = cv) (ht : PE (X.suite a ((a, oe) :: pn)) te (tC tv)) (hmi : X.mg "isinstance" = none)
    (hN : X.N[i]? = some n := by rfl) (hv : Vis X.env.scope n := by first | exact Or.inl rfl | exact Or.inr (Or.inl rfl) | exact Or.inr (Or.inr rfl))
    (hd : (n == ("__debug__" : Str)) = false := by decide) (hcd : (n == ("__classdict__" : Str)) = false := by decide) (hg : Gl X "isinstance" := by rfl) 
    (he : starEach [.Name n p, te] X.env = (false, eval (.Name n p) X.env) :: starEach [te] X.env := by rfl) (he2 : starEach [te] X.env = (false, eval te X.env) :: starEach [] X.env := by rfl) (hpl : (backTo pos (starEach [te] X.env)).any (·.1) = false := by rfl) :
    PE (X.suite a ((a, oe) :: pn)) (.Call (.Name "isinstance" p2) [.Name n p, te] [] pos) (rdE X.K X.mg ⟨w, some ⟨i, a, .ref C, fs, d⟩⟩ (fXis tab c i)) := by
  refine ⟨fun pins s σ H Q I h => ?_⟩
  obtain ⟨sl, cs, μ, U, r0, rs, h⟩ := h
  unfold fXis at h
  split at h
  · rename_i hsl
    split at h
    · rename_i b htab
      obtain ⟨hσ, hx⟩ := rs.exc _ rfl hsl
      obtain ⟨hxf, hno⟩ := hT c b htab C hm
      refine (pe_callB (X := X.suite a ((a, oe) :: pn)) (call_isX hxf hz hf) hg hmi (by decide +kernel) (pa_cons (pe_var (i := i) hN hv hd hcd) (pa_cons ht pa_nil he2) he) (by decide) (by decide) he hpl).run pins s σ H Q I ?_
      refine ⟨_, hσ, tv, cv, b, rfl, hcv, hno, ?_, out_val r0 (.bl _) h⟩
      rcases hx with ⟨e1, e2⟩ | ⟨da, ws, e1, e2, e3, e4⟩
      · exact .inl e2
      · exact .inr ⟨da, ws, e1, r0.vh _ _ e2⟩
    · exact h.elim
  · exact h.elim
end
end AL

set_option Elab.async false
set_option linter.all false
set_option autoImplicit false
set_option maxRecDepth 100000
set_option maxHeartbeats 4000000
/-! Own layer, part 10: texts, in, or by truth, enumerate, written constants. -/
namespace AL
open PySem PySem.Spec PyProof.Rows L2

/-- the text of these signs -/
def S (l : List Nat) : Str := ⟨l.toArray⟩
@[simp] theorem tl_S (l : List Nat) : TL.tl (S l) = l := rfl
theorem S_tl (x : Str) : S (TL.tl x) = x := TL.ext_tl rfl
theorem S_inj {a b : List Nat} (h : S a = S b) : a = b := by
  have := congrArg TL.tl h
  exact this
@[simp] theorem S_length (l : List Nat) : (S l).length = l.length := by rw [TL.len_tl]; rfl
theorem S_append (a b : List Nat) : S a ++ S b = S (a ++ b) := TL.ext_tl (TL.tl_append _ _)
theorem S_beq (a b : List Nat) : (S a == S b) = (a == b) := by
  by_cases h : a = b
  · subst h; simp
  · have : S a ≠ S b := fun e => h (S_inj e)
    rw [beq_eq_false_iff_ne.mpr this, beq_eq_false_iff_ne.mpr h]

/-! ### in -/
def flatP : Pv → Bool
  | .non | .bl _ | .int _ | .str _ => true
  | _ => false
def eqP : Pv → Pv → Bool
  | .non, .non => true
  | .bl a, .bl b => a == b
  | .bl a, .int b => (if a then 1 else 0) == b
  | .int a, .bl b => a == (if b then 1 else 0)
  | .int a, .int b => a == b
  | .str a, .str b => a == b
  | _, _ => false
def oInG (neg : Bool) : F2 := fun x y cs => match x, y with
  | .str i, .str j => match TL.tl i with
    | [c] => .ok (.bl (if neg then !decide (c ∈ TL.tl j) else decide (c ∈ TL.tl j))) cs
    | _ => .bad
  | x, y => match seqOf cs y with
    | some ys => guard_ (flatP x && ys.all flatP) (.ok (.bl (if neg then !ys.any (fun y => eqP y x) else ys.any fun y => eqP y x)) cs)
    | none => .bad
abbrev oIn : F2 := oInG false
abbrev oNotIn : F2 := oInG true
section
variable {K : PySem.W.Frag} {mg : Str → Option Value} {U : Hp} {μ : List Addr}
theorem flat_rep {p : Pv} {v : V} (h : RepV K mg U μ p v) (f : flatP p = true) : flatV v = true := by
  cases h <;> first | rfl | cases f
theorem flat_reps : ∀ {ps : List Pv} {vs : List V}, RepVs K mg U μ ps vs → ps.all flatP = true → vs.all flatV = true
  | _, _, .nil, _ => rfl
  | _, _, .cons h r, f => by
    rw [List.all_cons, Bool.and_eq_true] at f ⊢
    exact ⟨flat_rep h f.1, flat_reps r f.2⟩
theorem eq_rep {p q : Pv} {v w : V} (h : RepV K mg U μ p v) (g : RepV K mg U μ q w) (f : flatP p = true) (f2 : flatP q = true) : eqV v w = eqP p q := by
  cases h with
  | non => cases g <;> first | rfl | cases f2
  | bl b => cases g <;> first | rfl | cases f2
  | int i => cases g <;> first | rfl | cases f2
  | str x => cases g <;> first | rfl | cases f2
  | _ => cases f
theorem any_rep {q : Pv} {w : V} (g : RepV K mg U μ q w) (f2 : flatP q = true) : ∀ {ps : List Pv} {vs : List V}, RepVs K mg U μ ps vs → ps.all flatP = true → inV w vs = ps.any fun y => eqP y q
  | _, _, .nil, _ => rfl
  | _, _, .cons h r, f => by
    rw [List.all_cons, Bool.and_eq_true] at f
    show (eqV _ w || inV w _) = (eqP _ q || _)
    rw [eq_rep h g f.1 f2, any_rep g f2 r f.2]
end
def rInSgn (neg : Bool) : R2 := fun x y H Q => ∃ (c : Nat) (z : Str), x = .str ⟨#[c]⟩ ∧ y = .str z ∧ Q (.bl (if neg then !decide (c ∈ z.cps.toList) else decide (c ∈ z.cps.toList))) H
theorem op_inA {X : Cx} : OpR X (compareOp .In) (fun x y H Q => rInSgn false x y H Q ∨ rIn X.K false x y H Q) := OpR.or op_in_sign op_in_seq
theorem op_notInA {X : Cx} : OpR X (compareOp .NotIn) (fun x y H Q => rInSgn true x y H Q ∨ rIn X.K true x y H Q) := OpR.or op_notIn_sign op_notIn_seq
theorem ok_in {K : PySem.W.Frag} {mg : Str → Option Value} {neg : Bool} : Ok2 K mg (oInG neg) (fun x y H Q => rInSgn neg x y H Q ∨ rIn K neg x y H Q) := by
  intro E x y cs v w U H μ Q r hx hy h
  unfold oInG at h
  split at h
  · cases hx; cases hy
    split at h
    · rename_i c hc
      refine .inl ⟨c, _, ?_, rfl, out_val r (.bl _) h⟩
      refine congrArg V.str (TL.ext_tl ?_)
      exact hc
    · exact h.elim
  · split at h
    · rename_i ys ey
      obtain ⟨hf, h⟩ := out_guard h
      obtain ⟨f1, f2⟩ := Bool.and_eq_true_iff.mp hf
      obtain ⟨a, ws, rfl, s, q⟩ := seqOf_ok r hy ey
      refine .inr ⟨a, ws, rfl, s, flat_rep hx f1, flat_reps q f2, ?_⟩
      rw [any_rep hx f1 q f2]
      exact out_val r (.bl _) h
    · exact h.elim

/-! ### text * int -/
def repS (x : List Nat) (n : Nat) : List Nat := (List.replicate n x).flatten
theorem fold_rep (x : Array Nat) : ∀ (n : Nat) (acc : Array Nat), (List.replicate n x).foldl (· ++ ·) acc = (acc.toList ++ repS x.toList n).toArray
  | 0, acc => by simp [repS]
  | n + 1, acc => by
    rw [List.replicate_succ, List.foldl_cons, fold_rep x n]
    simp [repS, List.replicate_succ, List.append_assoc]
def oMulS : F2 := fun x y cs => match x, y with
  | .str a, .int n => guard_ (decide (-1000000 ≤ n) && decide (n ≤ 1000000) && fits (a.length * n.toNat)) (.ok (.str (S (repS (TL.tl a) n.toNat))) cs)
  | _, _ => .bad
def rMulS : R2 := fun x y H Q => ∃ (a : Str) (n : Int), x = .str a ∧ y = .int n ∧ -1000000 ≤ n ∧ n ≤ 1000000 ∧ a.length * n.toNat ≤ 16777216 ∧ Q (.str (S (repS (TL.tl a) n.toNat))) H
theorem op_mulS {X : Cx} : OpR X (binaryOp .Mult) rMulS := by
  intro pins s σ H x y v u Q I rx ry h
  obtain ⟨a, n, rfl, rfl, h1, h2, h3, q⟩ := h
  obtain ⟨t, rfl⟩ := rx
  obtain ⟨t', rfl⟩ := ry
  have hr : (decide (n < -(2 ^ 63 : Int)) || decide (n ≥ 2 ^ 63)) = false := by
    rw [decide_eq_false (by omega), decide_eq_false (by omega)]; rfl
  have hl : Builtin.Str.tooLong (a.length * n.toNat) = false := by
    unfold Builtin.Str.tooLong
    rw [sizeLine_eq]
    exact decide_eq_false (by omega)
  have hb : ∀ _ : ¬ n < 1, ¬ ((a.length : Int) > (2 ^ 63 - 1) / n) := fun hn z => by
    have hn : 1 ≤ n := by omega
    have h4 : (a.length : Int) * n ≤ 16777216 := by
      have : ((a.length * n.toNat : Nat) : Int) ≤ ((16777216 : Nat) : Int) := Int.ofNat_le.mpr h3
      rw [Int.natCast_mul, Int.toNat_of_nonneg (by omega)] at this
      exact this
    have h5 : (2 ^ 63 - 1 : Int) < (a.length : Int) * n := Int.lt_mul_of_ediv_lt (by omega) z
    omega
  have key : ∀ tk k, EP X pins σ Q (.str (S (repS (TL.tl a) n.toNat)) tk) { s with toks := k } := fun tk k => ⟨.str _, H, I.tok k, ⟨_, rfl⟩, q⟩
  refine PySem.P.mul_str hr (fun hn _ => hb hn) (fun _ _ => hl) ?_
  split
  · rename_i hn
    have e : S (repS (TL.tl a) n.toNat) = Str.empty := by
      rw [show n.toNat = 0 by omega]; rfl
    refine ⟨by decide, ?_⟩
    have := key s.toks (s.toks + 1)
    rw [e] at this
    exact this
  · split
    · rename_i hn h1'
      have e : S (repS (TL.tl a) n.toNat) = a := by
        rcases Bool.or_eq_true_iff.mp h1' with z | z
        · have z : n = 1 := by simpa using z
          subst z
          rw [show (1 : Int).toNat = 1 from rfl]
          simp only [repS, List.replicate_one, List.flatten_cons, List.flatten_nil, List.append_nil]
          exact S_tl a
        · have z : a.length = 0 := by simpa using z
          have : TL.tl a = [] := List.length_eq_zero_iff.mp (by rw [← TL.len_tl]; exact z)
          rw [this]
          refine TL.ext_tl ?_
          rw [this]
          simp [repS]
      have := key t s.toks
      rw [e] at this
      exact this
    · have e : (⟨(List.replicate n.toNat a.cps).foldl (· ++ ·) #[]⟩ : Str) = S (repS (TL.tl a) n.toNat) := by
        rw [fold_rep]
        rfl
      rw [e]
      refine ⟨?_, key s.toks (s.toks + 1)⟩
      first
        | (show (S _).length ≤ sizeLine
           rw [S_length, sizeLine_eq]
           simp only [repS, List.length_flatten, List.map_replicate, List.sum_replicate_nat]
           rw [← TL.len_tl, Nat.mul_comm]
           exact h3)
        | (show Builtin.Str.tooLong (S _).length = false
           unfold Builtin.Str.tooLong
           rw [S_length, sizeLine_eq]
           simp only [repS, List.length_flatten, List.map_replicate, List.sum_replicate_nat]
           rw [← TL.len_tl, Nat.mul_comm]
           exact decide_eq_false (by omega))
theorem ok_mulS {K : PySem.W.Frag} {mg : Str → Option Value} : Ok2 K mg oMulS rMulS := by
  intro E x y cs v w U H μ Q r hx hy h
  unfold oMulS at h
  split at h
  · cases hx; cases hy
    obtain ⟨hz, h⟩ := out_guard h
    obtain ⟨h1, h3⟩ := Bool.and_eq_true_iff.mp hz
    obtain ⟨h1, h2⟩ := Bool.and_eq_true_iff.mp h1
    exact ⟨_, _, rfl, rfl, of_decide_eq_true h1, of_decide_eq_true h2, of_decide_eq_true h3, out_val r (.str _) h⟩
  · exact h.elim

/-! ### methods of texts -/
def strsOf : List Pv → Option (List Str)
  | [] => some []
  | .str x :: r => (strsOf r).map (x :: ·)
  | _ => none
theorem strsOf_map : ∀ (ns : List Str), strsOf (ns.map Pv.str) = some ns
  | [] => rfl
  | n :: ns => by
    show (strsOf (ns.map Pv.str)).map (n :: ·) = _
    rw [strsOf_map ns]; rfl
theorem strsOf_eq : ∀ {ps : List Pv} {ns : List Str}, strsOf ps = some ns → ps = ns.map Pv.str
  | [], ns, h => by cases h; rfl
  | .str i :: r, ns, h => by
    obtain ⟨ms, h1, h2⟩ := Option.map_eq_some_iff.mp h
    subst h2
    rw [strsOf_eq h1]; rfl
  | .non :: _, _, h => by cases h
  | .bl _ :: _, _, h => by cases h
  | .int _ :: _, _, h => by cases h
  | .tup _ :: _, _, h => by cases h
  | .lst _ :: _, _, h => by cases h
  | .ref _ :: _, _, h => by cases h
  | .obj _ _ :: _, _, h => by cases h
  | .glo _ :: _, _, h => by cases h
  | .ty _ :: _, _, h => by cases h
theorem reps_strs {K : PySem.W.Frag} {mg : Str → Option Value} {U : Hp} {μ : List Addr} : ∀ {ns : List Str} {vs : List V}, RepVs K mg U μ (ns.map Pv.str) vs → vs = ns.map V.str
  | [], _, .nil => rfl
  | n :: ns, _, .cons (.str _) r => by rw [List.map_cons, reps_strs r]
theorem strs_reps {K : PySem.W.Frag} {mg : Str → Option Value} {U : Hp} {μ : List Addr} : ∀ (ns : List Str), RepVs K mg U μ (ns.map Pv.str) (ns.map V.str)
  | [] => .nil
  | n :: ns => .cons (.str n) (strs_reps ns)
def mJoin : FM := fun o vs cs => match o, vs with
  | .str a, [x] => match seqOf cs x with
    | some xs => match strsOf xs with
      | some ys => guard_ (decide ((ys.map (·.length)).sum + ys.length * a.length ≤ 16777216)) (.ok (.str (S (TL.joinL (TL.tl a) (ys.map TL.tl)))) cs)
      | none => .bad
    | none => .bad
  | _, _ => .bad
theorem join_S (a : Str) (ys : List Str) : Txt.join a ys = S (TL.joinL (TL.tl a) (ys.map TL.tl)) := by
  rw [TL.join_eq]
  exact TL.ext_tl (TL.tl_join a ys)
theorem ok_join {K : PySem.W.Frag} {mg : Str → Option Value} : OkM K mg mJoin (fun x xs H Q => ∃ a p, ∃ ys : List Str, x = .str a ∧ xs = [.ref p] ∧ (SqL K H p (ys.map V.str) ∨ SqT K H p (ys.map V.str)) ∧
    (ys.map (·.length)).sum + ys.length * a.length ≤ 16777216 ∧ Q (.str (Txt.join a ys)) H) := by
  intro E p ps cs v vs U H μ Q r hp hps h
  unfold mJoin at h
  split at h
  · split at h
    · rename_i xs ex
      split at h
      · rename_i ys ey
        obtain ⟨hz, h⟩ := out_guard h
        cases hp
        cases hps with
        | cons h1 h2 =>
          cases h2
          obtain ⟨a, ws, rfl, s, q⟩ := seqOf_ok r h1 ex
          rw [strsOf_eq ey] at q
          rw [reps_strs q] at s
          refine ⟨_, a, ys, rfl, rfl, s, of_decide_eq_true hz, ?_⟩
          rw [join_S]
          exact out_val r (.str _) h
      · exact h.elim
    · exact h.elim
  · exact h.elim
def mSplit : FM := fun o vs cs => match o, vs with
  | .str a, [.str b] => guard_ (!(TL.tl b).isEmpty && fits (a.length + 2) && b.cps.all (· < 256)) (.ok (.lst ((TL.spl (TL.tl b) 0 [] (TL.tl a)).map fun l => .str (S l))) cs)
  | _, _ => .bad
theorem ok_split {K : PySem.W.Frag} {mg : Str → Option Value} : OkM K mg mSplit (fun x xs H Q => ∃ a b, x = .str a ∧ xs = [.str b] ∧ (b.length == 0) = false ∧ a.length + 2 ≤ sizeLine ∧ rNewStrs (Txt.split a b) H Q) := by
  intro E p ps cs v vs U H μ Q r hp hps h
  unfold mSplit at h
  split at h
  · rename_i a b
    obtain ⟨hz, h⟩ := out_guard h
    obtain ⟨h1, h3⟩ := Bool.and_eq_true_iff.mp hz
    obtain ⟨h1, h2⟩ := Bool.and_eq_true_iff.mp h1
    cases hp
    cases hps with
    | cons q1 q2 =>
      cases q2; cases q1
      have hb : TL.tl b ≠ [] := by
        intro z; rw [z] at h1; cases h1
      refine ⟨a, b, rfl, rfl, ?_, fits.ok h2, ?_⟩
      · refine beq_eq_false_iff_ne.mpr fun z => hb (List.length_eq_zero_iff.mp ?_)
        rw [← TL.len_tl]; exact z
      · have e : Txt.split a b = (TL.spl (TL.tl b) 0 [] (TL.tl a)).map S := by
          refine TL.map_tl_inj ?_
          rw [TL.split_spl a b hb (TL.kind_ok h3), List.map_map]
          exact (List.map_id _).symm
        rw [e]
        have e2 : ((TL.spl (TL.tl b) 0 [] (TL.tl a)).map fun l => Pv.str (S l)) = ((TL.spl (TL.tl b) 0 [] (TL.tl a)).map S).map Pv.str := by rw [List.map_map]; rfl
        rw [e2] at h
        exact out_lst r (strs_reps _) h
  · exact h.elim
def mStarts : FM := fun o vs cs => match o, vs with
  | .str a, [.str b] => .ok (.bl (TL.pre (TL.tl b) (TL.tl a))) cs
  | _, _ => .bad
theorem starts_pre (a b : Str) : Txt.startswith a b = TL.pre (TL.tl b) (TL.tl a) := by
  by_cases hb : TL.tl b = []
  · have h1 : TL.pre (TL.tl b) (TL.tl a) = true := by rw [hb]; rfl
    rw [h1]
    have hl : b.length = 0 := by rw [TL.len_tl, hb]; rfl
    have e : b = S [] := by rw [← S_tl b, hb]
    subst e
    unfold Txt.startswith Builtin.Str.subAt
    simp
    rfl
  · have h := TL.at_iff (x := a) (y := b) hb 0
    rw [List.drop_zero] at h
    cases hp : TL.pre (TL.tl b) (TL.tl a) with
    | true =>
      obtain ⟨h1, h2⟩ := h.mpr hp
      unfold Txt.startswith
      rw [Bool.and_eq_true]
      exact ⟨decide_eq_true h1, h2⟩
    | false =>
      cases hs : Txt.startswith a b with
      | false => rfl
      | true =>
        unfold Txt.startswith at hs
        rw [Bool.and_eq_true] at hs
        have := h.mp ⟨of_decide_eq_true hs.1, hs.2⟩
        rw [hp] at this; cases this
theorem ok_starts {K : PySem.W.Frag} {mg : Str → Option Value} : OkM K mg mStarts (fun x xs H Q => ∃ a b, x = .str a ∧ xs = [.str b] ∧ Q (.bl (Txt.startswith a b)) H) := by
  intro E p ps cs v vs U H μ Q r hp hps h
  unfold mStarts at h
  split at h
  · cases hp
    cases hps with
    | cons q1 q2 =>
      cases q2; cases q1
      refine ⟨_, _, rfl, rfl, ?_⟩
      rw [starts_pre]
      exact out_val r (.bl _) h
  · exact h.elim

/-! ### str(int), int(text), all -/
def intL : Int → List Nat
  | .ofNat n => TL.numL n
  | .negSucc n => 45 :: TL.numL (n + 1)
theorem intL_S (i : Int) : (toString i : Str) = S (intL i) := by
  cases i with
  | ofNat n => exact TL.ext_tl (TL.tl_num n)
  | negSucc n =>
    refine TL.ext_tl ?_
    have e : toString (Int.negSucc n) = "-" ++ toString (n + 1) := rfl
    show TL.tl (Str.ofString (toString (Int.negSucc n))) = 45 :: TL.numL (n + 1)
    rw [TL.tl_ofString, e, String.toList_append, List.map_append]
    have e2 := TL.tl_num (n + 1)
    rw [TL.tl_ofString] at e2
    have e3 : toString (((n + 1 : Nat) : Int)) = toString (n + 1) := rfl
    rw [e3] at e2
    rw [e2]
    rfl
def mStr : FN := fun vs cs => match vs with
  | [.int i] => guard_ (decide (i.natAbs.log2 < 1920)) (.ok (.str (S (intL i))) cs)
  | [.str a] => .ok (.str a) cs
  | _ => .bad
theorem call_strA {X : Cx} : CallR X (.type "str") (fun xs H Q => (∃ i, xs = [.int i] ∧ i.natAbs.log2 < 1920 ∧ Q (.str (toString i)) H) ∨ ∃ a, xs = [.str a] ∧ Q (.str a) H) := CallR.or call_str_int SkE.call_str_str
theorem ok_str {K : PySem.W.Frag} {mg : Str → Option Value} : OkC K mg mStr (fun xs H Q => (∃ i, xs = [.int i] ∧ i.natAbs.log2 < 1920 ∧ Q (.str (toString i)) H) ∨ ∃ a, xs = [.str a] ∧ Q (.str a) H) := by
  intro E ps cs vs U H μ Q r hx h
  unfold mStr at h
  split at h
  · obtain ⟨hz, h⟩ := out_guard h
    cases hx with
    | cons h1 h2 =>
      cases h2; cases h1
      refine .inl ⟨_, rfl, of_decide_eq_true hz, ?_⟩
      rw [intL_S]
      exact out_val r (.str _) h
  · cases hx with
    | cons h1 h2 =>
      cases h2; cases h1
      exact .inr ⟨_, rfl, out_val r (.str _) h⟩
  · exact h.elim
def mIntA : FN := fun vs cs => match vs with
  | [.str a] => match PySem.intText? a with
    | some n => guard_ (decide (a.length ≤ 640)) (.ok (.int n) cs)
    | none => .bad
  | vs => mInt vs cs
theorem call_intA {X : Cx} : CallR X (.type "int") (fun xs H Q => (∃ a n, xs = [.str a] ∧ PySem.intText? a = some n ∧ a.length ≤ 640 ∧ Q (.int n) H) ∨ ((∃ i, xs = [.int i] ∧ Q (.int i) H) ∨ ∃ k, xs = [.bl k] ∧ Q (.int (if k then 1 else 0)) H)) := CallR.or call_int_str call_int1
theorem ok_intA {K : PySem.W.Frag} {mg : Str → Option Value} : OkC K mg mIntA (fun xs H Q => (∃ a n, xs = [.str a] ∧ PySem.intText? a = some n ∧ a.length ≤ 640 ∧ Q (.int n) H) ∨ ((∃ i, xs = [.int i] ∧ Q (.int i) H) ∨ ∃ k, xs = [.bl k] ∧ Q (.int (if k then 1 else 0)) H)) := by
  intro E ps cs vs U H μ Q r hx h
  unfold mIntA at h
  split at h
  · split at h
    · rename_i n hn
      obtain ⟨hz, h⟩ := out_guard h
      cases hx with
      | cons h1 h2 =>
        cases h2; cases h1
        exact .inl ⟨_, n, rfl, hn, of_decide_eq_true hz, out_val r (.int _) h⟩
    · exact h.elim
  · exact .inr (ok_int E _ cs _ U H μ Q r hx h)
def boolsOf : List Pv → Option (List Bool)
  | [] => some []
  | .bl x :: r => (boolsOf r).map (x :: ·)
  | _ => none
theorem boolsOf_map : ∀ (ns : List Bool), boolsOf (ns.map Pv.bl) = some ns
  | [] => rfl
  | n :: ns => by
    show (boolsOf (ns.map Pv.bl)).map (n :: ·) = _
    rw [boolsOf_map ns]; rfl
theorem boolsOf_eq : ∀ {ps : List Pv} {ns : List Bool}, boolsOf ps = some ns → ps = ns.map Pv.bl
  | [], ns, h => by cases h; rfl
  | .bl i :: r, ns, h => by
    obtain ⟨ms, h1, h2⟩ := Option.map_eq_some_iff.mp h
    subst h2
    rw [boolsOf_eq h1]; rfl
  | .non :: _, _, h => by cases h
  | .str _ :: _, _, h => by cases h
  | .int _ :: _, _, h => by cases h
  | .tup _ :: _, _, h => by cases h
  | .lst _ :: _, _, h => by cases h
  | .ref _ :: _, _, h => by cases h
  | .obj _ _ :: _, _, h => by cases h
  | .glo _ :: _, _, h => by cases h
  | .ty _ :: _, _, h => by cases h
theorem reps_bools {K : PySem.W.Frag} {mg : Str → Option Value} {U : Hp} {μ : List Addr} : ∀ {ns : List Bool} {vs : List V}, RepVs K mg U μ (ns.map Pv.bl) vs → vs = ns.map V.bl
  | [], _, .nil => rfl
  | n :: ns, _, .cons (.bl _) r => by rw [List.map_cons, reps_bools r]
def mAll : FN := fun vs cs => match vs with
  | [x] => match asL cs x with
    | some xs => match boolsOf xs with
      | some bs => .ok (.bl (bs.all id)) cs
      | none => .bad
    | none => .bad
  | _ => .bad
theorem ok_all {K : PySem.W.Frag} {mg : Str → Option Value} : OkC K mg mAll (rAll K) := by
  intro E ps cs vs U H μ Q r hx h
  unfold mAll at h
  split at h
  · cases hx with
    | cons h1 h2 =>
      cases h2
      split at h
      · rename_i xs e
        split at h
        · rename_i bs eb
          obtain ⟨a, ws, rfl, s, q⟩ := asL_ok r h1 e
          rw [boolsOf_eq eb] at q
          rw [reps_bools q] at s
          exact ⟨a, bs, rfl, s, out_val r (.bl _) h⟩
        · exact h.elim
      · exact h.elim
  · exact h.elim

/-! ### x[::-1], or by truth, written constants -/
def fRev (f : FE) : FE := fun sl cs => (f sl cs).bind fun v cs1 => match asL cs1 v with
  | some xs => .ok (.lst xs.reverse) cs1
  | none => .bad
def fOrT (f g : FE) : FE := fun sl cs => (f sl cs).bind fun v cs1 => (tru v cs1).bind fun b cs2 => if b = true then .ok v cs2 else g sl cs2
section
variable {X : Cx} {W : WE} {f g : FE} {a b e : Expr} {rest : List Expr} {pos p1 p2 p3 : Pos} {k : Nat}
theorem b_rev (he : PE X e (rdE X.K X.mg W f)) : PE X (.Subscript e (.Slice none none (some (.UnaryOp .USub (.Constant (.int 1) k p1) p2)) p3) pos) (rdE X.K X.mg W (fRev f)) := PE.le (pe_revL he) fun σ H Q q => by
  obtain ⟨sl, cs, μ, U, r0, rs, q⟩ := q
  refine ⟨sl, cs, μ, U, r0, rs, Out.seq q fun x cs1 w U1 H1 μ1 _ g1 r1 p1 h1 => ?_⟩
  split at h1
  · rename_i xs ex
    obtain ⟨a, ws, rfl, s, q2⟩ := asL_ok r1 p1 ex
    exact ⟨a, ws, rfl, s, out_lst r1 q2.reverse h1⟩
  · exact h1.elim
theorem tru_same {v : Pv} {cs cs2 : Cells} {b : Bool} (h : tru v cs = .ok b cs2) : cs2 = cs := by
  unfold tru at h
  split at h
  · cases h; rfl
  · cases h; rfl
  · cases h; rfl
  · unfold guard_ at h
    split at h
    · cases h; rfl
    · cases h
  · cases h; rfl
  · split at h
    · cases h; rfl
    · split at h
      · split at h
        · cases h; rfl
        · cases h
      · cases h
theorem b_orT (ha : PE X a (rdE X.K X.mg W f)) (hb : PE X (.BoolOp .Or (b :: rest) pos) (rdE X.K X.mg W g)) : PE X (.BoolOp .Or (a :: b :: rest) pos) (rdE X.K X.mg W (fOrT f g)) := by
  refine PE.le (pe_orT ha hb) fun σ H Q q => ?_
  obtain ⟨sl, cs, μ, U, r0, rs, q⟩ := q
  refine ⟨sl, cs, μ, U, r0, rs, Out.seq q fun x cs1 w U1 H1 μ1 _ g1 r1 p1 h1 => ?_⟩
  refine tru_of (Q := fun k H => if k = true then Q w H else rdE X.K X.mg W g σ H Q) r1 p1 (Out.seq (R := fun _ _ a b => a = b) h1 fun bb cs2 b' U2 H2 μ2 et g2 r2 pb h2 => ?_)
  subst pb
  cases bb with
  | true =>
    rw [if_pos rfl] at h2 ⊢
    exact out_val r2 (p1.mono g2.vv g2.mm) h2
  | false =>
    rw [if_neg Bool.false_ne_true] at h2 ⊢
    exact ⟨sl, cs2, μ2, U2, r2, (rs.mono g1).mono g2, h2⟩
theorem b_glob {x : Str} {p : Pv} {v : V} {u : Value} (hm : X.mg x = some u) (hv : RelV v u) (hp : ∀ U μ, RepV X.K X.mg U μ p v) (hg : Gl X x := by rfl) (hd : (x == ("__debug__" : Str)) = false := by decide) : PE X (.Name x pos) (rdE X.K X.mg W (fCon p)) :=
  PE.le (pe_glob hg hm hv hd) fun σ H Q h => rd_con hp σ H Q h
theorem b_globI {x : Str} {i : Int} {u : Value} (hm : X.mg x = some u) (hv : RelV (.int i) u) (hg : Gl X x := by rfl) (hd : (x == ("__debug__" : Str)) = false := by decide) : PE X (.Name x pos) (rdE X.K X.mg W (fCon (.int i))) := b_glob hm hv (fun _ _ => .int i) hg hd
theorem b_globS {x z : Str} {u : Value} (hm : X.mg x = some u) (hv : RelV (.str z) u) (hg : Gl X x := by rfl) (hd : (x == ("__debug__" : Str)) = false := by decide) : PE X (.Name x pos) (rdE X.K X.mg W (fCon (.str z))) := b_glob hm hv (fun _ _ => .str z) hg hd
end

/-! ### what is walked: texts, enumerate -/
def srcOf2 (cs : Cells) : Pv → Option Src
  | .str x => some (.fz ((TL.tl x).map fun c => .str (S [c])))
  | v => srcOf cs v
def iSeq2 (f : FE) : FI := fun sl cs => (f sl cs).bind fun v cs1 => match v with
  | .str x => .ok (.fz ((TL.tl x).map fun c => .str (S [c]))) cs1
  | _ => .bad
theorem it_str {K : PySem.W.Frag} {mg : Str → Option Value} {U0 : Hp} {μ0 : List Addr} {x : Str} : ItOk K mg (Src.fz ((TL.tl x).map fun c => .str (S [c]))).it (Its x) U0 μ0 := by
  intro U H μ cs i e m r
  show match (if i ≤ ((TL.tl x).map fun c => Pv.str (S [c])).length then some ((TL.tl x).map fun c => Pv.str (S [c]))[i]? else none) with | some (some p) => _ | some none => _ | none => _
  by_cases hle : i ≤ ((TL.tl x).map fun c => Pv.str (S [c])).length
  case neg => rw [if_neg hle]; trivial
  rw [if_pos hle]
  have hs : x.cps.size = (TL.tl x).length := by simp [TL.tl]
  by_cases hi : i < (TL.tl x).length
  · rw [List.getElem?_map, List.getElem?_eq_getElem hi]
    refine ⟨by show i < x.cps.size; omega, fun v H' y => ?_⟩
    obtain ⟨rfl, c, hc, rfl⟩ := y
    have : (TL.tl x)[i] = c := by
      have h2 : (TL.tl x)[i]? = some c := by simpa [TL.tl] using hc
      rw [List.getElem?_eq_getElem hi] at h2
      exact Option.some.inj h2
    rw [this]
    exact ⟨U, Gr.refl, r, .str _⟩
  · rw [List.getElem?_eq_none (by rw [List.length_map]; omega)]
    show x.cps.size ≤ i
    omega
section
variable {X : Cx} {W : WE} {f : FE} {e tg : Expr} {p pos tpos : Pos} {elts : List Expr} {kk : Nat}
theorem i_str (he : PE X e (rdE X.K X.mg W f)) : PI X tg e (rdI X.K X.mg W (iSeq2 f)) := PI.le (pi_str he) fun σ H R q => by
  obtain ⟨sl, cs, μ, U, r0, rs, q⟩ := q
  refine ⟨sl, cs, μ, U, r0, rs, Out.seq q fun v cs1 w U1 H1 μ1 _ g1 r1 p1 h1 => ?_⟩
  split at h1
  · cases p1
    exact ⟨_, rfl, h1 _ _ _ _ Gr.refl r1 it_str⟩
  · exact h1.elim
/-- pairs of place and item -/
def enumL (n : Nat) (xs : List Pv) : List Pv := xs.mapIdx fun i x => .tup [.int ((n + i : Nat) : Int), x]
def enumIt (v : Pv) : Nat → Cells → Option (Option Pv) := fun i cs => match asL cs v with
  | some xs => (Src.fz (enumL 0 xs)).it i cs
  | none => none
def iEnum (f : FE) : FI := fun sl cs => (f sl cs).bind fun v cs1 => match asL cs1 v with
  | some xs => if isFz v = true then .ok (.fz (enumL 0 xs)) cs1 else .ok (.lv (enumIt v)) cs1
  | none => .bad
theorem it_enum {K : PySem.W.Frag} {mg : Str → Option Value} {U0 : Hp} {μ0 : List Addr} {x : Pv} {a : Addr}
    (h1 : ∀ U' H' μ' cs' ys, Ex U0 U' → μ0 <+: μ' → Rel0 K mg cs' μ' U' H' → asL cs' x = some ys → ∃ ws, SqL K H' a ws ∧ RepVs K mg U' μ' ys ws) : ItOk K mg (enumIt x) (Ite K a) U0 μ0 := by
  intro U H μ cs i e m r
  unfold enumIt
  cases ex : asL cs x with
  | none => trivial
  | some xs =>
    obtain ⟨vs, s1, q1⟩ := h1 U H μ cs xs e m r ex
    have hl : (enumL 0 xs).length = vs.length := by unfold enumL; rw [List.length_mapIdx, q1.length]
    show match (if i ≤ (enumL 0 xs).length then some (enumL 0 xs)[i]? else none) with | some (some p) => _ | some none => _ | none => _
    by_cases hle : i ≤ (enumL 0 xs).length
    case neg => rw [if_neg hle]; trivial
    rw [if_pos hle]
    cases hp : xs[i]? with
    | none =>
      have hn : (enumL 0 xs)[i]? = none := by unfold enumL; rw [List.getElem?_mapIdx, hp]; rfl
      rw [hn]
      exact ⟨vs, s1, by have := List.getElem?_eq_none_iff.mp hn; omega⟩
    | some y =>
      have hn : (enumL 0 xs)[i]? = some (.tup [.int ((0 + i : Nat) : Int), y]) := by unfold enumL; rw [List.getElem?_mapIdx, hp]; rfl
      rw [hn]
      obtain ⟨v, a1, a2⟩ := q1.at hp
      refine ⟨⟨vs, v, s1, a1⟩, fun z H' yl => ?_⟩
      obtain ⟨T, z1, rfl, hT, rfl, f1⟩ := yl
      have e1 : z1 = v := Option.some.inj ((f1 vs s1).symm.trans a1)
      subst e1
      obtain ⟨r1, g1⟩ := r.freeze (o := .tup [.int (i : Nat), z1]) hT
      refine ⟨_, g1, r1, .tup (.of upd_same) (.cons ?_ (.cons (a2.mono g1.vv g1.mm) .nil))⟩
      rw [Nat.zero_add]
      exact .int _
theorem asL_X {K : PySem.W.Frag} {mg : Str → Option Value} {U H : Hp} {μ : List Addr} {cs : Cells} {x : Pv} {v : V} {xs : List Pv} (r : Rel0 K mg cs μ U H) (h : RepV K mg U μ x v) (e : asL cs x = some xs) :
    ∃ a, v = .ref a ∧ ∀ U' H' μ' cs' ys, Ex U U' → μ <+: μ' → Rel0 K mg cs' μ' U' H' → asL cs' x = some ys → ∃ ws, SqL K H' a ws ∧ RepVs K mg U' μ' ys ws := by
  cases h with
  | lst s q => exact ⟨_, rfl, fun U' H' μ' cs' ys ex m r' e' => by cases e'; exact ⟨_, r'.vh.l (ex.l s), q.mono ex m⟩⟩
  | ref hm => exact ⟨_, rfl, fun U' H' μ' cs' ys ex m r' e' => by
      obtain ⟨a, ws, e1, s, q⟩ := asL_ok r' (.ref (pre_get m hm)) e'
      cases e1
      exact ⟨ws, s, q⟩⟩
  | _ => cases e
theorem asL_fz {cs cs' : Cells} {p : Pv} (h : isFz p = true) : asL cs p = asL cs' p := by
  cases p <;> first | rfl | cases h
theorem i_enum (hm : X.mg "enumerate" = none) (ha : PE X e (rdE X.K X.mg W f)) (hg : Gl X "enumerate" := by rfl) (hs : starEach [e] X.env = [(false, eval e X.env)] := by rfl) :
    PI X (.Tuple elts kk tpos) (.Call (.Name "enumerate" p) [e] [] pos) (rdI X.K X.mg W (iEnum f)) := PI.le (pi_enum hg hm (a_cons ha a_nil hs) hs) fun σ H R q => by
  obtain ⟨sl, cs, μ, U, r0, rs, q⟩ := q
  refine ⟨sl, cs, μ, U, r0, rs, ?_⟩
  unfold iEnum at q
  show Out _ _ _ _ _ _ _ ((f sl cs).bind fun v cs1 => (Res.ok [] cs1).bind fun vs cs2 => .ok (v :: vs) cs2) _
  cases hf : f sl cs with
  | bad => rw [hf] at q; exact q.elim
  | exn c fs cs1 => rw [hf] at q; exact q
  | ok v cs1 =>
    rw [hf] at q
    simp only [Res.bind_ok] at q ⊢
    intro w U1 H1 μ1 g1 r1 p1
    have q := Out.later g1 q
    cases p1 with
    | cons h1 h2 =>
      cases h2
      cases ex : asL cs1 v with
      | none => rw [ex] at q; exact q.elim
      | some xs =>
        rw [ex] at q
        obtain ⟨a, rfl, w1⟩ := asL_X r1 h1 ex
        obtain ⟨vs, s1, _⟩ := w1 _ _ _ _ _ (Ex.refl _) (List.prefix_refl _) r1 ex
        refine ⟨a, vs, rfl, s1, ?_⟩
        have hz := it_enum w1
        have q : Out X.K X.mg (fun U μ (s : Src) J => ItOk X.K X.mg s.it J U μ) (fun c d H => W.w c d σ H) U1 H1 μ1 (if isFz v = true then .ok (.fz (enumL 0 xs)) cs1 else .ok (.lv (enumIt v)) cs1) R := q
        split at q
        · rename_i hfz
          have e3 : enumIt v = (Src.fz (enumL 0 xs)).it := by
            funext i cs'
            unfold enumIt
            rw [asL_fz (cs := cs') (cs' := cs1) hfz, ex]
          rw [e3] at hz
          exact q _ _ _ _ Gr.refl r1 hz
        · exact q _ _ _ _ Gr.refl r1 hz
end
/-! ### ==, two texts at once -/
def eqA (neg : Bool) : F2 := fun x y cs => match x, y with
  | .str a, .str b => .ok (.bl (if neg then !(a == b) else (a == b))) cs
  | x, y => eqD neg x y cs
abbrev oEqA : F2 := eqA false
abbrev oNeA : F2 := eqA true
theorem op_eqA {X : Cx} (hu : X.A.units + 64 < cLine) : OpR X (compareOp .Eq) (fun x y H Q => rEq x y H Q ∨ rEqD X.K x y H Q) := OpR.or op_eq (op_eqD hu)
theorem op_neA {X : Cx} (hu : X.A.units + 64 < cLine) : OpR X (compareOp .NotEq) (fun x y H Q => rNe x y H Q ∨ rNeD X.K x y H Q) := OpR.or op_ne (op_neD hu)
theorem ok_eqA {K : PySem.W.Frag} {mg : Str → Option Value} : Ok2 K mg oEqA (fun x y H Q => rEq x y H Q ∨ rEqD K x y H Q) := by
  intro E x y cs v w U H μ Q r hx hy h
  unfold oEqA eqA at h
  split at h
  · cases hx; cases hy
    refine .inl ⟨rfl, ?_⟩
    rw [dec_str]
    exact out_val r (.bl _) h
  · exact .inr (ok_eqD E x y cs v w U H μ Q r hx hy h)
theorem ok_neA {K : PySem.W.Frag} {mg : Str → Option Value} : Ok2 K mg oNeA (fun x y H Q => rNe x y H Q ∨ rNeD K x y H Q) := by
  intro E x y cs v w U H μ Q r hx hy h
  unfold oNeA eqA at h
  split at h
  · cases hx; cases hy
    refine .inl ⟨rfl, ?_⟩
    rw [dec_str]
    exact out_val r (.bl _) h
  · exact .inr (ok_neD E x y cs v w U H μ Q r hx hy h)
end AL

set_option Elab.async false
set_option linter.all false
set_option autoImplicit false
set_option maxRecDepth 100000
set_option maxHeartbeats 4000000
/-! Own layer, part 11: what is known of defs and classes, bundled. -/
namespace AL
open PySem PySem.Spec PyProof.Rows L2

section
variable (P : Program) (w : World) (K : PySem.W.Frag) (mg : Str → Option Value) (base : Heap)
/-- the def called x keeps the plain function m -/
def FnB (x : Str) (k : Nat) (ps : List Str) (m : FN) : Prop := ∃ f fd, FnOk P w K mg base (L2.CX P w) k f fd ps (spOf K mg ps.length m) ∧ mg x = some (.ref f) ∧ PySem.W.keepIn K (.ref f) = true ∧ Binds K fd ps []
/-- the exception class x, its __init__ storing names -/
def XMk (x : Str) (ps names : List Str) : Prop := ∃ C fI fd, OexC K C ∧ PySem.W.findIn K (.ref C) "__init__" = some (some (.ref fI)) ∧ PySem.W.typeIn K (.ref fI) = some (.type "function") ∧
  FnOk P w K mg base (L2.CX P w) 1 fI fd ps (spXI C names) ∧ Binds K fd ps [] ∧ mg x = some (.ref C)
def XTry (x : Str) (tab : List (Str × Bool)) : Prop := ∃ cx, mg x = some cx ∧ ExmT K mg cx tab
def XIs (x : Str) (tab : List (Str × Bool)) : Prop := ∃ C, mg x = some (.ref C) ∧ XisT K mg (.ref C) tab
def XIsB (x : Str) (n : String) (tab : List (Str × Bool)) : Prop := mg x = none ∧ bootBuiltins x = some (.type n) ∧ XisT K mg (.type n) tab
end
section
variable {K : PySem.W.Frag} {mg : Str → Option Value}
theorem look_cons {α : Type} {c c0 : Str} {b b0 : α} {tab : List (Str × α)} (h : List.lookup c ((c0, b0) :: tab) = some b) : (c = c0 ∧ b = b0) ∨ tab.lookup c = some b := by
  have h : (match c == c0 with | true => some b0 | false => tab.lookup c) = some b := h
  cases e : c == c0 with
  | true => rw [e] at h; exact .inl ⟨by simpa using e, (Option.some.inj h).symm⟩
  | false => rw [e] at h; exact .inr h
theorem ExmT.nil {cx : Value} : ExmT K mg cx [] := fun c b h => by cases h
theorem ExmT.cons {cx : Value} {c0 : Str} {b0 : Bool} {C0 : Addr} {tab : List (Str × Bool)} (hg : mg c0 = some (.ref C0)) (hx : PySem.W.exmOne K (.ref C0) cx = some b0) (r : ExmT K mg cx tab) : ExmT K mg cx ((c0, b0) :: tab) := fun c b h C hm => by
  rcases look_cons h with ⟨rfl, rfl⟩ | h
  · rw [hg] at hm; cases hm; exact hx
  · exact r c b h C hm
theorem XisT.nil {cv : Value} : XisT K mg cv [] := fun c b h => by cases h
theorem XisT.cons {cv : Value} {c0 : Str} {b0 : Bool} {C0 : Addr} {tab : List (Str × Bool)} (hg : mg c0 = some (.ref C0)) (he : ExcK K C0) (hx : PySem.W.kitOne K (.ref C0) cv = some b0) (r : XisT K mg cv tab) : XisT K mg cv ((c0, b0) :: tab) := fun c b h C hm => by
  rcases look_cons h with ⟨rfl, rfl⟩ | h
  · rw [hg] at hm; cases hm; exact ⟨he, hx⟩
  · exact r c b h C hm
theorem XfT.nil {f : Str} : XfT K mg f [] := fun c h => by cases h
theorem XfT.cons {f c0 : Str} {C0 : Addr} {tab : List Str} (hg : mg c0 = some (.ref C0)) (he : XfC K C0) (hx : PySem.W.findIn K (.ref C0) f = some none) (r : XfT K mg f tab) : XfT K mg f (c0 :: tab) := fun c h C hm => by
  rw [List.contains_cons, Bool.or_eq_true] at h
  rcases h with h | h
  · have h : c = c0 := by simpa using h
    subst h
    rw [hg] at hm; cases hm; exact ⟨he, hx⟩
  · exact r c h C hm
/-- an exception of the class at C meets a clause of the class at D -/
theorem exm_of {C D : Addr} {b : Bool} (h1 : PySem.W.subIn K (.ref D) (.type "BaseException") = some true) (h2 : PySem.W.isClsIn K D = true) (h3 : PySem.W.typeIn K (.ref D) = some (.type "type")) (h4 : PySem.W.subIn K (.ref C) (.ref D) = some b) : PySem.W.exmOne K (.ref C) (.ref D) = some b := by
  unfold PySem.W.exmOne
  have h2' : (PySem.W.clsIn K D).isSome = true := h2
  simp only [h1, h2', h3, h4]
  simp
  unfold PySem.W.kitCls
  simp only [h2', h3, h4]
  simp
end
section
variable {X : Cx} {W : WE} {t : FA} {k : Nat} {ps : List Str} {m : FN} {x : Str} {p pos pos2 : Pos} {e : Expr} {es : List Expr} {names : List Str}
theorem b_fn (F : FnB X.prog X.w X.K X.mg X.base x k ps m) (hr : Room k X.A) (tk : Takes X W.w) (ha : PA X (e :: es) (rdA X.K X.mg W t)) (hl : LenA t ps.length) (hg : Gl X x := by rfl) (hdb : (x == ("__debug__" : Str)) = false := by decide)
    (he : starEach (e :: es) X.env = (false, eval e X.env) :: starEach es X.env := by rfl) (hpl : (backTo pos (starEach es X.env)).any (·.1) = false := by rfl) :
    PE X (.Call (.Name x p) (e :: es) [] pos) (rdE X.K X.mg W (fCall m t)) := by
  obtain ⟨f, fd, F, hm, hk, hb⟩ := F
  exact b_call F hr hm hk hb tk ha hl hg hdb he hpl
theorem s_raiseB (hc : X.calm = true) (R : XMk X.prog X.w X.K X.mg X.base x ps names) (hr : Room 2 X.A) (tk : Takes X W.w) (ha : PA X (e :: es) (rdA X.K X.mg W t)) (hn : names.length ≤ 100 := by decide) (hg : Gl X x := by rfl)
    (hdb : (x == ("__debug__" : Str)) = false := by decide) (he : starEach (e :: es) X.env = (false, eval e X.env) :: starEach es X.env := by rfl) (hpl : (backTo pos (starEach es X.env)).any (·.1) = false := by rfl) :
    PS X (.Raise (some (.Call (.Name x p) (e :: es) [] pos)) none pos2) (rdS X.K X.mg W (sRaise x names t)) := by
  obtain ⟨C, fI, fd, T, iC, tI, F1, hb, hm⟩ := R
  exact s_raise hc T iC tI F1 hr hb hm tk ha hn hg hdb he hpl
end
section
variable {X : Cx} {w : WX} {x n : Str} {i : Nat} {body suite : List Stmt} {b₀ : Stmt} {np pos pos' : Pos} {bf : FS} {su : Str → List (Str × Pv) → FS} {tab : List (Str × Bool)}
theorem s_tryB (hN : X.N.Nodup) (hT : XTry X.K X.mg x tab) (tk : Takes X w)
    (hb : ∀ (W : WX) (pn : List (Addr × Obj)) (xe : Value → Shared → Prop), Takes (X.tr pn xe) W → PassesOwn (model X.prog X.w) X.A X.env xe → PSs (X.tr pn xe) body (rdS X.K X.mg ⟨W, none⟩ bf))
    (hsu : ∀ (a : Addr) (oe : Obj) (C : Addr) (d : Option Addr) (pn : List (Addr × Obj)), Zc (.ref C) d oe → (∃ vs, oe.data = .fields vs) → ∀ c fs, X.mg c = some (.ref C) → PSs (X.suite a ((a, oe) :: pn)) (b₀ :: suite) (rdS X.K X.mg ⟨W0.w, some ⟨i, a, .ref C, fs, d⟩⟩ (su c fs)))
    (hg : Gl X x := by rfl) (hdb : (x == ("__debug__" : Str)) = false := by decide) (hi : X.N[i]? = some n := by rfl) (hln : X.env.kindOf n = some .local := by rfl) (hs : X.stack = X.env :: X.outer := by rfl) (hf : X.env.frame = some X.env.locals := by rfl) :
    PS X (.Try body [.ExceptHandler (some (.Name x np)) (some n) (b₀ :: suite) pos'] [] [] pos) (rdS X.K X.mg ⟨w, none⟩ (sTry tab i bf su)) := by
  obtain ⟨cx, hm, hT⟩ := hT
  exact s_try hN ⟨hg, hdb, .inl hm⟩ tk hT hb hsu hi hln hs hf
end
section
variable {X : Cx} {a : Addr} {oe : Obj} {pn : List (Addr × Obj)} {C : Addr} {d : Option Addr} {c : Str} {fs : List (Str × Pv)} {i : Nat} {n x : Str} {p p2 p3 pos : Pos} {w : WX}
theorem b_xisO {tab : List (Str × Bool)} (hT : XIs X.K X.mg x tab) (hz : Zc (.ref C) d oe) (hf : ∃ vs, oe.data = .fields vs) (hm : X.mg c = some (.ref C)) (hmi : X.mg "isinstance" = none) (hgx : Gl X x := by rfl) (hdx : (x == ("__debug__" : Str)) = false := by decide)
    (hN : X.N[i]? = some n := by rfl) (hv : Vis X.env.scope n := by first | exact Or.inl rfl | exact Or.inr (Or.inl rfl) | exact Or.inr (Or.inr rfl))
    (hd : (n == ("__debug__" : Str)) = false := by decide) (hcd : (n == ("__classdict__" : Str)) = false := by decide) (hg : Gl X "isinstance" := by rfl) 
    (he : starEach [.Name n p, .Name x p3] X.env = (false, eval (.Name n p) X.env) :: starEach [.Name x p3] X.env := by rfl) (he2 : starEach [.Name x p3] X.env = (false, eval (.Name x p3) X.env) :: starEach [] X.env := by rfl) (hpl : (backTo pos (starEach [.Name x p3] X.env)).any (·.1) = false := by rfl) :
    PE (X.suite a ((a, oe) :: pn)) (.Call (.Name "isinstance" p2) [.Name n p, .Name x p3] [] pos) (rdE X.K X.mg ⟨w, some ⟨i, a, .ref C, fs, d⟩⟩ (fXis tab c i)) := by
  obtain ⟨D, hD, hT⟩ := hT
  exact b_xis (tv := .ref D) hT hz hf hm (fun u h => h) (pe_glob (X := X.suite a ((a, oe) :: pn)) hgx hD rfl hdx) hmi hN hv hd hcd hg he he2 hpl
theorem b_xisB {tab : List (Str × Bool)} {nm : String} (hT : XIsB X.K X.mg x nm tab) (hz : Zc (.ref C) d oe) (hf : ∃ vs, oe.data = .fields vs) (hm : X.mg c = some (.ref C)) (hmi : X.mg "isinstance" = none) (hgx : Gl X x := by rfl) (hnx : x ≠ "__name__" := by decide) (hdx : (x == ("__debug__" : Str)) = false := by decide)
    (hN : X.N[i]? = some n := by rfl) (hv : Vis X.env.scope n := by first | exact Or.inl rfl | exact Or.inr (Or.inl rfl) | exact Or.inr (Or.inr rfl))
    (hd : (n == ("__debug__" : Str)) = false := by decide) (hcd : (n == ("__classdict__" : Str)) = false := by decide) (hg : Gl X "isinstance" := by rfl) 
    (he : starEach [.Name n p, .Name x p3] X.env = (false, eval (.Name n p) X.env) :: starEach [.Name x p3] X.env := by rfl) (he2 : starEach [.Name x p3] X.env = (false, eval (.Name x p3) X.env) :: starEach [] X.env := by rfl) (hpl : (backTo pos (starEach [.Name x p3] X.env)).any (·.1) = false := by rfl) :
    PE (X.suite a ((a, oe) :: pn)) (.Call (.Name "isinstance" p2) [.Name n p, .Name x p3] [] pos) (rdE X.K X.mg ⟨w, some ⟨i, a, .ref C, fs, d⟩⟩ (fXis tab c i)) := by
  obtain ⟨hx, hbo, hT⟩ := hT
  exact b_xis (tv := .ty nm) hT hz hf hm (fun u h => h) (pe_bltn (X := X.suite a ((a, oe) :: pn)) hgx hx hbo rfl hnx hdx) hmi hN hv hd hcd hg he he2 hpl
end

/-! ### a text, a list, a tuple is walked -/
def iAny (f : FE) : FI := fun sl cs => (f sl cs).bind fun v cs1 => match v with
  | .str x => .ok (.fz ((TL.tl x).map fun c => .str (S [c]))) cs1
  | v => match srcOf cs1 v with
    | some s => .ok s cs1
    | none => .bad
theorem i_any {X : Cx} {W : WE} {f : FE} {e tg : Expr} (he : PE X e (rdE X.K X.mg W f)) : PI X tg e (rdI X.K X.mg W (iAny f)) := PI.le (PI.or (i_seq he) (i_str he)) fun σ H R q => by
  obtain ⟨sl, cs, μ, U, r0, rs, q⟩ := q
  unfold iAny at q
  cases hf : f sl cs with
  | bad => rw [hf] at q; exact q.elim
  | exn c fs cs1 =>
    refine .inl ⟨sl, cs, μ, U, r0, rs, ?_⟩
    unfold iSeq
    rw [hf] at q ⊢
    exact q
  | ok v cs1 =>
    rw [hf] at q
    cases v with
    | str x =>
      refine .inr ⟨sl, cs, μ, U, r0, rs, ?_⟩
      unfold iSeq2
      rw [hf]
      exact q
    | _ =>
      refine .inl ⟨sl, cs, μ, U, r0, rs, ?_⟩
      unfold iSeq
      rw [hf]
      exact q
theorem b_strS {X : Cx} {W : WE} {x : Str} {l : List Nat} {j : Nat} {pos : Pos} (h : x = S l) : PE X (.Constant (.str x) j pos) (rdE X.K X.mg W (fCon (.str (S l)))) := by
  subst h
  exact b_str
theorem b_globT {X : Cx} {W : WE} {x : Str} {l : List Nat} {u : Value} {pos : Pos} (hm : X.mg x = some u) (hv : RelV (.str (S l)) u) (hg : Gl X x := by rfl) (hd : (x == ("__debug__" : Str)) = false := by decide) : PE X (.Name x pos) (rdE X.K X.mg W (fCon (.str (S l)))) := b_globS hm hv hg hd
end AL

set_option Elab.async false
set_option linter.all false
set_option autoImplicit false
set_option maxRecDepth 100000
set_option maxHeartbeats 4000000
/-! Own layer, part 12: equations of the readings of parts 9 to 11. -/
namespace AL
open PySem PySem.Spec PyProof.Rows L2
section
variable {sl : Sl} {cs : Cells} {f g o : FE} {t : FA} {a b : FS}
@[simp] theorem ap_orT : fOrT f g sl cs = (f sl cs).bind fun v cs1 => (tru v cs1).bind fun b cs2 => if b = true then .ok v cs2 else g sl cs2 := rfl
@[simp] theorem ap_rev : fRev f sl cs = (f sl cs).bind fun v cs1 => match asL cs1 v with | some xs => .ok (.lst xs.reverse) cs1 | none => .bad := rfl
@[simp] theorem ap_raise (c : Str) (names : List Str) : sRaise c names t sl cs = (t sl cs).go sl fun vs cs1 => if vs.length = names.length then .exn c (names.zip vs).reverse sl cs1 else .bad := rfl
@[simp] theorem ap_try (tab : List (Str × Bool)) (i : Nat) (su : Str → List (Str × Pv) → FS) : sTry tab i a su sl cs = match a sl cs with
  | .exn c fs sl1 cs1 => match tab.lookup c with
    | some true => goneS i (su c fs (sl1.set i none) cs1)
    | some false => .exn c fs sl1 cs1
    | none => .bad
  | r => r := rfl
@[simp] theorem ap_goneNx (i : Nat) : goneS i (.nx sl cs) = .nx (sl.set i none) cs := rfl
@[simp] theorem ap_goneRt (i : Nat) (v : Pv) : goneS i (.rt v cs) = .rt v cs := rfl
@[simp] theorem ap_goneBk (i : Nat) : goneS i (.bk sl cs) = .bk (sl.set i none) cs := rfl
@[simp] theorem ap_goneCt (i : Nat) : goneS i (.ct sl cs) = .ct (sl.set i none) cs := rfl
@[simp] theorem ap_iAny : iAny f sl cs = (f sl cs).bind fun v cs1 => match v with
  | .str x => .ok (.fz ((TL.tl x).map fun c => .str (S [c]))) cs1
  | v => match srcOf cs1 v with
    | some s => .ok s cs1
    | none => .bad := rfl
@[simp] theorem ap_iEnum : AL.iEnum f sl cs = (f sl cs).bind fun v cs1 => match asL cs1 v with
  | some xs => if isFz v = true then .ok (.fz (enumL 0 xs)) cs1 else .ok (.lv (enumIt v)) cs1
  | none => .bad := rfl
@[simp] theorem ap_xf (tab : List Str) (c : Str) (fs : List (Str × Pv)) (i : Nat) (n : Str) : fXf tab c fs i n sl cs = match sl[i]? with
  | some none => if tab.contains c = true then match fs.lookup n with
      | some v => .ok v cs
      | none => .bad
    else .bad
  | _ => .bad := rfl
@[simp] theorem ap_xis (tab : List (Str × Bool)) (c : Str) (i : Nat) : fXis tab c i sl cs = match sl[i]? with
  | some none => match tab.lookup c with
    | some b => .ok (.bl b) cs
    | none => .bad
  | _ => .bad := rfl
@[simp] theorem isFz_lst (xs : List Pv) : isFz (.lst xs) = true := rfl
@[simp] theorem isFz_tup (xs : List Pv) : isFz (.tup xs) = true := rfl
@[simp] theorem tyIs_str (x : Str) : tyIs "str" (.str x) cs = true := rfl
@[simp] theorem v_inS (neg : Bool) (c : Nat) (z : List Nat) : oInG neg (.str (S [c])) (.str (S z)) cs = .ok (.bl (if neg then !decide (c ∈ z) else decide (c ∈ z))) cs := rfl
@[simp] theorem v_eqS (x y : List Nat) : eqA false (.str (S x)) (.str (S y)) cs = .ok (.bl (x == y)) cs := by
  show Res.ok (Pv.bl (S x == S y)) cs = _
  rw [S_beq]
@[simp] theorem v_neS (x y : List Nat) : eqA true (.str (S x)) (.str (S y)) cs = .ok (.bl (!(x == y))) cs := by
  show Res.ok (Pv.bl (!(S x == S y))) cs = _
  rw [S_beq]
@[simp] theorem v_eqAI (i j : Int) : eqA false (.int i) (.int j) cs = .ok (.bl (i == j)) cs := rfl
@[simp] theorem v_neAI (i j : Int) : eqA true (.int i) (.int j) cs = .ok (.bl (!(i == j))) cs := rfl
@[simp] theorem v_eqAL (neg : Bool) (xs : List Pv) (y : Pv) : eqA neg (.lst xs) y cs = eqD neg (.lst xs) y cs := rfl
@[simp] theorem v_eqAT (neg : Bool) (xs : List Pv) (y : Pv) : eqA neg (.tup xs) y cs = eqD neg (.tup xs) y cs := rfl
@[simp] theorem v_eqAR (neg : Bool) (k : Nat) (y : Pv) : eqA neg (.ref k) y cs = eqD neg (.ref k) y cs := rfl
/-- what both sides come to as data -/
theorem v_eqData {neg : Bool} {x y : Pv} {d e : PyData} (h1 : toPy (deref cs x) = some d) (h2 : toPy (deref cs y) = some e) (s1 : SeqAt.shaped d = true) (s2 : SeqAt.shaped e = true) : eqD neg x y cs = .ok (.bl (if neg then !PyData.eqv d e else PyData.eqv d e)) cs := by
  simp [eqD, h1, h2, s1, s2]
theorem v_eqSame {neg : Bool} {x y : Pv} {d : PyData} (h1 : toPy (deref cs x) = some d) (h2 : toPy (deref cs y) = some d) (s1 : SeqAt.shaped d = true) : eqD neg x y cs = .ok (.bl (!neg)) cs := by
  rw [v_eqData h1 h2 s1 s1, SeqAt.eqv_refl d (SeqAt.canLay_of_shaped s1)]
  cases neg <;> rfl
@[simp] theorem v_lenS (x : List Nat) : mLen [.str (S x)] cs = guard_ (fits x.length) (.ok (.int x.length) cs) := by
  show guard_ (fits (S x).length) (Res.ok (Pv.int (S x).length) cs) = _
  rw [S_length]
theorem v_ixS {x : List Nat} {i : Int} {c : Nat} (h : atI x i = some c) (hf : fits x.length = true) : oIx (.str (S x)) (.int i) cs = .ok (.str (S [c])) cs := by
  show (match atI x i with | some c => guard_ (fits (S x).length) (Res.ok (Pv.str ⟨#[c]⟩) cs) | none => .bad) = _
  rw [h, S_length, hf]; rfl
theorem cutS_S (x : List Nat) (lo hi : Option Int) : cutS (S x) lo hi = S (cut x lo hi) := by
  unfold cutS cut
  rw [S_length]
  rfl
@[simp] theorem v_slcS (x : List Nat) (lo hi : Option Int) : oSlc (.str (S x)) lo hi cs = guard_ (fits x.length) (.ok (.str (S (cut x lo hi))) cs) := by
  show guard_ (fits (S x).length) (Res.ok (Pv.str (cutS (S x) lo hi)) cs) = _
  rw [S_length, cutS_S]
@[simp] theorem v_addSS (x y : List Nat) : oAdd (.str (S x)) (.str (S y)) cs = guard_ (fits (x.length + y.length)) (.ok (.str (S (x ++ y))) cs) := by
  rw [v_addS, S_length, S_length, S_append]
@[simp] theorem v_starts (x y : List Nat) : mStarts (.str (S x)) [.str (S y)] cs = .ok (.bl (TL.pre y x)) cs := rfl
theorem v_split {x : List Nat} (h : x.length ≤ 1000000) : mSplit (.str (S x)) [.str (S [32])] cs = .ok (.lst ((TL.spl [32] 0 [] x).map fun l => .str (S l))) cs := by
  show guard_ (!(TL.tl (S [32])).isEmpty && fits ((S x).length + 2) && (S [32]).cps.all (· < 256)) _ = _
  rw [S_length, guard_of]
  · rfl
  · rw [show fits (x.length + 2) = true from decide_eq_true (by omega)]
    decide +kernel
theorem sum_len (ls : List (List Nat)) : ((ls.map S).map fun (y : Str) => y.length).sum = (ls.map (·.length)).sum := by
  rw [List.map_map]
  exact congrArg List.sum (List.map_congr_left fun l _ => S_length l)
theorem v_join {x : List Nat} {ls : List (List Nat)} (h : (ls.map (·.length)).sum + ls.length * x.length ≤ 16777216) : mJoin (.str (S x)) [.lst (ls.map fun l => .str (S l))] cs = .ok (.str (S (TL.joinL x ls))) cs := by
  have e : (ls.map fun l => Pv.str (S l)) = (ls.map S).map Pv.str := by rw [List.map_map]; rfl
  rw [e]
  show (match strsOf ((ls.map S).map Pv.str) with
    | some (ys : List Str) => guard_ (decide ((ys.map fun (y : Str) => y.length).sum + ys.length * (S x).length ≤ 16777216)) (Res.ok (Pv.str (S (TL.joinL (TL.tl (S x)) (ys.map TL.tl)))) cs)
    | none => .bad) = _
  rw [strsOf_map]
  show guard_ (decide (((ls.map S).map fun (y : Str) => y.length).sum + (ls.map S).length * (S x).length ≤ 16777216)) (Res.ok (Pv.str (S (TL.joinL (TL.tl (S x)) ((ls.map S).map TL.tl)))) cs) = _
  rw [sum_len, List.length_map, S_length, guard_of (decide_eq_true h), List.map_map]
  congr 4
  exact List.map_id _
@[simp] theorem v_str (i : Int) : mStr [.int i] cs = guard_ (decide (i.natAbs.log2 < 1920)) (.ok (.str (S (intL i))) cs) := rfl
@[simp] theorem v_strS (x : Str) : mStr [.str x] cs = .ok (.str x) cs := rfl
@[simp] theorem v_intAI (i : Int) : mIntA [.int i] cs = .ok (.int i) cs := rfl
@[simp] theorem v_intAB (b : Bool) : mIntA [.bl b] cs = .ok (.int (if b then 1 else 0)) cs := rfl
theorem v_intAS {x : Str} {n : Int} (h : PySem.intText? x = some n) (hl : x.length ≤ 640) : mIntA [.str x] cs = .ok (.int n) cs := by
  show (match PySem.intText? x with | some n => guard_ (decide (x.length ≤ 640)) (Res.ok (Pv.int n) cs) | none => .bad) = _
  rw [h]
  exact guard_of (decide_eq_true hl) _
@[simp] theorem v_all (bs : List Bool) : mAll [.lst (bs.map Pv.bl)] cs = .ok (.bl (bs.all id)) cs := by simp [mAll, asL, boolsOf_map]
@[simp] theorem v_mulS (x : List Nat) (n : Int) : oMulS (.str (S x)) (.int n) cs = guard_ (decide (-1000000 ≤ n) && decide (n ≤ 1000000) && fits (x.length * n.toNat)) (.ok (.str (S (repS x n.toNat))) cs) := by
  show guard_ (decide (-1000000 ≤ n) && decide (n ≤ 1000000) && fits ((S x).length * n.toNat)) (Res.ok (Pv.str (S (repS x n.toNat))) cs) = _
  rw [S_length]
end
theorem cut_from {α : Type} (x : List α) {i : Nat} : cut x (some (i : Int)) none = x.drop i := by
  unfold cut HT.sIx
  have e : ¬ ((i : Int) < 0) := by omega
  simp only [e, if_false, Int.toNat_natCast]
  by_cases h : i ≤ x.length
  · rw [Nat.min_eq_left h]
    exact List.take_of_length_le (by simp)
  · rw [Nat.min_eq_right (by omega), List.drop_eq_nil_of_le (Nat.le_refl _), List.drop_eq_nil_of_le (by omega)]
    simp
theorem cut_to {α : Type} (x : List α) {i : Nat} : cut x none (some (i : Int)) = x.take i := by
  unfold cut HT.sIx
  have e : ¬ ((i : Int) < 0) := by omega
  simp only [e, if_false, Int.toNat_natCast, Nat.sub_zero, List.drop_zero]
  by_cases h : i ≤ x.length
  · rw [Nat.min_eq_left h]
  · rw [Nat.min_eq_right (by omega), List.take_of_length_le (Nat.le_refl _), List.take_of_length_le (by omega)]
/-! the cells that stand -/
/-- all cells but the k-th stand; new ones may come -/
structure Fr (k : Nat) (cs cs' : Cells) : Prop where
  len : cs.length ≤ cs'.length
  at_ : ∀ j, j < cs.length → j ≠ k → cs'[j]? = cs[j]?
theorem Fr.refl (k : Nat) (cs : Cells) : Fr k cs cs := ⟨Nat.le_refl _, fun _ _ _ => rfl⟩
theorem Fr.trans {k : Nat} {a b c : Cells} (h : Fr k a b) (g : Fr k b c) : Fr k a c := ⟨Nat.le_trans h.len g.len, fun j hj hk => (g.at_ j (Nat.lt_of_lt_of_le hj h.len) hk).trans (h.at_ j hj hk)⟩
theorem Fr.set (k : Nat) (cs : Cells) (c : Co) : Fr k cs (cs.set k c) := ⟨by rw [List.length_set]; exact Nat.le_refl _, fun j hj hk => List.getElem?_set_ne (Ne.symm hk)⟩
/-- all cells stand; new ones may come -/
structure F0 (cs cs' : Cells) : Prop where
  len : cs.length ≤ cs'.length
  at_ : ∀ j, j < cs.length → cs'[j]? = cs[j]?
theorem F0.refl (cs : Cells) : F0 cs cs := ⟨Nat.le_refl _, fun _ _ => rfl⟩
theorem F0.trans {a b c : Cells} (h : F0 a b) (g : F0 b c) : F0 a c := ⟨Nat.le_trans h.len g.len, fun j hj => (g.at_ j (Nat.lt_of_lt_of_le hj h.len)).trans (h.at_ j hj)⟩
theorem F0.app (cs more : Cells) : F0 cs (cs ++ more) := ⟨by simp, fun j hj => List.getElem?_append_left hj⟩
theorem F0.fr {a b : Cells} (h : F0 a b) (k : Nat) : Fr k a b := ⟨h.len, fun j hj _ => h.at_ j hj⟩
theorem F0.get {a b : Cells} (h : F0 a b) {k : Nat} {c : Co} (e : a[k]? = some c) : b[k]? = some c := by rw [h.at_ k (List.getElem?_eq_some_iff.mp e).1]; exact e
/-- a turn on a cell that did not stand before -/
theorem F0.setNew {a b : Cells} (h : F0 a b) {k : Nat} (hk : a.length ≤ k) (c : Co) : F0 a (b.set k c) := ⟨by rw [List.length_set]; exact h.len, fun j hj => by rw [List.getElem?_set_ne (by omega)]; exact h.at_ j hj⟩
theorem Fr.get {k : Nat} {a b : Cells} (h : Fr k a b) {j : Nat} {c : Co} (e : a[j]? = some c) (hk : j ≠ k) : b[j]? = some c := by rw [h.at_ j (List.getElem?_eq_some_iff.mp e).1 hk]; exact e
theorem Fr.f0 {k : Nat} {a b : Cells} (h : Fr k a b) (hk : a.length ≤ k) : F0 a b := ⟨h.len, fun j hj => h.at_ j hj (by omega)⟩
end AL

set_option Elab.async false
set_option linter.all false
set_option autoImplicit false
set_option maxRecDepth 100000
set_option maxHeartbeats 4000000
/-! Own layer, part 13: data and their shape; comprehensions that leave out. -/
namespace AL
open PySem PySem.Spec PyProof.Rows L2
def Shp (n : Nat) (d : PyData) : Prop := d.canLay0 = true ∧ d.depth ≤ n
theorem Shp.shaped {n : Nat} {d : PyData} (h : Shp n d) (hn : n ≤ 64 := by decide) : SeqAt.shaped d = true := by
  unfold SeqAt.shaped
  rw [h.1, decide_eq_true (Nat.le_trans h.2 hn)]
  rfl
theorem Shp.mono {n m : Nat} {d : PyData} (h : Shp n d) (hn : n ≤ m) : Shp m d := ⟨h.1, Nat.le_trans h.2 hn⟩
theorem Shp.non {n : Nat} : Shp n .none := ⟨by simp [PyData.canLay0], by simp [PyData.depth]⟩
theorem Shp.int {n : Nat} (i : Int) : Shp n (.int i) := ⟨by simp [PyData.canLay0], by simp [PyData.depth]⟩
theorem Shp.bool {n : Nat} (b : Bool) : Shp n (.bool b) := ⟨by simp [PyData.canLay0], by simp [PyData.depth]⟩
/-- signs that a text may have -/
def Sg (l : List Nat) : Prop := ∀ c ∈ l, c < 1114112
theorem Shp.str {n : Nat} {l : List Nat} (h : Sg l) : Shp n (.str (S l)) := by
  refine ⟨?_, by simp [PyData.depth]⟩
  simp only [PyData.canLay0]
  show (S l).cps.all (· < 0x110000) = true
  unfold S
  simp only [List.all_toArray, List.all_eq_true, decide_eq_true_eq]
  exact h
theorem shp_all {n : Nat} : ∀ {ds : List PyData}, (∀ d ∈ ds, Shp n d) → PyData.canLayAll0 ds = true ∧ PyData.depthAll ds ≤ n
  | [], _ => ⟨by simp [PyData.canLayAll0], by simp [PyData.depthAll]⟩
  | d :: ds, h => by
    have h1 := h d List.mem_cons_self
    have h2 := shp_all fun e he => h e (List.mem_cons_of_mem _ he)
    refine ⟨by simp [PyData.canLayAll0, h1.1, h2.1], ?_⟩
    simp only [PyData.depthAll]
    exact Nat.max_le.mpr ⟨h1.2, h2.2⟩
theorem Shp.list {n : Nat} {ds : List PyData} (h : ∀ d ∈ ds, Shp n d) : Shp (n + 1) (.list ds) := by
  have := shp_all h
  exact ⟨by simp [PyData.canLay0, this.1], by simp only [PyData.depth]; omega⟩
theorem Shp.tuple {n : Nat} {ds : List PyData} (h : ∀ d ∈ ds, Shp n d) : Shp (n + 1) (.tuple ds) := by
  have := shp_all h
  exact ⟨by simp [PyData.canLay0, this.1], by simp only [PyData.depth]; omega⟩
theorem toPys_map {α : Type} {f : α → Pv} {g : α → PyData} : ∀ {L : List α}, (∀ x ∈ L, toPy (f x) = some (g x)) → toPys (L.map f) = some (L.map g)
  | [], _ => rfl
  | x :: L, h => by
    show (match toPy (f x), toPys (L.map f) with | some d, some ds => some (d :: ds) | _, _ => none) = _
    rw [h x List.mem_cons_self, toPys_map fun y hy => h y (List.mem_cons_of_mem _ hy)]
    rfl
theorem toPy_lst {xs : List Pv} {ds : List PyData} (h : toPys xs = some ds) : toPy (.lst xs) = some (.list ds) := by
  show (toPys xs).map PyData.list = _
  rw [h]; rfl
theorem toPy_tup {xs : List Pv} {ds : List PyData} (h : toPys xs = some ds) : toPy (.tup xs) = some (.tuple ds) := by
  show (toPys xs).map PyData.tuple = _
  rw [h]; rfl
@[simp] theorem deref_lst (cs : Cells) (xs : List Pv) : deref cs (.lst xs) = .lst xs := rfl
@[simp] theorem deref_tup (cs : Cells) (xs : List Pv) : deref cs (.tup xs) = .tup xs := rfl
@[simp] theorem deref_str (cs : Cells) (x : Str) : deref cs (.str x) = .str x := rfl
@[simp] theorem deref_int (cs : Cells) (i : Int) : deref cs (.int i) = .int i := rfl
@[simp] theorem deref_bl (cs : Cells) (b : Bool) : deref cs (.bl b) = .bl b := rfl
@[simp] theorem deref_non (cs : Cells) : deref cs .non = .non := rfl
theorem deref_ref {cs : Cells} {k : Nat} {xs : List Pv} (h : cs[k]? = some (.lst xs)) : deref cs (.ref k) = .lst xs := by
  show (match cs[k]? with | some (.lst xs) => Pv.lst xs | _ => .ref k) = _
  rw [h]
/-! comprehensions that leave out -/
theorem lcL_filter {α : Type} {turn : Pv → Cells → Res (Option Pv)} {f h : α → Pv} {p : α → Bool} {cs : Cells} : ∀ (L : List α), (∀ o ∈ L, turn (f o) cs = .ok (if p o = true then some (h o) else none) cs) → lcL turn (L.map f) cs = .ok ((L.filter p).map h) cs
  | [], _ => rfl
  | v :: vs, q => by
    have q1 := q v List.mem_cons_self
    have ih := lcL_filter vs fun u hu => q u (List.mem_cons_of_mem _ hu)
    cases hp : p v with
    | true => rw [hp] at q1; simp [lcL, q1, ih, hp]
    | false => rw [hp] at q1; simp [lcL, q1, ih, hp]
theorem fLc_filter {α : Type} {src : FI} {g : FG} {c : FT} {e : FE} {vs : List Nat} {sl : Sl} {cs : Cells} {L : List α} {f h : α → Pv} {p : α → Bool} (hs : src sl cs = .ok (.fz (L.map f)) cs) (hf : L.length ≤ 16777216) (ht : ∀ o ∈ L, lcTurn g c e (wipeS sl vs) (f o) cs = .ok (if p o = true then some (h o) else none) cs) : fLc src g c e vs sl cs = .ok (.lst ((L.filter p).map h)) cs := by
  have hl : fits (L.map f).length = true := decide_eq_true (by rw [List.length_map]; exact hf)
  simp [fLc, hs, lcS]
  rw [guard_of (by simpa using hl), lcL_filter L ht]
  rfl
/-- a list of texts against the empty list -/
theorem v_neNil {α : Type} {L : List α} {f : α → List Nat} (h : ∀ x ∈ L, Sg (f x)) (neg : Bool) (cs : Cells) : eqD neg (.lst (L.map fun x => .str (S (f x)))) (.lst []) cs = .ok (.bl (if neg then !L.isEmpty else L.isEmpty)) cs := by
  have h1 : toPy (deref cs (.lst (L.map fun x => Pv.str (S (f x))))) = some (.list (L.map fun x => PyData.str (S (f x)))) := toPy_lst (toPys_map fun x _ => rfl)
  have h2 : toPy (deref cs (.lst [])) = some (.list []) := rfl
  rw [v_eqData h1 h2 (Shp.shaped (n := 1) (Shp.list fun d hd => by
    obtain ⟨x, hx, rfl⟩ := List.mem_map.mp hd
    exact Shp.str (h x hx))) (Shp.shaped (n := 1) (Shp.list fun d hd => by simp at hd))]
  cases L with
  | nil => cases neg <;> rfl
  | cons a r => cases neg <;> rfl
/-! loops while -/
theorem while_step (c : FT) (b : FS) (n : Nat) (sl : Sl) (cs : Cells) : whileN c b (n + 1) sl cs = (c sl cs).go sl fun q cs1 => if q = true then (b sl cs1).turn (whileN c b n) else .nx sl cs1 := rfl
theorem while_false {c : FT} {b : FS} {sl : Sl} {cs cs1 : Cells} (h : c sl cs = .ok false cs1) : sWhile c b sl cs = .nx sl cs1 := by
  show whileN c b (1099511627775 + 1) sl cs = _
  rw [while_step, h]
  rfl
theorem whileN_inv {c : FT} {b : FS} {P : Nat → Sl → Cells → Prop} {Q : Sl → Cells → Prop}
    (h : ∀ m sl cs, P m sl cs → (∃ cs1, c sl cs = .ok false cs1 ∧ Q sl cs1) ∨ ∃ cs1 sl2 cs2 m2, c sl cs = .ok true cs1 ∧ b sl cs1 = .nx sl2 cs2 ∧ m2 < m ∧ P m2 sl2 cs2) :
    ∀ (n m : Nat) (sl : Sl) (cs : Cells), m < n → P m sl cs → ∃ sl' cs', whileN c b n sl cs = .nx sl' cs' ∧ Q sl' cs'
  | 0, m, _, _, hn, _ => absurd hn (Nat.not_lt_zero _)
  | n + 1, m, sl, cs, hn, hp => by
    rw [while_step]
    rcases h m sl cs hp with ⟨cs1, e, q⟩ | ⟨cs1, sl2, cs2, m2, e1, e2, hm, hp2⟩
    · exact ⟨sl, cs1, by rw [e]; rfl, q⟩
    · obtain ⟨sl', cs', e3, q⟩ := whileN_inv h n m2 sl2 cs2 (by omega) hp2
      refine ⟨sl', cs', ?_, q⟩
      rw [e1]
      show (b sl cs1).turn (whileN c b n) = _
      rw [e2]
      exact e3
/-- P m: at most m turns are left -/
theorem while_inv {c : FT} {b : FS} {P : Nat → Sl → Cells → Prop} {Q : Sl → Cells → Prop}
    (h : ∀ m sl cs, P m sl cs → (∃ cs1, c sl cs = .ok false cs1 ∧ Q sl cs1) ∨ ∃ cs1 sl2 cs2 m2, c sl cs = .ok true cs1 ∧ b sl cs1 = .nx sl2 cs2 ∧ m2 < m ∧ P m2 sl2 cs2) {m : Nat} {sl : Sl} {cs : Cells} (hm : m ≤ 1000000000) (hp : P m sl cs) :
    ∃ sl' cs', sWhile c b sl cs = .nx sl' cs' ∧ Q sl' cs' := whileN_inv h FU m sl cs (by unfold FU; omega) hp
/-! comprehensions whose turns make cells -/
theorem lcL_mapF {α : Type} {turn : Pv → Cells → Res (Option Pv)} {f h : α → Pv} {P : Cells → Prop} : ∀ (L : List α) (cs : Cells), (∀ o ∈ L, ∀ cs, P cs → ∃ cs', turn (f o) cs = .ok (some (h o)) cs' ∧ P cs') → P cs → ∃ cs', lcL turn (L.map f) cs = .ok (L.map h) cs' ∧ P cs'
  | [], cs, _, p => ⟨cs, rfl, p⟩
  | v :: vs, cs, q, p => by
    obtain ⟨cs1, e1, p1⟩ := q v List.mem_cons_self cs p
    obtain ⟨cs2, e2, p2⟩ := lcL_mapF vs cs1 (fun u hu => q u (List.mem_cons_of_mem _ hu)) p1
    exact ⟨cs2, by simp [lcL, e1, e2], p2⟩
theorem fLc_mapF {α : Type} {src : FI} {g : FG} {c : FT} {e : FE} {vs : List Nat} {sl : Sl} {cs cs0 : Cells} {L : List α} {f h : α → Pv} {P : Cells → Prop} (hs : src sl cs = .ok (.fz (L.map f)) cs0) (hf : L.length ≤ 16777216) (ht : ∀ o ∈ L, ∀ cs, P cs → ∃ cs', lcTurn g c e (wipeS sl vs) (f o) cs = .ok (some (h o)) cs' ∧ P cs') (hp : P cs0) :
    ∃ cs', fLc src g c e vs sl cs = .ok (.lst (L.map h)) cs' ∧ P cs' := by
  obtain ⟨cs', e1, p1⟩ := lcL_mapF (f := f) (h := h) L cs0 ht hp
  refine ⟨cs', ?_, p1⟩
  have hl : fits (L.map f).length = true := decide_eq_true (by rw [List.length_map]; exact hf)
  simp [fLc, hs, lcS]
  rw [guard_of (by simpa using hl), e1]
  rfl
@[simp] theorem asL_ref {cs : Cells} {k : Nat} : asL cs (.ref k) = match cs[k]? with | some (.lst xs) => some xs | _ => none := rfl
theorem v_append {cs : Cells} {k : Nat} {xs : List Pv} (h : cs[k]? = some (.lst xs)) (hl : xs.length < 16777216) (v : Pv) : mAppend (.ref k) [v] cs = .ok .non (cs.set k (.lst (xs ++ [v]))) := by
  have hz : fits (xs.length + 1) = true := decide_eq_true (by omega)
  show (match cs[k]? with | some (.lst xs) => guard_ (fits (xs.length + 1)) (.ok Pv.non (cs.set k (.lst (xs ++ [v])))) | _ => .bad) = _
  rw [h]
  show guard_ (fits (xs.length + 1)) _ = _
  rw [guard_of hz]
theorem v_tyList {cs : Cells} {k : Nat} {xs : List Pv} (h : cs[k]? = some (.lst xs)) : tyIs "list" (.ref k) cs = true := by
  simp [tyIs, h]
end AL

set_option Elab.async false
set_option linter.all false
set_option autoImplicit false
set_option maxRecDepth 100000
set_option maxHeartbeats 4000000
namespace Lw
open PySem PySem.Spec PyProof.Rows L2 AL
def topS (i : Nat) : Stmt := PySem.Challenge.pw_alwayslines_k15_rows_of_numbers.main.body.getD i (.Pass ⟨0, 0, 0, 0⟩)
abbrev st_BadRow : Stmt := inClass (topS 3) 0
theorem sc_BadRow : FnScope ["self", "row", "place"] ["self", "row", "place"] (defScope st_BadRow) := ⟨rfl, rfl, rfl, by decide +kernel, rfl, by decide +kernel, by decide +kernel⟩
abbrev st_law_state : Stmt := topS 18
theorem sc_law_state : FnScope ["_law_cell"] ["_law_cell"] (defScope st_law_state) := ⟨rfl, rfl, rfl, by decide +kernel, rfl, by decide +kernel, by decide +kernel⟩
abbrev st_law_digit : Stmt := topS 19
theorem sc_law_digit : FnScope ["_law_state_here", "_law_base", "_law_found", "_law_more"] ["_law_state_here", "_law_base"] (defScope st_law_digit) := ⟨rfl, rfl, rfl, by decide +kernel, rfl, by decide +kernel, by decide +kernel⟩
abbrev st_is_figures : Stmt := topS 11
theorem sc_is_figures : FnScope ["text", "sign"] ["text"] (defScope st_is_figures) := ⟨rfl, rfl, rfl, by decide +kernel, rfl, by decide +kernel, by decide +kernel⟩
abbrev st_is_number : Stmt := topS 15
theorem sc_is_number : FnScope ["text"] ["text"] (defScope st_is_number) := ⟨rfl, rfl, rfl, by decide +kernel, rfl, by decide +kernel, by decide +kernel⟩
abbrev st_read_numbers : Stmt := topS 16
theorem sc_read_numbers : FnScope ["text", "found", "place", "part"] ["text"] (defScope st_read_numbers) := ⟨rfl, rfl, rfl, by decide +kernel, rfl, by decide +kernel, by decide +kernel⟩
abbrev st_law_number : Stmt := topS 20
theorem sc_law_number : FnScope ["_law_s", "_law_kind", "_law_great"] ["_law_s"] (defScope st_law_number) := ⟨rfl, rfl, rfl, by decide +kernel, rfl, by decide +kernel, by decide +kernel⟩
abbrev st_law_changed : Stmt := topS 24
theorem sc_law_changed : FnScope ["_law_s", "_law_text", "_law_kind", "_law_parts", "_law_at", "_law_some", "_law_part", "_law_place", "_law_sign"] ["_law_s", "_law_text"] (defScope st_law_changed) := ⟨rfl, rfl, rfl, by decide +kernel, rfl, by decide +kernel, by decide +kernel⟩
abbrev st_law_told : Stmt := topS 23
theorem sc_law_told : FnScope ["_law_text", "e"] ["_law_text"] (defScope st_law_told) := ⟨rfl, rfl, rfl, by decide +kernel, rfl, by decide +kernel, by decide +kernel⟩
abbrev st_law_is_number : Stmt := topS 21
theorem sc_law_is_number : FnScope ["_law_text", "_law_figures", "_law_sign"] ["_law_text"] (defScope st_law_is_number) := ⟨rfl, rfl, rfl, by decide +kernel, rfl, by decide +kernel, by decide +kernel⟩
abbrev st_law_due : Stmt := topS 22
theorem sc_law_due : FnScope ["_law_text", "_law_place", "_law_part"] ["_law_text"] (defScope st_law_due) := ⟨rfl, rfl, rfl, by decide +kernel, rfl, by decide +kernel, by decide +kernel⟩
abbrev st_all_figures : Stmt := topS 8
theorem sc_all_figures : FnScope ["number", "found", "rest"] ["number"] (defScope st_all_figures) := ⟨rfl, rfl, rfl, by decide +kernel, rfl, by decide +kernel, by decide +kernel⟩
abbrev st_numbers_row : Stmt := topS 14
theorem sc_numbers_row : FnScope ["numbers", "number"] ["numbers"] (defScope st_numbers_row) := ⟨rfl, rfl, rfl, by decide +kernel, rfl, by decide +kernel, by decide +kernel⟩
abbrev st_law : Stmt := topS 25
theorem sc_law : FnScope ["_law_script", "_law_number_here", "_law_s", "_law_many", "_law_numbers", "_law_handed", "_law_text", "_law_found", "_law_k", "_law_one"] ["_law_script"] (defScope st_law) := ⟨rfl, rfl, rfl, by decide +kernel, rfl, by decide +kernel, by decide +kernel⟩
section
variable {P : Program} {w : World} {K : PySem.W.Frag} {mg : Str → Option Value} {base : Heap}
theorem okI_BadRow {C f : Addr} {fd : FuncData} (T : OexC K C) (hno : ∀ q ∈ [(("row" : Str), 1), (("place" : Str), 2)], PySem.W.findIn K (.ref C) q.1 = some none) (F : Fun K "__init__" "BadRow.__init__" st_BadRow f fd) : FnOk P w K mg base (L2.CX P w) 1 f fd ["self", "row", "place"] (spXI C ["row", "place"]) :=
  xinit_ok T hno F sc_BadRow rfl rfl (by decide) fun cdv A outer s H E => (pss_cons (ps_ost (pe_var (i := 0) rfl (Or.inl rfl)) (pe_var (i := 1) rfl (Or.inl rfl))) (pss_cons (ps_ost (pe_var (i := 0) rfl (Or.inl rfl)) (pe_var (i := 2) rfl (Or.inl rfl))) pss_nil))
def body_law_state : FS := (sSeq (sAsg 0 (fCall mAbs (fCons (fVar 0) fNil)))
    (sRet (fLstC (fCons (f2 oMul (fVar 0) (fCall mIntA (fCons (f2 oGe (fVar 0) (f2 oPow (fCon (.int 10)) (fCon (.int 18)))) fNil))) (fCons (f2 oAdd (f2 oMod (fCall mIntA (fCons (fVar 0) fNil)) (fCon (.int 2147483629))) (fCon (.int 7))) (fCons (f2 oMod (fCall mIntA (fCons (fVar 0) fNil)) (fCon (.int 2147483587))) fNil))))))
def m_law_state : FN := fnSem 1 1 body_law_state
theorem ok_law_state {f : Addr} {fd : FuncData} (F : Fun K "_law_state" "_law_state" st_law_state f fd) (m_abs : mg "abs" = none) (m_int : mg "int" = none) : FnOk P w K mg base (L2.CX P w) 1 f fd ["_law_cell"] (spOf K mg 1 m_law_state) :=
  fn_ok (k := 0) F sc_law_state fun cdv A outer s H E hr tk po => (ss_cons (s_asg sc_law_state.nd (b_callB call_abs ok_abs m_abs (by decide +kernel) (a_cons (b_var 0) a_nil)))
    (ss_one (s_ret (b_lstC (a_cons (b_bin op_mulG ok_mul (b_var 0) (b_callTy call_intA ok_intA m_int (by decide +kernel) (a_cons (b_cmp op_ge ok_cmpI (b_var 0) (b_bin op_pow ok_pow b_int b_int)) a_nil))) (a_cons (b_bin op_addA ok_add (b_bin op_modN ok_mod (b_callTy call_intA ok_intA m_int (by decide +kernel) (a_cons (b_var 0) a_nil)) b_int) b_int) (a_cons (b_bin op_modN ok_mod (b_callTy call_intA ok_intA m_int (by decide +kernel) (a_cons (b_var 0) a_nil)) b_int) a_nil)))))))
def body_law_digit : FS := (sSeq (sIf (fTst (f2 oGt (f2 oIx (fVar 0) (fCon (.int 0))) (fCon (.int 0)))) (sSeq (sAsg 2 (f2 oMod (fCall mIntA (fCons (f2 oIx (fVar 0) (fCon (.int 0))) fNil)) (fVar 1)))
    (sSeq (sPutIx (fVar 0) (fCon (.int 0)) (f2 oFdiv (f2 oIx (fVar 0) (fCon (.int 0))) (fVar 1)))
    (sRet (fVar 2)))) sPass)
    (sSeq (sAsg 3 (f2 oMul (f2 oIx (fVar 0) (fCon (.int 1))) (f2 oAdd (f2 oFdiv (f2 oIx (fVar 0) (fCon (.int 1))) (fCon (.int 1009))) (fCon (.int 69621)))))
    (sSeq (sPutIx (fVar 0) (fCon (.int 1)) (f2 oAdd (f2 oMod (fCall mIntA (fCons (f2 oAdd (fVar 3) (f2 oIx (fVar 0) (fCon (.int 2)))) fNil)) (fCon (.int 2147483629))) (fCon (.int 7))))
    (sRet (f2 oMod (fCall mIntA (fCons (f2 oFdiv (f2 oIx (fVar 0) (fCon (.int 1))) (fCon (.int 97))) fNil)) (fVar 1))))))
def m_law_digit : FN := fnSem 2 4 body_law_digit
theorem ok_law_digit {f : Addr} {fd : FuncData} (F : Fun K "_law_digit" "_law_digit" st_law_digit f fd) (m_int : mg "int" = none) : FnOk P w K mg base (L2.CX P w) 1 f fd ["_law_state_here", "_law_base"] (spOf K mg 2 m_law_digit) :=
  fn_ok (k := 0) F sc_law_digit fun cdv A outer s H E hr tk po => (ss_cons (s_if (t_cmp op_gt ok_cmpI (b_ix (b_var 0) b_int) b_int) (ss_cons (s_asg sc_law_digit.nd (b_bin op_modN ok_mod (b_callTy call_intA ok_intA m_int (by decide +kernel) (a_cons (b_ix (b_var 0) b_int) a_nil)) (b_var 1)))
    (ss_cons (s_putIx (b_bin op_fdivG ok_fdiv (b_ix (b_var 0) b_int) (b_var 1)) (b_var 0) b_int)
    (ss_one (s_ret (b_var 2))))) ss_nil)
    (ss_cons (s_asg sc_law_digit.nd (b_bin op_mulG ok_mul (b_ix (b_var 0) b_int) (b_bin op_addA ok_add (b_bin op_fdivG ok_fdiv (b_ix (b_var 0) b_int) b_int) b_int)))
    (ss_cons (s_putIx (b_bin op_addA ok_add (b_bin op_modN ok_mod (b_callTy call_intA ok_intA m_int (by decide +kernel) (a_cons (b_bin op_addA ok_add (b_var 3) (b_ix (b_var 0) b_int)) a_nil)) b_int) b_int) (b_var 0) b_int)
    (ss_one (s_ret (b_bin op_modN ok_mod (b_callTy call_intA ok_intA m_int (by decide +kernel) (a_cons (b_bin op_fdivG ok_fdiv (b_ix (b_var 0) b_int) b_int) a_nil)) (b_var 1)))))))
def body_is_figures : FS := (sSeq (sIf (fOr (fNot (fTst (fChain oLe oLe (fCon (.int 1)) (fCall mLen (fCons (fVar 0) fNil)) (fCon (.int 30))))) (fNot (fTru (fCall mAll (fCons (fLc (iAny (fVar 0)) (gN 1) fYes (f2 oIn (fVar 1) (fCon (.str (S [48, 49, 50, 51, 52, 53, 54, 55, 56, 57])))) [1]) fNil))))) (sRet (fCon (.bl false))) sPass)
    (sRet (fOrV (f2 oEqA (fVar 0) (fCon (.str (S [48])))) (f2 oNeA (f2 oIx (fVar 0) (fCon (.int 0))) (fCon (.str (S [48])))))))
def m_is_figures : FN := fnSem 1 2 body_is_figures
theorem ok_is_figures {f : Addr} {fd : FuncData} (F : Fun K "is_figures" "is_figures" st_is_figures f fd) {u_MOST_FIGURES : Value} (g_MOST_FIGURES : mg "MOST_FIGURES" = some u_MOST_FIGURES) (r_MOST_FIGURES : RelV (.int 30) u_MOST_FIGURES) {u_FIGURES : Value} (g_FIGURES : mg "FIGURES" = some u_FIGURES) (r_FIGURES : RelV (.str (S [48, 49, 50, 51, 52, 53, 54, 55, 56, 57])) u_FIGURES) (m_all : mg "all" = none) (m_len : mg "len" = none) : FnOk P w K mg base (L2.CX P w) 1 f fd ["text"] (spOf K mg 1 m_is_figures) :=
  fn_ok (k := 0) F sc_is_figures fun cdv A outer s H E hr tk po => (ss_cons (s_if (PW.pt (w_or (t_not (t_chain op_le op_le ok_cmpI ok_cmpI b_int (b_callB call_len ok_len m_len (by decide +kernel) (a_cons (b_var 0) a_nil)) (b_globI g_MOST_FIGURES r_MOST_FIGURES))) (w_or1 (t_not (t_val (b_callB (cr_all rfl) ok_all m_all (by decide +kernel) (a_cons (b_lc rfl sc_is_figures.nd (blkOk_by (own := [("sign", 1)]) (by kernel_rfl)) (i_any (b_var 0)) (fun _ _ _ _ _ => (g_name sc_is_figures.nd)) (fun _ _ _ _ _ => ts_nil) (fun _ _ _ _ _ => (b_cmp op_inA ok_in (b_var 1) (b_globT g_FIGURES r_FIGURES)))) a_nil))))))) (ss_one (s_ret b_bl)) ss_nil)
    (ss_one (s_ret (b_or (b_cmp (op_eqA hr.units) ok_eqA (b_var 0) (b_strS rfl)) (b_one (b_cmp (op_neA hr.units) ok_neA (b_ix (b_var 0) b_int) (b_strS rfl)))))))
def body_is_number : FS := (sSeq (sIf (fTru (fMeth "str" mStarts (fVar 0) (fCons (fCon (.str (S [45]))) fNil))) (sRet (fAndV (f2 oNeA (fVar 0) (fCon (.str (S [45, 48])))) (fCall m_is_figures (fCons (fSlc (fVar 0) (fPart (fCon (.int 1))) fNoPart) fNil)))) sPass)
    (sRet (fCall m_is_figures (fCons (fVar 0) fNil))))
def m_is_number : FN := fnSem 1 1 body_is_number
theorem ok_is_number {f : Addr} {fd : FuncData} (F : Fun K "is_number" "is_number" st_is_number f fd) (F_is_figures : FnB P w K mg base "is_figures" 1 ["text"] m_is_figures) : FnOk P w K mg base (L2.CX P w) 2 f fd ["text"] (spOf K mg 1 m_is_number) :=
  fn_ok (k := 1) F sc_is_number fun cdv A outer s H E hr tk po => (ss_cons (s_if (t_val (b_meth PySem.F.plainAttrs_str PySem.F.slot_str_startswith PySem.F.type_str_startswith mt_startswith ok_starts (b_var 0) (a_cons (b_strS rfl) a_nil))) (ss_one (s_ret (b_and (b_cmp (op_neA hr.units) ok_neA (b_var 0) (b_strS rfl)) (b_one (b_fn F_is_figures (hr.mono (by decide)) tk (a_cons (b_slc (b_var 0) (o_some b_int) o_none) a_nil) (len_cons len_nil)))))) ss_nil)
    (ss_one (s_ret (b_fn F_is_figures (hr.mono (by decide)) tk (a_cons (b_var 0) a_nil) (len_cons len_nil)))))
def body_read_numbers_1 : FS := (sSeq (sIf (fNot (fTru (fCall m_is_number (fCons (fVar 3) fNil)))) (sRaise "BadRow" ["row", "place"] (fCons (fCon (.int 0)) (fCons (fVar 2) fNil))) sPass)
    (sExpr (fMeth "list" mAppend (fVar 1) (fCons (fCall mIntA (fCons (fVar 3) fNil)) fNil))))
def body_read_numbers : FS := (sSeq (sIf (fTst (f2 oEqA (fVar 0) (fCon (.str (S [110, 111, 110, 101]))))) (sRet (fLstC fNil)) sPass)
    (sSeq (sAsg 1 (fLstC fNil))
    (sSeq (sFor (gT 2 (gsCons (gN 2) (gsCons (gN 3) gsNil))) (AL.iEnum (fMeth "str" mSplit (fVar 0) (fCons (fCon (.str (S [32]))) fNil))) body_read_numbers_1)
    (sRet (fVar 1)))))
def m_read_numbers : FN := fnSem 1 4 body_read_numbers
theorem ok_read_numbers {f : Addr} {fd : FuncData} (F : Fun K "read_numbers" "read_numbers" st_read_numbers f fd) (F_is_number : FnB P w K mg base "is_number" 2 ["text"] m_is_number) {u_NONE : Value} (g_NONE : mg "NONE" = some u_NONE) (r_NONE : RelV (.str (S [110, 111, 110, 101])) u_NONE) (R_BadRow : XMk P w K mg base "BadRow" ["self", "row", "place"] ["row", "place"]) (m_enumerate : mg "enumerate" = none) (m_int : mg "int" = none) : FnOk P w K mg base (L2.CX P w) 3 f fd ["text"] (spOf K mg 1 m_read_numbers) :=
  fn_ok (k := 2) F sc_read_numbers fun cdv A outer s H E hr tk po => (ss_cons (s_if (t_cmp (op_eqA hr.units) ok_eqA (b_var 0) (b_globT g_NONE r_NONE)) (ss_one (s_ret (b_lstC a_nil))) ss_nil)
    (ss_cons (s_asg sc_read_numbers.nd (b_lstC a_nil))
    (ss_cons (s_for (vs := [2, 3]) po rfl (i_enum m_enumerate (b_meth PySem.F.plainAttrs_str PySem.F.slot_str_split PySem.F.type_str_split mt_split ok_split (b_var 0) (a_cons (b_strS rfl) a_nil))) (g_tup rfl (gs_cons (g_name sc_read_numbers.nd) (gs_cons (g_name sc_read_numbers.nd) gs_nil))) (ss_cons (s_if (t_not (t_val (b_fn F_is_number (hr.mono (by decide)) tk (a_cons (b_var 3) a_nil) (len_cons len_nil)))) (ss_one (s_raiseB rfl R_BadRow (hr.mono (by decide)) tk (a_cons b_int (a_cons (b_var 2) a_nil)))) ss_nil)
    (ss_one (s_expr (b_meth PySem.F.plainAttrs_list PySem.F.slot_list_append PySem.F.type_list_append mt_append ok_append (b_var 1) (a_cons (b_callTy call_intA ok_intA m_int (by decide +kernel) (a_cons (b_var 3) a_nil)) a_nil))))))
    (ss_one (s_ret (b_var 1))))))
def body_law_number : FS := (sSeq (sAsg 1 (fCall m_law_digit (fCons (fVar 0) (fCons (fCon (.int 8)) fNil))))
    (sSeq (sIf (fTst (f2 oLt (fVar 1) (fCon (.int 4)))) (sRet (f2 oSub (fCall m_law_digit (fCons (fVar 0) (fCons (fCon (.int 12)) fNil))) (fCon (.int 5)))) sPass)
    (sSeq (sAsg 2 (fLst (fCons (f2 oSub (f2 oPow (fCon (.int 10)) (fCon (.int 30))) (fCon (.int 1))) (fCons (f2 oSub (fCon (.int 0)) (f2 oPow (fCon (.int 10)) (fCon (.int 29)))) (fCons (f2 oMul (fCall m_law_digit (fCons (fVar 0) (fCons (f2 oPow (fCon (.int 10)) (fCon (.int 9))) fNil))) (f2 oPow (fCon (.int 10)) (fCon (.int 9)))) (fCons (f2 oSub (fCon (.int 0)) (fCall m_law_digit (fCons (fVar 0) (fCons (fCon (.int 1000)) fNil)))) fNil))))))
    (sRet (f2 oIx (fVar 2) (f2 oSub (fVar 1) (fCon (.int 4))))))))
def m_law_number : FN := fnSem 1 3 body_law_number
theorem ok_law_number {f : Addr} {fd : FuncData} (F : Fun K "_law_number" "_law_number" st_law_number f fd) (F_law_digit : FnB P w K mg base "_law_digit" 1 ["_law_state_here", "_law_base"] m_law_digit) : FnOk P w K mg base (L2.CX P w) 2 f fd ["_law_s"] (spOf K mg 1 m_law_number) :=
  fn_ok (k := 1) F sc_law_number fun cdv A outer s H E hr tk po => (ss_cons (s_asg sc_law_number.nd (b_fn F_law_digit (hr.mono (by decide)) tk (a_cons (b_var 0) (a_cons b_int a_nil)) (len_cons (len_cons len_nil))))
    (ss_cons (s_if (t_cmp op_lt ok_cmpI (b_var 1) b_int) (ss_one (s_ret (b_bin op_sub ok_sub (b_fn F_law_digit (hr.mono (by decide)) tk (a_cons (b_var 0) (a_cons b_int a_nil)) (len_cons (len_cons len_nil))) b_int))) ss_nil)
    (ss_cons (s_asg sc_law_number.nd (b_lst (a_cons (b_bin op_sub ok_sub (b_bin op_pow ok_pow b_int b_int) b_int) (a_cons (b_bin op_sub ok_sub b_int (b_bin op_pow ok_pow b_int b_int)) (a_cons (b_bin op_mulG ok_mul (b_fn F_law_digit (hr.mono (by decide)) tk (a_cons (b_var 0) (a_cons (b_bin op_pow ok_pow b_int b_int) a_nil)) (len_cons (len_cons len_nil))) (b_bin op_pow ok_pow b_int b_int)) (a_cons (b_bin op_sub ok_sub b_int (b_fn F_law_digit (hr.mono (by decide)) tk (a_cons (b_var 0) (a_cons b_int a_nil)) (len_cons (len_cons len_nil)))) a_nil))))))
    (ss_one (s_ret (b_ix (b_var 2) (b_bin op_sub ok_sub (b_var 1) b_int)))))))
def body_law_changed : FS := (sSeq (sAsg 2 (fCall m_law_digit (fCons (fVar 0) (fCons (fCon (.int 6)) fNil))))
    (sSeq (sAsg 3 (fMeth "str" mSplit (fVar 1) (fCons (fCon (.str (S [32]))) fNil)))
    (sSeq (sAsg 4 (fCall m_law_digit (fCons (fVar 0) (fCons (fCall mLen (fCons (fVar 3) fNil)) fNil))))
    (sSeq (sAsg 5 (fLst (fCons (fCon (.str (S [48]))) (fCons (fCon (.str (S [45, 48]))) (fCons (fCon (.str (S [48, 48]))) (fCons (fCon (.str (S [48, 55]))) (fCons (fCon (.str (S [45, 55]))) (fCons (fCon (.str (S [45, 45, 55]))) (fCons (fCon (.str (S [43, 55]))) (fCons (fCon (.str (S [55, 45]))) (fCons (fCon (.str (S []))) (fCons (fCon (.str (S [110, 111, 110, 101]))) (fCons (fCon (.str (S [97]))) (fCons (fCon (.str (S [49, 46, 48]))) (fCons (fCon (.str (S [45]))) (fCons (f2 oMulS (fCon (.str (S [57]))) (fCon (.int 30))) (fCons (f2 oMulS (fCon (.str (S [57]))) (fCon (.int 31))) fNil)))))))))))))))))
    (sSeq (sAsg 5 (f2 oAdd (fVar 5) (fLst (fCons (f2 oAdd (fCon (.str (S [45]))) (f2 oMulS (fCon (.str (S [57]))) (fCon (.int 30)))) (fCons (f2 oAdd (fCon (.str (S [45]))) (f2 oMulS (fCon (.str (S [49]))) (fCon (.int 31)))) (fCons (f2 oMulS (fCon (.str (S [55]))) (fCon (.int 5000))) (fCons (f2 oMulS (fCon (.str (S [48]))) (fCon (.int 5000))) (fCons (fCon (.str (S [120, 49]))) fNil))))))))
    (sSeq (sAsg 6 (f2 oIx (fVar 5) (fCall m_law_digit (fCons (fVar 0) (fCons (fCall mLen (fCons (fVar 5) fNil)) fNil)))))
    (sSeq (sIf (fTst (f2 oEqA (fVar 2) (fCon (.int 0)))) (sRet (fMeth "str" mJoin (fCon (.str (S [32]))) (fCons (f2 oAdd (fSlc (fVar 3) fNoPart (fPart (fVar 4))) (fSlc (fVar 3) (fPart (f2 oAdd (fVar 4) (fCon (.int 1)))) fNoPart)) fNil))) sPass)
    (sSeq (sIf (fTst (f2 oEqA (fVar 2) (fCon (.int 1)))) (sRet (fMeth "str" mJoin (fCon (.str (S [32]))) (fCons (f2 oAdd (fSlc (fVar 3) fNoPart (fPart (f2 oAdd (fVar 4) (fCon (.int 1))))) (fSlc (fVar 3) (fPart (fVar 4)) fNoPart)) fNil))) sPass)
    (sSeq (sIf (fTst (f2 oEqA (fVar 2) (fCon (.int 2)))) (sSeq (sAsg 7 (fCall m_law_digit (fCons (fVar 0) (fCons (f2 oAdd (fCall mLen (fCons (fVar 1) fNil)) (fCon (.int 1))) fNil))))
    (sSeq (sAsg 8 (f2 oIx (fLst (fCons (fCon (.str (S []))) (fCons (fCon (.str (S [32]))) (fCons (fCon (.str (S [45]))) (fCons (fCon (.str (S [48]))) (fCons (fCon (.str (S [97]))) fNil)))))) (fCall m_law_digit (fCons (fVar 0) (fCons (fCon (.int 5)) fNil)))))
    (sRet (f2 oAdd (f2 oAdd (fSlc (fVar 1) fNoPart (fPart (fVar 7))) (fVar 8)) (fSlc (fVar 1) (fPart (f2 oAdd (fVar 7) (fCall mIntA (fCons (f2 oEqA (fVar 8) (fCon (.str (S [])))) fNil)))) fNoPart))))) sPass)
    (sRet (fMeth "str" mJoin (fCon (.str (S [32]))) (fCons (f2 oAdd (f2 oAdd (fSlc (fVar 3) fNoPart (fPart (fVar 4))) (fLst (fCons (fVar 6) fNil))) (fSlc (fVar 3) (fPart (f2 oAdd (fVar 4) (f2 oMod (fCall mIntA (fCons (fVar 2) fNil)) (fCon (.int 2))))) fNoPart)) fNil))))))))))))
def m_law_changed : FN := fnSem 2 9 body_law_changed
theorem ok_law_changed {f : Addr} {fd : FuncData} (F : Fun K "_law_changed" "_law_changed" st_law_changed f fd) (F_law_digit : FnB P w K mg base "_law_digit" 1 ["_law_state_here", "_law_base"] m_law_digit) (m_len : mg "len" = none) (m_int : mg "int" = none) : FnOk P w K mg base (L2.CX P w) 2 f fd ["_law_s", "_law_text"] (spOf K mg 2 m_law_changed) :=
  fn_ok (k := 1) F sc_law_changed fun cdv A outer s H E hr tk po => (ss_cons (s_asg sc_law_changed.nd (b_fn F_law_digit (hr.mono (by decide)) tk (a_cons (b_var 0) (a_cons b_int a_nil)) (len_cons (len_cons len_nil))))
    (ss_cons (s_asg sc_law_changed.nd (b_meth PySem.F.plainAttrs_str PySem.F.slot_str_split PySem.F.type_str_split mt_split ok_split (b_var 1) (a_cons (b_strS rfl) a_nil)))
    (ss_cons (s_asg sc_law_changed.nd (b_fn F_law_digit (hr.mono (by decide)) tk (a_cons (b_var 0) (a_cons (b_callB call_len ok_len m_len (by decide +kernel) (a_cons (b_var 3) a_nil)) a_nil)) (len_cons (len_cons len_nil))))
    (ss_cons (s_asg sc_law_changed.nd (b_lst (a_cons (b_strS rfl) (a_cons (b_strS rfl) (a_cons (b_strS rfl) (a_cons (b_strS rfl) (a_cons (b_strS rfl) (a_cons (b_strS rfl) (a_cons (b_strS rfl) (a_cons (b_strS rfl) (a_cons (b_strS rfl) (a_cons (b_strS rfl) (a_cons (b_strS rfl) (a_cons (b_strS rfl) (a_cons (b_strS rfl) (a_cons (b_bin op_mulS ok_mulS (b_strS rfl) b_int) (a_cons (b_bin op_mulS ok_mulS (b_strS rfl) b_int) a_nil)))))))))))))))))
    (ss_cons (s_asg sc_law_changed.nd (b_bin op_addA ok_add (b_var 5) (b_lst (a_cons (b_bin op_addA ok_add (b_strS rfl) (b_bin op_mulS ok_mulS (b_strS rfl) b_int)) (a_cons (b_bin op_addA ok_add (b_strS rfl) (b_bin op_mulS ok_mulS (b_strS rfl) b_int)) (a_cons (b_bin op_mulS ok_mulS (b_strS rfl) b_int) (a_cons (b_bin op_mulS ok_mulS (b_strS rfl) b_int) (a_cons (b_strS rfl) a_nil))))))))
    (ss_cons (s_asg sc_law_changed.nd (b_ix (b_var 5) (b_fn F_law_digit (hr.mono (by decide)) tk (a_cons (b_var 0) (a_cons (b_callB call_len ok_len m_len (by decide +kernel) (a_cons (b_var 5) a_nil)) a_nil)) (len_cons (len_cons len_nil)))))
    (ss_cons (s_if (t_cmp (op_eqA hr.units) ok_eqA (b_var 2) b_int) (ss_one (s_ret (b_meth PySem.F.plainAttrs_str PySem.F.slot_str_join PySem.F.type_str_join mt_join ok_join (b_strS rfl) (a_cons (b_bin op_addA ok_add (b_slc (b_var 3) o_none (o_some (b_var 4))) (b_slc (b_var 3) (o_some (b_bin op_addA ok_add (b_var 4) b_int)) o_none)) a_nil)))) ss_nil)
    (ss_cons (s_if (t_cmp (op_eqA hr.units) ok_eqA (b_var 2) b_int) (ss_one (s_ret (b_meth PySem.F.plainAttrs_str PySem.F.slot_str_join PySem.F.type_str_join mt_join ok_join (b_strS rfl) (a_cons (b_bin op_addA ok_add (b_slc (b_var 3) o_none (o_some (b_bin op_addA ok_add (b_var 4) b_int))) (b_slc (b_var 3) (o_some (b_var 4)) o_none)) a_nil)))) ss_nil)
    (ss_cons (s_if (t_cmp (op_eqA hr.units) ok_eqA (b_var 2) b_int) (ss_cons (s_asg sc_law_changed.nd (b_fn F_law_digit (hr.mono (by decide)) tk (a_cons (b_var 0) (a_cons (b_bin op_addA ok_add (b_callB call_len ok_len m_len (by decide +kernel) (a_cons (b_var 1) a_nil)) b_int) a_nil)) (len_cons (len_cons len_nil))))
    (ss_cons (s_asg sc_law_changed.nd (b_ix (b_lst (a_cons (b_strS rfl) (a_cons (b_strS rfl) (a_cons (b_strS rfl) (a_cons (b_strS rfl) (a_cons (b_strS rfl) a_nil)))))) (b_fn F_law_digit (hr.mono (by decide)) tk (a_cons (b_var 0) (a_cons b_int a_nil)) (len_cons (len_cons len_nil)))))
    (ss_one (s_ret (b_bin op_addA ok_add (b_bin op_addA ok_add (b_slc (b_var 1) o_none (o_some (b_var 7))) (b_var 8)) (b_slc (b_var 1) (o_some (b_bin op_addA ok_add (b_var 7) (b_callTy call_intA ok_intA m_int (by decide +kernel) (a_cons (b_cmp (op_eqA hr.units) ok_eqA (b_var 8) (b_strS rfl)) a_nil)))) o_none)))))) ss_nil)
    (ss_one (s_ret (b_meth PySem.F.plainAttrs_str PySem.F.slot_str_join PySem.F.type_str_join mt_join ok_join (b_strS rfl) (a_cons (b_bin op_addA ok_add (b_bin op_addA ok_add (b_slc (b_var 3) o_none (o_some (b_var 4))) (b_lst (a_cons (b_var 6) a_nil))) (b_slc (b_var 3) (o_some (b_bin op_addA ok_add (b_var 4) (b_bin op_modN ok_mod (b_callTy call_intA ok_intA m_int (by decide +kernel) (a_cons (b_var 2) a_nil)) b_int))) o_none)) a_nil)))))))))))))
def body_law_told : FS := (sTry [("BadRow", true)] 1 (sRet (fCall m_read_numbers (fCons (fVar 0) fNil))) (fun c fs => (sRet (fTup (fCons (fCon (.str (S [114, 111, 119]))) (fCons (fXf ["BadRow"] c fs 1 "row") (fCons (fXf ["BadRow"] c fs 1 "place") fNil)))))))
def m_law_told : FN := fnSem 1 2 body_law_told
theorem ok_law_told {f : Addr} {fd : FuncData} (F : Fun K "_law_told" "_law_told" st_law_told f fd) (F_read_numbers : FnB P w K mg base "read_numbers" 3 ["text"] m_read_numbers) (Y_BadRow : XTry K mg "BadRow" [("BadRow", true)]) (x_row : XfT K mg "row" ["BadRow"]) (x_place : XfT K mg "place" ["BadRow"]) : FnOk P w K mg base (L2.CX P w) 4 f fd ["_law_text"] (spOf K mg 1 m_law_told) :=
  fn_ok (k := 3) F sc_law_told fun cdv A outer s H E hr tk po => (ss_one (s_tryB sc_law_told.nd Y_BadRow tk (fun W pn xe tk po => (ss_one (s_ret (b_fn F_read_numbers (hr.mono (by decide)) tk (a_cons (b_var 0) a_nil) (len_cons len_nil))))) (fun a oe C d pn hz hf c fs hc => (ss_one (s_ret (b_tup (a_cons (b_strS rfl) (a_cons (b_xf x_row hz hf hc) (a_cons (b_xf x_place hz hf hc) a_nil)))))))))
def body_law_is_number : FS := (sSeq (sAsg 1 (fSlc (fVar 0) (fPart (fCall mIntA (fCons (f2 oEqA (fSlc (fVar 0) fNoPart (fPart (fCon (.int 1)))) (fCon (.str (S [45])))) fNil))) fNoPart))
    (sSeq (sIf (fOr (fNot (fTst (fChain oLe oLe (fCon (.int 1)) (fCall mLen (fCons (fVar 1) fNil)) (fCon (.int 30))))) (fTst (f2 oNeA (fLc (iAny (fVar 1)) (gN 2) (fTst (f2 oNotIn (fVar 2) (fCon (.str (S [48, 49, 50, 51, 52, 53, 54, 55, 56, 57]))))) (fVar 2) [2]) (fLst fNil)))) (sRet (fCon (.bl false))) sPass)
    (sRet (fOrV (fAndV (f2 oEqA (fVar 1) (fCon (.str (S [48])))) (f2 oEqA (fVar 0) (fCon (.str (S [48]))))) (f2 oNeA (f2 oIx (fVar 1) (fCon (.int 0))) (fCon (.str (S [48]))))))))
def m_law_is_number : FN := fnSem 1 3 body_law_is_number
theorem ok_law_is_number {f : Addr} {fd : FuncData} (F : Fun K "_law_is_number" "_law_is_number" st_law_is_number f fd) (m_int : mg "int" = none) (m_len : mg "len" = none) : FnOk P w K mg base (L2.CX P w) 1 f fd ["_law_text"] (spOf K mg 1 m_law_is_number) :=
  fn_ok (k := 0) F sc_law_is_number fun cdv A outer s H E hr tk po => (ss_cons (s_asg sc_law_is_number.nd (b_slc (b_var 0) (o_some (b_callTy call_intA ok_intA m_int (by decide +kernel) (a_cons (b_cmp (op_eqA hr.units) ok_eqA (b_slc (b_var 0) o_none (o_some b_int)) (b_strS rfl)) a_nil))) o_none))
    (ss_cons (s_if (PW.pt (w_or (t_not (t_chain op_le op_le ok_cmpI ok_cmpI b_int (b_callB call_len ok_len m_len (by decide +kernel) (a_cons (b_var 1) a_nil)) b_int)) (w_or1 (t_cmp (op_neA hr.units) ok_neA (b_lc rfl sc_law_is_number.nd (blkOk_by (own := [("_law_sign", 2)]) (by kernel_rfl)) (i_any (b_var 1)) (fun _ _ _ _ _ => (g_name sc_law_is_number.nd)) (fun _ _ _ _ _ => (ts_one (t_cmp op_notInA ok_in (b_var 2) (b_strS rfl)))) (fun _ _ _ _ _ => (b_var 2))) (b_lst a_nil))))) (ss_one (s_ret b_bl)) ss_nil)
    (ss_one (s_ret (b_or (b_and (b_cmp (op_eqA hr.units) ok_eqA (b_var 1) (b_strS rfl)) (b_one (b_cmp (op_eqA hr.units) ok_eqA (b_var 0) (b_strS rfl)))) (b_one (b_cmp (op_neA hr.units) ok_neA (b_ix (b_var 1) b_int) (b_strS rfl))))))))
def body_law_due_1 : FS := (sIf (fNot (fTru (fCall m_law_is_number (fCons (fVar 2) fNil)))) (sRet (fTup (fCons (fCon (.str (S [114, 111, 119]))) (fCons (fCon (.int 0)) (fCons (fVar 1) fNil))))) sPass)
def body_law_due : FS := (sSeq (sIf (fTst (f2 oEqA (fVar 0) (fCon (.str (S [110, 111, 110, 101]))))) (sRet (fLst fNil)) sPass)
    (sSeq (sFor (gT 2 (gsCons (gN 1) (gsCons (gN 2) gsNil))) (AL.iEnum (fMeth "str" mSplit (fVar 0) (fCons (fCon (.str (S [32]))) fNil))) body_law_due_1)
    (sRet (fLc (iAny (fMeth "str" mSplit (fVar 0) (fCons (fCon (.str (S [32]))) fNil))) (gN 2) fYes (fCall mIntA (fCons (fVar 2) fNil)) [2]))))
def m_law_due : FN := fnSem 1 3 body_law_due
theorem ok_law_due {f : Addr} {fd : FuncData} (F : Fun K "_law_due" "_law_due" st_law_due f fd) (F_law_is_number : FnB P w K mg base "_law_is_number" 1 ["_law_text"] m_law_is_number) (m_enumerate : mg "enumerate" = none) (m_int : mg "int" = none) : FnOk P w K mg base (L2.CX P w) 2 f fd ["_law_text"] (spOf K mg 1 m_law_due) :=
  fn_ok (k := 1) F sc_law_due fun cdv A outer s H E hr tk po => (ss_cons (s_if (t_cmp (op_eqA hr.units) ok_eqA (b_var 0) (b_strS rfl)) (ss_one (s_ret (b_lst a_nil))) ss_nil)
    (ss_cons (s_for (vs := [1, 2]) po rfl (i_enum m_enumerate (b_meth PySem.F.plainAttrs_str PySem.F.slot_str_split PySem.F.type_str_split mt_split ok_split (b_var 0) (a_cons (b_strS rfl) a_nil))) (g_tup rfl (gs_cons (g_name sc_law_due.nd) (gs_cons (g_name sc_law_due.nd) gs_nil))) (ss_one (s_if (t_not (t_val (b_fn F_law_is_number (hr.mono (by decide)) tk (a_cons (b_var 2) a_nil) (len_cons len_nil)))) (ss_one (s_ret (b_tup (a_cons (b_strS rfl) (a_cons b_int (a_cons (b_var 1) a_nil)))))) ss_nil)))
    (ss_one (s_ret (b_lc rfl sc_law_due.nd (blkOk_by (own := [("_law_part", 2)]) (by kernel_rfl)) (i_any (b_meth PySem.F.plainAttrs_str PySem.F.slot_str_split PySem.F.type_str_split mt_split ok_split (b_var 0) (a_cons (b_strS rfl) a_nil))) (fun _ _ _ _ _ => (g_name sc_law_due.nd)) (fun _ _ _ _ _ => ts_nil) (fun _ _ _ _ _ => (b_callTy call_intA ok_intA m_int (by decide +kernel) (a_cons (b_var 2) a_nil))))))))
def body_all_figures_1 : FS := (sSeq (sAsg 2 (fCall mStr (fCons (f2 oMod (fCall mIntA (fCons (fVar 0) fNil)) (fCon (.int 1000000000000000000000000000000000000000000000000000000000000))) fNil)))
    (sSeq (sExpr (fMeth "list" mAppend (fVar 1) (fCons (f2 oAdd (f2 oMulS (fCon (.str (S [48]))) (f2 oSub (fCon (.int 60)) (fCall mLen (fCons (fVar 2) fNil)))) (fVar 2)) fNil)))
    (sAsg 0 (f2 oFdiv (fVar 0) (fCon (.int 1000000000000000000000000000000000000000000000000000000000000))))))
def body_all_figures : FS := (sSeq (sAsg 1 (fLstC fNil))
    (sSeq (sWhile (fTst (f2 oGe (fVar 0) (fCon (.int 1000000000000000000000000000000000000000000000000000000000000)))) body_all_figures_1)
    (sSeq (sExpr (fMeth "list" mAppend (fVar 1) (fCons (fCall mStr (fCons (fVar 0) fNil)) fNil)))
    (sRet (fMeth "str" mJoin (fCon (.str (S []))) (fCons (fRev (fVar 1)) fNil))))))
def m_all_figures : FN := fnSem 1 3 body_all_figures
theorem ok_all_figures {f : Addr} {fd : FuncData} (F : Fun K "all_figures" "all_figures" st_all_figures f fd) {u_STEP : Value} (g_STEP : mg "STEP" = some u_STEP) (r_STEP : RelV (.int 1000000000000000000000000000000000000000000000000000000000000) u_STEP) {u_STEP_FIGURES : Value} (g_STEP_FIGURES : mg "STEP_FIGURES" = some u_STEP_FIGURES) (r_STEP_FIGURES : RelV (.int 60) u_STEP_FIGURES) (m_str : mg "str" = none) (m_int : mg "int" = none) (m_len : mg "len" = none) : FnOk P w K mg base (L2.CX P w) 1 f fd ["number"] (spOf K mg 1 m_all_figures) :=
  fn_ok (k := 0) F sc_all_figures fun cdv A outer s H E hr tk po => (ss_cons (s_asg sc_all_figures.nd (b_lstC a_nil))
    (ss_cons (s_while po (t_cmp op_ge ok_cmpI (b_var 0) (b_globI g_STEP r_STEP)) (ss_cons (s_asg sc_all_figures.nd (b_callTy call_strA ok_str m_str (by decide +kernel) (a_cons (b_bin op_modN ok_mod (b_callTy call_intA ok_intA m_int (by decide +kernel) (a_cons (b_var 0) a_nil)) (b_globI g_STEP r_STEP)) a_nil)))
    (ss_cons (s_expr (b_meth PySem.F.plainAttrs_list PySem.F.slot_list_append PySem.F.type_list_append mt_append ok_append (b_var 1) (a_cons (b_bin op_addA ok_add (b_bin op_mulS ok_mulS (b_strS rfl) (b_bin op_sub ok_sub (b_globI g_STEP_FIGURES r_STEP_FIGURES) (b_callB call_len ok_len m_len (by decide +kernel) (a_cons (b_var 2) a_nil)))) (b_var 2)) a_nil)))
    (ss_one (s_asg sc_all_figures.nd (b_bin op_fdivG ok_fdiv (b_var 0) (b_globI g_STEP r_STEP)))))))
    (ss_cons (s_expr (b_meth PySem.F.plainAttrs_list PySem.F.slot_list_append PySem.F.type_list_append mt_append ok_append (b_var 1) (a_cons (b_callTy call_strA ok_str m_str (by decide +kernel) (a_cons (b_var 0) a_nil)) a_nil)))
    (ss_one (s_ret (b_meth PySem.F.plainAttrs_str PySem.F.slot_str_join PySem.F.type_str_join mt_join ok_join (b_strS rfl) (a_cons (b_rev (b_var 1)) a_nil)))))))
def body_numbers_row : FS := (sRet (fMeth "str" mJoin (fCon (.str (S [32]))) (fCons (fOrT (fLc (iAny (fVar 0)) (gN 1) fYes (f2 oAdd (fIfE (fTst (f2 oLt (fVar 1) (fCon (.int 0)))) (fCon (.str (S [45]))) (fCon (.str (S [])))) (fCall m_all_figures (fCons (fCall mAbs (fCons (fVar 1) fNil)) fNil))) [1]) (fLst (fCons (fCon (.str (S [110, 111, 110, 101]))) fNil))) fNil)))
def m_numbers_row : FN := fnSem 1 2 body_numbers_row
theorem ok_numbers_row {f : Addr} {fd : FuncData} (F : Fun K "numbers_row" "numbers_row" st_numbers_row f fd) (F_all_figures : FnB P w K mg base "all_figures" 1 ["number"] m_all_figures) {u_NONE : Value} (g_NONE : mg "NONE" = some u_NONE) (r_NONE : RelV (.str (S [110, 111, 110, 101])) u_NONE) (m_abs : mg "abs" = none) : FnOk P w K mg base (L2.CX P w) 2 f fd ["numbers"] (spOf K mg 1 m_numbers_row) :=
  fn_ok (k := 1) F sc_numbers_row fun cdv A outer s H E hr tk po => (ss_one (s_ret (b_meth PySem.F.plainAttrs_str PySem.F.slot_str_join PySem.F.type_str_join mt_join ok_join (b_strS rfl) (a_cons (b_orT (b_lc rfl sc_numbers_row.nd (blkOk_by (own := [("number", 1)]) (by kernel_rfl)) (i_any (b_var 0)) (fun _ _ _ _ _ => (g_name sc_numbers_row.nd)) (fun _ _ _ _ _ => ts_nil) (fun _ _ _ _ _ => (b_bin op_addA ok_add (b_ifE (t_cmp op_lt ok_cmpI (b_var 1) b_int) (b_strS rfl) (b_strS rfl)) (b_fn F_all_figures (hr.mono (by decide)) takesB (a_cons (b_callB call_abs ok_abs m_abs (by decide +kernel) (a_cons (b_var 1) a_nil)) a_nil) (len_cons len_nil))))) (b_one (b_lst (a_cons (b_globT g_NONE r_NONE) a_nil)))) a_nil))))
def body_law_1 : FS := (sAsg 6 (fCall m_law_changed (fCons (fVar 2) (fCons (fVar 6) fNil))))
def body_law_2 : FS := (sSeq (sAsg 2 (fCall m_law_state (fCons (fVar 1) fNil)))
    (sSeq (sAsg 3 (fCall m_law_digit (fCons (fVar 2) (fCons (fCon (.int 4)) fNil))))
    (sSeq (sAsg 4 (fLc (iRange1 (fCall m_law_digit (fCons (fVar 2) (fCons (fCon (.int 9)) fNil)))) (gN 8) fYes (fCall m_law_number (fCons (fVar 2) fNil)) [8]))
    (sSeq (sAsg 5 (fCall mList (fCons (fVar 4) fNil)))
    (sSeq (sAsg 6 (fMeth "str" mJoin (fCon (.str (S [32]))) (fCons (fOrT (fLc (iAny (fVar 4)) (gN 9) fYes (fCall mStr (fCons (fVar 9) fNil)) [9]) (fLst (fCons (fCon (.str (S [110, 111, 110, 101]))) fNil))) fNil)))
    (sSeq (sIf (fOr (fTst (f2 oNeA (fCall m_numbers_row (fCons (fVar 5) fNil)) (fVar 6))) (fOr (fTst (f2 oNeA (fCall m_numbers_row (fCons (fCall mTuple (fCons (fVar 4) fNil)) fNil)) (fVar 6))) (fTst (f2 oNeA (fVar 5) (fVar 4))))) (sRet (fCon (.bl false))) sPass)
    (sSeq (sAsg 7 (fCall m_read_numbers (fCons (fVar 6) fNil)))
    (sSeq (sIf (fOr (fNot (fTru (fCall mIsB (fCons (fVar 7) (fCons (fCon (.ty "list")) fNil))))) (fTst (f2 oNeA (fVar 7) (fVar 4)))) (sRet (fCon (.bl false))) sPass)
    (sSeq (sExpr (fMeth "list" mAppend (fVar 7) (fCons (fCon (.int 1)) fNil)))
    (sSeq (sIf (fTst (f2 oNeA (fCall m_read_numbers (fCons (fVar 6) fNil)) (fVar 4))) (sRet (fCon (.bl false))) sPass)
    (sSeq (sFor (gN 8) (iRange1 (fVar 3)) body_law_1)
    (sIf (fTst (f2 oNeA (fCall m_law_told (fCons (fVar 6) fNil)) (fCall m_law_due (fCons (fVar 6) fNil)))) (sRet (fCon (.bl false))) sPass))))))))))))
def body_law : FS := (sSeq (sFor (gN 1) (iAny (fSlc (f2 oAdd (fVar 0) (fLst (fCons (fCon (.int 0)) fNil))) fNoPart (fPart (fCon (.int 12))))) body_law_2)
    (sRet (fAndV (f2 oEqA (fCall m_numbers_row (fCons (fLst (fCons (f2 oPow (fCon (.int 10)) (fCon (.int 40))) (fCons (f2 oSub (fCon (.int 0)) (f2 oPow (fCon (.int 10)) (fCon (.int 40)))) fNil))) fNil)) (f2 oAdd (f2 oAdd (fCall mStr (fCons (f2 oPow (fCon (.int 10)) (fCon (.int 40))) fNil)) (fCon (.str (S [32, 45])))) (fCall mStr (fCons (f2 oPow (fCon (.int 10)) (fCon (.int 40))) fNil)))) (f2 oEqA (fCall m_numbers_row (fCons (fLst (fCons (fCon (.int 0)) fNil)) fNil)) (fCon (.str (S [48])))))))
def m_law : FN := fnSem 1 10 body_law
theorem ok_law {f : Addr} {fd : FuncData} (F : Fun K "law" "law" st_law f fd) (F_law_state : FnB P w K mg base "_law_state" 1 ["_law_cell"] m_law_state) (F_law_digit : FnB P w K mg base "_law_digit" 1 ["_law_state_here", "_law_base"] m_law_digit) (F_read_numbers : FnB P w K mg base "read_numbers" 3 ["text"] m_read_numbers) (F_law_number : FnB P w K mg base "_law_number" 2 ["_law_s"] m_law_number) (F_law_changed : FnB P w K mg base "_law_changed" 2 ["_law_s", "_law_text"] m_law_changed) (F_law_told : FnB P w K mg base "_law_told" 4 ["_law_text"] m_law_told) (F_law_due : FnB P w K mg base "_law_due" 2 ["_law_text"] m_law_due) (F_numbers_row : FnB P w K mg base "numbers_row" 2 ["numbers"] m_numbers_row) (m_list : mg "list" = none) (m_range : mg "range" = none) (m_isinstance : mg "isinstance" = none) (m_str : mg "str" = none) (m_tuple : mg "tuple" = none) : FnOk P w K mg base (L2.CX P w) 5 f fd ["_law_script"] (spOf K mg 1 m_law) :=
  fn_ok (k := 4) F sc_law fun cdv A outer s H E hr tk po => (ss_cons (s_for (vs := [1]) po rfl (i_any (b_slc (b_bin op_addA ok_add (b_var 0) (b_lst (a_cons b_int a_nil))) o_none (o_some b_int))) (g_name sc_law.nd) (ss_cons (s_asg sc_law.nd (b_fn F_law_state (hr.mono (by decide)) tk (a_cons (b_var 1) a_nil) (len_cons len_nil)))
    (ss_cons (s_asg sc_law.nd (b_fn F_law_digit (hr.mono (by decide)) tk (a_cons (b_var 2) (a_cons b_int a_nil)) (len_cons (len_cons len_nil))))
    (ss_cons (s_asgLc (i := 4) rfl sc_law.nd (sw_true rfl rfl rfl (by decide +kernel)) (blkOk_by (own := [("_law_k", 8)]) (by kernel_rfl)) (i_range1 m_range (b_fn F_law_digit (hr.mono (by decide)) tk (a_cons (b_var 2) (a_cons b_int a_nil)) (len_cons (len_cons len_nil)))) (fun _ _ _ _ _ => (g_name sc_law.nd)) (fun _ _ _ _ _ => ts_nil) (fun _ _ _ _ _ => (b_fn F_law_number (hr.mono (by decide)) takesB (a_cons (b_var 2) a_nil) (len_cons len_nil))))
    (ss_cons (s_asg sc_law.nd (b_callTy call_list_of ok_list m_list (by decide +kernel) (a_cons (b_var 4) a_nil)))
    (ss_cons (s_asg sc_law.nd (b_meth PySem.F.plainAttrs_str PySem.F.slot_str_join PySem.F.type_str_join mt_join ok_join (b_strS rfl) (a_cons (b_orT (b_lc rfl sc_law.nd (blkOk_by (own := [("_law_one", 9)]) (by kernel_rfl)) (i_any (b_var 4)) (fun _ _ _ _ _ => (g_name sc_law.nd)) (fun _ _ _ _ _ => ts_nil) (fun _ _ _ _ _ => (b_callTy call_strA ok_str m_str (by decide +kernel) (a_cons (b_var 9) a_nil)))) (b_one (b_lst (a_cons (b_strS rfl) a_nil)))) a_nil)))
    (ss_cons (s_if (PW.pt (w_or (t_cmp (op_neA hr.units) ok_neA (b_fn F_numbers_row (hr.mono (by decide)) tk (a_cons (b_var 5) a_nil) (len_cons len_nil)) (b_var 6)) (w_or (t_cmp (op_neA hr.units) ok_neA (b_fn F_numbers_row (hr.mono (by decide)) tk (a_cons (b_callTy call_tuple_of ok_tuple m_tuple (by decide +kernel) (a_cons (b_var 4) a_nil)) a_nil) (len_cons len_nil)) (b_var 6)) (w_or1 (t_cmp (op_neA hr.units) ok_neA (b_var 5) (b_var 4)))))) (ss_one (s_ret b_bl)) ss_nil)
    (ss_cons (s_asg sc_law.nd (b_fn F_read_numbers (hr.mono (by decide)) tk (a_cons (b_var 6) a_nil) (len_cons len_nil)))
    (ss_cons (s_if (PW.pt (w_or (t_not (t_val (b_callB call_isi ok_isB m_isinstance (by decide +kernel) (a_cons (b_var 7) (a_cons (b_ty m_list (by decide +kernel)) a_nil))))) (w_or1 (t_cmp (op_neA hr.units) ok_neA (b_var 7) (b_var 4))))) (ss_one (s_ret b_bl)) ss_nil)
    (ss_cons (s_expr (b_meth PySem.F.plainAttrs_list PySem.F.slot_list_append PySem.F.type_list_append mt_append ok_append (b_var 7) (a_cons b_int a_nil)))
    (ss_cons (s_if (t_cmp (op_neA hr.units) ok_neA (b_fn F_read_numbers (hr.mono (by decide)) tk (a_cons (b_var 6) a_nil) (len_cons len_nil)) (b_var 4)) (ss_one (s_ret b_bl)) ss_nil)
    (ss_cons (s_for (vs := [8]) po rfl (i_range1 m_range (b_var 3)) (g_name sc_law.nd) (ss_one (s_asg sc_law.nd (b_fn F_law_changed (hr.mono (by decide)) tk (a_cons (b_var 2) (a_cons (b_var 6) a_nil)) (len_cons (len_cons len_nil))))))
    (ss_one (s_if (t_cmp (op_neA hr.units) ok_neA (b_fn F_law_told (hr.mono (by decide)) tk (a_cons (b_var 6) a_nil) (len_cons len_nil)) (b_fn F_law_due (hr.mono (by decide)) tk (a_cons (b_var 6) a_nil) (len_cons len_nil))) (ss_one (s_ret b_bl)) ss_nil))))))))))))))
    (ss_one (s_ret (b_and (b_cmp (op_eqA hr.units) ok_eqA (b_fn F_numbers_row (hr.mono (by decide)) tk (a_cons (b_lst (a_cons (b_bin op_pow ok_pow b_int b_int) (a_cons (b_bin op_sub ok_sub b_int (b_bin op_pow ok_pow b_int b_int)) a_nil))) a_nil) (len_cons len_nil)) (b_bin op_addA ok_add (b_bin op_addA ok_add (b_callTy call_strA ok_str m_str (by decide +kernel) (a_cons (b_bin op_pow ok_pow b_int b_int) a_nil)) (b_strS rfl)) (b_callTy call_strA ok_str m_str (by decide +kernel) (a_cons (b_bin op_pow ok_pow b_int b_int) a_nil)))) (b_one (b_cmp (op_eqA hr.units) ok_eqA (b_fn F_numbers_row (hr.mono (by decide)) tk (a_cons (b_lst (a_cons b_int a_nil)) a_nil) (len_cons len_nil)) (b_strS rfl)))))))
end
/-! what the top has left -/
def spLaw (K : PySem.W.Frag) : Sp := fun vs H Q _ => ∃ (a : Addr) (ns : List Int), vs = [.ref a] ∧ SqL K H a (ns.map V.int) ∧ ns.length ≤ 63 ∧ (∀ z ∈ ns, Builtin.Int.intBits z ≤ 1048576) ∧ ∀ H', Q (.bl true) H'
theorem all_mk (lawT : ∀ ns : List Int, ns.length ≤ 63 → (∀ z ∈ ns, Builtin.Int.intBits z ≤ 1048576) → ∃ cs, m_law [.lst (ns.map Pv.int)] [] = .ok (.bl true) cs) {P : Program} {w : World} {K : PySem.W.Frag} {h : Heap} {mg : Str → Option Value} {fa : Addr} (X : K.In h) (G : h.Ns mainGlobals mg) (hfa : mg "law" = some (.ref fa))
    {f_law_state : Addr} {od_law_state an_law_state : Option Addr} {sl_law_state : Array (Option Value)} {oc_law_state kV_law_state dc_law_state pm_law_state cd_law_state ct_law_state : Value} (a_law_state : PySem.W.nsIn K mainGlobals "_law_state" = some (some (.ref f_law_state))) (l_law_state : K.lookup f_law_state = some ⟨oc_law_state, od_law_state, .func (PySem.W.fnOf "_law_state" "_law_state" (defArgs st_law_state) (defBody st_law_state) (defScope st_law_state) .none kV_law_state dc_law_state pm_law_state an_law_state cd_law_state ct_law_state), sl_law_state⟩) (c_law_state : PySem.W.codeIn K cd_law_state "_law_state" = true) (k_law_state : PySem.W.keepIn K (.ref f_law_state) = true)
    {f_law_digit : Addr} {od_law_digit an_law_digit : Option Addr} {sl_law_digit : Array (Option Value)} {oc_law_digit kV_law_digit dc_law_digit pm_law_digit cd_law_digit ct_law_digit : Value} (a_law_digit : PySem.W.nsIn K mainGlobals "_law_digit" = some (some (.ref f_law_digit))) (l_law_digit : K.lookup f_law_digit = some ⟨oc_law_digit, od_law_digit, .func (PySem.W.fnOf "_law_digit" "_law_digit" (defArgs st_law_digit) (defBody st_law_digit) (defScope st_law_digit) .none kV_law_digit dc_law_digit pm_law_digit an_law_digit cd_law_digit ct_law_digit), sl_law_digit⟩) (c_law_digit : PySem.W.codeIn K cd_law_digit "_law_digit" = true) (k_law_digit : PySem.W.keepIn K (.ref f_law_digit) = true)
    {f_is_figures : Addr} {od_is_figures an_is_figures : Option Addr} {sl_is_figures : Array (Option Value)} {oc_is_figures kV_is_figures dc_is_figures pm_is_figures cd_is_figures ct_is_figures : Value} (a_is_figures : PySem.W.nsIn K mainGlobals "is_figures" = some (some (.ref f_is_figures))) (l_is_figures : K.lookup f_is_figures = some ⟨oc_is_figures, od_is_figures, .func (PySem.W.fnOf "is_figures" "is_figures" (defArgs st_is_figures) (defBody st_is_figures) (defScope st_is_figures) .none kV_is_figures dc_is_figures pm_is_figures an_is_figures cd_is_figures ct_is_figures), sl_is_figures⟩) (c_is_figures : PySem.W.codeIn K cd_is_figures "is_figures" = true) (k_is_figures : PySem.W.keepIn K (.ref f_is_figures) = true)
    {f_is_number : Addr} {od_is_number an_is_number : Option Addr} {sl_is_number : Array (Option Value)} {oc_is_number kV_is_number dc_is_number pm_is_number cd_is_number ct_is_number : Value} (a_is_number : PySem.W.nsIn K mainGlobals "is_number" = some (some (.ref f_is_number))) (l_is_number : K.lookup f_is_number = some ⟨oc_is_number, od_is_number, .func (PySem.W.fnOf "is_number" "is_number" (defArgs st_is_number) (defBody st_is_number) (defScope st_is_number) .none kV_is_number dc_is_number pm_is_number an_is_number cd_is_number ct_is_number), sl_is_number⟩) (c_is_number : PySem.W.codeIn K cd_is_number "is_number" = true) (k_is_number : PySem.W.keepIn K (.ref f_is_number) = true)
    {f_read_numbers : Addr} {od_read_numbers an_read_numbers : Option Addr} {sl_read_numbers : Array (Option Value)} {oc_read_numbers kV_read_numbers dc_read_numbers pm_read_numbers cd_read_numbers ct_read_numbers : Value} (a_read_numbers : PySem.W.nsIn K mainGlobals "read_numbers" = some (some (.ref f_read_numbers))) (l_read_numbers : K.lookup f_read_numbers = some ⟨oc_read_numbers, od_read_numbers, .func (PySem.W.fnOf "read_numbers" "read_numbers" (defArgs st_read_numbers) (defBody st_read_numbers) (defScope st_read_numbers) .none kV_read_numbers dc_read_numbers pm_read_numbers an_read_numbers cd_read_numbers ct_read_numbers), sl_read_numbers⟩) (c_read_numbers : PySem.W.codeIn K cd_read_numbers "read_numbers" = true) (k_read_numbers : PySem.W.keepIn K (.ref f_read_numbers) = true)
    {f_law_number : Addr} {od_law_number an_law_number : Option Addr} {sl_law_number : Array (Option Value)} {oc_law_number kV_law_number dc_law_number pm_law_number cd_law_number ct_law_number : Value} (a_law_number : PySem.W.nsIn K mainGlobals "_law_number" = some (some (.ref f_law_number))) (l_law_number : K.lookup f_law_number = some ⟨oc_law_number, od_law_number, .func (PySem.W.fnOf "_law_number" "_law_number" (defArgs st_law_number) (defBody st_law_number) (defScope st_law_number) .none kV_law_number dc_law_number pm_law_number an_law_number cd_law_number ct_law_number), sl_law_number⟩) (c_law_number : PySem.W.codeIn K cd_law_number "_law_number" = true) (k_law_number : PySem.W.keepIn K (.ref f_law_number) = true)
    {f_law_changed : Addr} {od_law_changed an_law_changed : Option Addr} {sl_law_changed : Array (Option Value)} {oc_law_changed kV_law_changed dc_law_changed pm_law_changed cd_law_changed ct_law_changed : Value} (a_law_changed : PySem.W.nsIn K mainGlobals "_law_changed" = some (some (.ref f_law_changed))) (l_law_changed : K.lookup f_law_changed = some ⟨oc_law_changed, od_law_changed, .func (PySem.W.fnOf "_law_changed" "_law_changed" (defArgs st_law_changed) (defBody st_law_changed) (defScope st_law_changed) .none kV_law_changed dc_law_changed pm_law_changed an_law_changed cd_law_changed ct_law_changed), sl_law_changed⟩) (c_law_changed : PySem.W.codeIn K cd_law_changed "_law_changed" = true) (k_law_changed : PySem.W.keepIn K (.ref f_law_changed) = true)
    {f_law_told : Addr} {od_law_told an_law_told : Option Addr} {sl_law_told : Array (Option Value)} {oc_law_told kV_law_told dc_law_told pm_law_told cd_law_told ct_law_told : Value} (a_law_told : PySem.W.nsIn K mainGlobals "_law_told" = some (some (.ref f_law_told))) (l_law_told : K.lookup f_law_told = some ⟨oc_law_told, od_law_told, .func (PySem.W.fnOf "_law_told" "_law_told" (defArgs st_law_told) (defBody st_law_told) (defScope st_law_told) .none kV_law_told dc_law_told pm_law_told an_law_told cd_law_told ct_law_told), sl_law_told⟩) (c_law_told : PySem.W.codeIn K cd_law_told "_law_told" = true) (k_law_told : PySem.W.keepIn K (.ref f_law_told) = true)
    {f_law_is_number : Addr} {od_law_is_number an_law_is_number : Option Addr} {sl_law_is_number : Array (Option Value)} {oc_law_is_number kV_law_is_number dc_law_is_number pm_law_is_number cd_law_is_number ct_law_is_number : Value} (a_law_is_number : PySem.W.nsIn K mainGlobals "_law_is_number" = some (some (.ref f_law_is_number))) (l_law_is_number : K.lookup f_law_is_number = some ⟨oc_law_is_number, od_law_is_number, .func (PySem.W.fnOf "_law_is_number" "_law_is_number" (defArgs st_law_is_number) (defBody st_law_is_number) (defScope st_law_is_number) .none kV_law_is_number dc_law_is_number pm_law_is_number an_law_is_number cd_law_is_number ct_law_is_number), sl_law_is_number⟩) (c_law_is_number : PySem.W.codeIn K cd_law_is_number "_law_is_number" = true) (k_law_is_number : PySem.W.keepIn K (.ref f_law_is_number) = true)
    {f_law_due : Addr} {od_law_due an_law_due : Option Addr} {sl_law_due : Array (Option Value)} {oc_law_due kV_law_due dc_law_due pm_law_due cd_law_due ct_law_due : Value} (a_law_due : PySem.W.nsIn K mainGlobals "_law_due" = some (some (.ref f_law_due))) (l_law_due : K.lookup f_law_due = some ⟨oc_law_due, od_law_due, .func (PySem.W.fnOf "_law_due" "_law_due" (defArgs st_law_due) (defBody st_law_due) (defScope st_law_due) .none kV_law_due dc_law_due pm_law_due an_law_due cd_law_due ct_law_due), sl_law_due⟩) (c_law_due : PySem.W.codeIn K cd_law_due "_law_due" = true) (k_law_due : PySem.W.keepIn K (.ref f_law_due) = true)
    {f_all_figures : Addr} {od_all_figures an_all_figures : Option Addr} {sl_all_figures : Array (Option Value)} {oc_all_figures kV_all_figures dc_all_figures pm_all_figures cd_all_figures ct_all_figures : Value} (a_all_figures : PySem.W.nsIn K mainGlobals "all_figures" = some (some (.ref f_all_figures))) (l_all_figures : K.lookup f_all_figures = some ⟨oc_all_figures, od_all_figures, .func (PySem.W.fnOf "all_figures" "all_figures" (defArgs st_all_figures) (defBody st_all_figures) (defScope st_all_figures) .none kV_all_figures dc_all_figures pm_all_figures an_all_figures cd_all_figures ct_all_figures), sl_all_figures⟩) (c_all_figures : PySem.W.codeIn K cd_all_figures "all_figures" = true) (k_all_figures : PySem.W.keepIn K (.ref f_all_figures) = true)
    {f_numbers_row : Addr} {od_numbers_row an_numbers_row : Option Addr} {sl_numbers_row : Array (Option Value)} {oc_numbers_row kV_numbers_row dc_numbers_row pm_numbers_row cd_numbers_row ct_numbers_row : Value} (a_numbers_row : PySem.W.nsIn K mainGlobals "numbers_row" = some (some (.ref f_numbers_row))) (l_numbers_row : K.lookup f_numbers_row = some ⟨oc_numbers_row, od_numbers_row, .func (PySem.W.fnOf "numbers_row" "numbers_row" (defArgs st_numbers_row) (defBody st_numbers_row) (defScope st_numbers_row) .none kV_numbers_row dc_numbers_row pm_numbers_row an_numbers_row cd_numbers_row ct_numbers_row), sl_numbers_row⟩) (c_numbers_row : PySem.W.codeIn K cd_numbers_row "numbers_row" = true) (k_numbers_row : PySem.W.keepIn K (.ref f_numbers_row) = true)
    {f_law : Addr} {od_law an_law : Option Addr} {sl_law : Array (Option Value)} {oc_law kV_law dc_law pm_law cd_law ct_law : Value} (a_law : PySem.W.nsIn K mainGlobals "law" = some (some (.ref f_law))) (l_law : K.lookup f_law = some ⟨oc_law, od_law, .func (PySem.W.fnOf "law" "law" (defArgs st_law) (defBody st_law) (defScope st_law) .none kV_law dc_law pm_law an_law cd_law ct_law), sl_law⟩) (c_law : PySem.W.codeIn K cd_law "law" = true) (k_law : PySem.W.keepIn K (.ref f_law) = true)
    {u_FIGURES : Value} (a_FIGURES : PySem.W.nsIn K mainGlobals "FIGURES" = some (some u_FIGURES)) (r_FIGURES : RelV (.str (S [48, 49, 50, 51, 52, 53, 54, 55, 56, 57])) u_FIGURES)
    {u_STEP : Value} (a_STEP : PySem.W.nsIn K mainGlobals "STEP" = some (some u_STEP)) (r_STEP : RelV (.int 1000000000000000000000000000000000000000000000000000000000000) u_STEP)
    {u_STEP_FIGURES : Value} (a_STEP_FIGURES : PySem.W.nsIn K mainGlobals "STEP_FIGURES" = some (some u_STEP_FIGURES)) (r_STEP_FIGURES : RelV (.int 60) u_STEP_FIGURES)
    {u_MOST_FIGURES : Value} (a_MOST_FIGURES : PySem.W.nsIn K mainGlobals "MOST_FIGURES" = some (some u_MOST_FIGURES)) (r_MOST_FIGURES : RelV (.int 30) u_MOST_FIGURES)
    {u_NONE : Value} (a_NONE : PySem.W.nsIn K mainGlobals "NONE" = some (some u_NONE)) (r_NONE : RelV (.str (S [110, 111, 110, 101])) u_NONE)
    {C_BadRow : Addr} (a_BadRow : PySem.W.nsIn K mainGlobals "BadRow" = some (some (.ref C_BadRow)))
    (ex_BadRow : PySem.W.subIn K (.ref C_BadRow) (.type "BaseException") = some true) (ty_BadRow : PySem.W.typeIn K (.ref C_BadRow) = some (.type "type")) (ic_BadRow : PySem.W.isClsIn K C_BadRow = true)
    {nm_BadRow q_BadRow : Str} {N_BadRow : Addr} {bs_BadRow bm_BadRow : List Value} {sn_BadRow : List Str} {sub_BadRow : List Value} {ab_BadRow : Bool} {col_BadRow : Option Bool} {dd_BadRow : Option Addr} {m0_BadRow m1_BadRow m2_BadRow m3_BadRow m5_BadRow : Option Value} (xL_BadRow : K.lookup C_BadRow = some (excClassObj nm_BadRow q_BadRow C_BadRow N_BadRow bs_BadRow bm_BadRow true sn_BadRow sub_BadRow ab_BadRow col_BadRow dd_BadRow m0_BadRow m1_BadRow m2_BadRow m3_BadRow m5_BadRow "ValueError.__new__")) (rv_BadRow : PySem.HandSPX.refsVE bm_BadRow = true)
    (sa_BadRow : PySem.W.findIn K (.ref C_BadRow) "__setattr__" = some (some (.builtin "object.__setattr__"))) (ga_BadRow : PySem.W.findIn K (.ref C_BadRow) "__getattribute__" = some (some (.builtin "BaseException.__getattribute__"))) (gg_BadRow : PySem.W.findIn K (.ref C_BadRow) "__getattr__" = some none) (kp_BadRow : PySem.W.keepIn K (.ref C_BadRow) = true) (hd_BadRow : PySem.W.hasDictIn K C_BadRow = true)
    {fi_BadRow : Addr} {od_BadRow an_BadRow : Option Addr} {sl_BadRow : Array (Option Value)} {oc_BadRow kV_BadRow dc_BadRow pm_BadRow cd_BadRow ct_BadRow : Value} (in_BadRow : PySem.W.findIn K (.ref C_BadRow) "__init__" = some (some (.ref fi_BadRow))) (ti_BadRow : PySem.W.typeIn K (.ref fi_BadRow) = some (.type "function")) (li_BadRow : K.lookup fi_BadRow = some ⟨oc_BadRow, od_BadRow, .func (PySem.W.fnOf "__init__" "BadRow.__init__" (defArgs st_BadRow) (defBody st_BadRow) (defScope st_BadRow) .none kV_BadRow dc_BadRow pm_BadRow an_BadRow cd_BadRow ct_BadRow), sl_BadRow⟩) (ci_BadRow : PySem.W.codeIn K cd_BadRow "BadRow.__init__" = true) (ki_BadRow : PySem.W.keepIn K (.ref fi_BadRow) = true)
    (no_BadRow_row : PySem.W.findIn K (.ref C_BadRow) "row" = some none)
    (no_BadRow_place : PySem.W.findIn K (.ref C_BadRow) "place" = some none)
    (sb_BadRow_BadRow : PySem.W.subIn K (.ref C_BadRow) (.ref C_BadRow) = some true)
    (kt_BadRow_BadRow : PySem.W.kitOne K (.ref C_BadRow) (.ref C_BadRow) = some true)
    (z_abs : PySem.W.nsIn K mainGlobals "abs" = some none) (z_int : PySem.W.nsIn K mainGlobals "int" = some none) (z_all : PySem.W.nsIn K mainGlobals "all" = some none) (z_len : PySem.W.nsIn K mainGlobals "len" = some none) (z_enumerate : PySem.W.nsIn K mainGlobals "enumerate" = some none) (z_str : PySem.W.nsIn K mainGlobals "str" = some none) (z_list : PySem.W.nsIn K mainGlobals "list" = some none) (z_range : PySem.W.nsIn K mainGlobals "range" = some none) (z_isinstance : PySem.W.nsIn K mainGlobals "isinstance" = some none) (z_tuple : PySem.W.nsIn K mainGlobals "tuple" = some none) :
    ∃ fd : FuncData, (∀ (s : Shared) (v : Value), BindsTo s fd ⟨[v], []⟩ [("_law_script", v)]) ∧ ∀ base : Heap, K.In base → base.Ns mainGlobals mg → FnOk P w K mg base (L2.CX P w) 5 fa fd ["_law_script"] (spLaw K) := by
  have e := hfa.symm.trans (PySem.W.mg_of X G a_law)
  cases e
  have Q_law_state := fun_mk (st := st_law_state) l_law_state c_law_state k_law_state
  have b_law_state := Q_law_state.binds (ps := ["_law_cell"]) fun _ _ _ _ _ _ us hl => match us, hl with | [_], _ => rfl
  have Q_law_digit := fun_mk (st := st_law_digit) l_law_digit c_law_digit k_law_digit
  have b_law_digit := Q_law_digit.binds (ps := ["_law_state_here", "_law_base"]) fun _ _ _ _ _ _ us hl => match us, hl with | [_, _], _ => rfl
  have Q_is_figures := fun_mk (st := st_is_figures) l_is_figures c_is_figures k_is_figures
  have b_is_figures := Q_is_figures.binds (ps := ["text"]) fun _ _ _ _ _ _ us hl => match us, hl with | [_], _ => rfl
  have Q_is_number := fun_mk (st := st_is_number) l_is_number c_is_number k_is_number
  have b_is_number := Q_is_number.binds (ps := ["text"]) fun _ _ _ _ _ _ us hl => match us, hl with | [_], _ => rfl
  have Q_read_numbers := fun_mk (st := st_read_numbers) l_read_numbers c_read_numbers k_read_numbers
  have b_read_numbers := Q_read_numbers.binds (ps := ["text"]) fun _ _ _ _ _ _ us hl => match us, hl with | [_], _ => rfl
  have Q_law_number := fun_mk (st := st_law_number) l_law_number c_law_number k_law_number
  have b_law_number := Q_law_number.binds (ps := ["_law_s"]) fun _ _ _ _ _ _ us hl => match us, hl with | [_], _ => rfl
  have Q_law_changed := fun_mk (st := st_law_changed) l_law_changed c_law_changed k_law_changed
  have b_law_changed := Q_law_changed.binds (ps := ["_law_s", "_law_text"]) fun _ _ _ _ _ _ us hl => match us, hl with | [_, _], _ => rfl
  have Q_law_told := fun_mk (st := st_law_told) l_law_told c_law_told k_law_told
  have b_law_told := Q_law_told.binds (ps := ["_law_text"]) fun _ _ _ _ _ _ us hl => match us, hl with | [_], _ => rfl
  have Q_law_is_number := fun_mk (st := st_law_is_number) l_law_is_number c_law_is_number k_law_is_number
  have b_law_is_number := Q_law_is_number.binds (ps := ["_law_text"]) fun _ _ _ _ _ _ us hl => match us, hl with | [_], _ => rfl
  have Q_law_due := fun_mk (st := st_law_due) l_law_due c_law_due k_law_due
  have b_law_due := Q_law_due.binds (ps := ["_law_text"]) fun _ _ _ _ _ _ us hl => match us, hl with | [_], _ => rfl
  have Q_all_figures := fun_mk (st := st_all_figures) l_all_figures c_all_figures k_all_figures
  have b_all_figures := Q_all_figures.binds (ps := ["number"]) fun _ _ _ _ _ _ us hl => match us, hl with | [_], _ => rfl
  have Q_numbers_row := fun_mk (st := st_numbers_row) l_numbers_row c_numbers_row k_numbers_row
  have b_numbers_row := Q_numbers_row.binds (ps := ["numbers"]) fun _ _ _ _ _ _ us hl => match us, hl with | [_], _ => rfl
  have Q_law := fun_mk (st := st_law) l_law c_law k_law
  refine ⟨PySem.W.fnOf "law" "law" (defArgs st_law) (defBody st_law) (defScope st_law) .none kV_law dc_law pm_law an_law cd_law ct_law, fun s v => .of_eq rfl, fun base hKb hnb => ?_⟩
  have m_abs := PySem.W.mg_none_of X G z_abs
  have m_int := PySem.W.mg_none_of X G z_int
  have m_all := PySem.W.mg_none_of X G z_all
  have m_len := PySem.W.mg_none_of X G z_len
  have m_enumerate := PySem.W.mg_none_of X G z_enumerate
  have m_str := PySem.W.mg_none_of X G z_str
  have m_list := PySem.W.mg_none_of X G z_list
  have m_range := PySem.W.mg_none_of X G z_range
  have m_isinstance := PySem.W.mg_none_of X G z_isinstance
  have m_tuple := PySem.W.mg_none_of X G z_tuple
  have g_FIGURES := PySem.W.mg_of X G a_FIGURES
  have g_STEP := PySem.W.mg_of X G a_STEP
  have g_STEP_FIGURES := PySem.W.mg_of X G a_STEP_FIGURES
  have g_MOST_FIGURES := PySem.W.mg_of X G a_MOST_FIGURES
  have g_NONE := PySem.W.mg_of X G a_NONE
  have g_BadRow := PySem.W.mg_of X G a_BadRow
  have T_BadRow : OexC K C_BadRow := ⟨⟨_, _, _, _, _, _, _, _, _, _, _, _, _, _, _, xL_BadRow, rv_BadRow⟩, sa_BadRow, ex_BadRow, ty_BadRow, kp_BadRow⟩
  have QI_BadRow := fun_mk (st := st_BadRow) li_BadRow ci_BadRow ki_BadRow
  have bI_BadRow := QI_BadRow.binds (ps := ["self", "row", "place"]) fun _ _ _ _ _ _ us hl => match us, hl with | [_, _, _], _ => rfl
  have R_BadRow : XMk P w K mg base "BadRow" ["self", "row", "place"] ["row", "place"] := ⟨C_BadRow, fi_BadRow, _, T_BadRow, in_BadRow, ti_BadRow, okI_BadRow T_BadRow (by simp only [List.forall_mem_cons, List.forall_mem_nil, List.not_mem_nil, false_implies, implies_true]; exact ⟨no_BadRow_row, no_BadRow_place, trivial⟩) QI_BadRow, bI_BadRow, g_BadRow⟩
  have xc_BadRow : XfC K C_BadRow := ⟨ga_BadRow, gg_BadRow, ex_BadRow, hd_BadRow⟩
  have Y_BadRow : XTry K mg "BadRow" [("BadRow", true)] := ⟨_, g_BadRow, (ExmT.cons g_BadRow (exm_of ex_BadRow ic_BadRow ty_BadRow sb_BadRow_BadRow) ExmT.nil)⟩
  have x_row : XfT K mg "row" ["BadRow"] := (XfT.cons g_BadRow xc_BadRow no_BadRow_row XfT.nil)
  have x_place : XfT K mg "place" ["BadRow"] := (XfT.cons g_BadRow xc_BadRow no_BadRow_place XfT.nil)
  have F_law_state := ok_law_state (P := P) (w := w) (mg := mg) (base := base) Q_law_state m_abs m_int
  have B_law_state : FnB P w K mg base "_law_state" 1 ["_law_cell"] m_law_state := ⟨_, _, F_law_state, PySem.W.mg_of X G a_law_state, k_law_state, b_law_state⟩
  have F_law_digit := ok_law_digit (P := P) (w := w) (mg := mg) (base := base) Q_law_digit m_int
  have B_law_digit : FnB P w K mg base "_law_digit" 1 ["_law_state_here", "_law_base"] m_law_digit := ⟨_, _, F_law_digit, PySem.W.mg_of X G a_law_digit, k_law_digit, b_law_digit⟩
  have F_is_figures := ok_is_figures (P := P) (w := w) (mg := mg) (base := base) Q_is_figures g_MOST_FIGURES r_MOST_FIGURES g_FIGURES r_FIGURES m_all m_len
  have B_is_figures : FnB P w K mg base "is_figures" 1 ["text"] m_is_figures := ⟨_, _, F_is_figures, PySem.W.mg_of X G a_is_figures, k_is_figures, b_is_figures⟩
  have F_is_number := ok_is_number (P := P) (w := w) (mg := mg) (base := base) Q_is_number B_is_figures
  have B_is_number : FnB P w K mg base "is_number" 2 ["text"] m_is_number := ⟨_, _, F_is_number, PySem.W.mg_of X G a_is_number, k_is_number, b_is_number⟩
  have F_read_numbers := ok_read_numbers (P := P) (w := w) (mg := mg) (base := base) Q_read_numbers B_is_number g_NONE r_NONE R_BadRow m_enumerate m_int
  have B_read_numbers : FnB P w K mg base "read_numbers" 3 ["text"] m_read_numbers := ⟨_, _, F_read_numbers, PySem.W.mg_of X G a_read_numbers, k_read_numbers, b_read_numbers⟩
  have F_law_number := ok_law_number (P := P) (w := w) (mg := mg) (base := base) Q_law_number B_law_digit
  have B_law_number : FnB P w K mg base "_law_number" 2 ["_law_s"] m_law_number := ⟨_, _, F_law_number, PySem.W.mg_of X G a_law_number, k_law_number, b_law_number⟩
  have F_law_changed := ok_law_changed (P := P) (w := w) (mg := mg) (base := base) Q_law_changed B_law_digit m_len m_int
  have B_law_changed : FnB P w K mg base "_law_changed" 2 ["_law_s", "_law_text"] m_law_changed := ⟨_, _, F_law_changed, PySem.W.mg_of X G a_law_changed, k_law_changed, b_law_changed⟩
  have F_law_told := ok_law_told (P := P) (w := w) (mg := mg) (base := base) Q_law_told B_read_numbers Y_BadRow x_row x_place
  have B_law_told : FnB P w K mg base "_law_told" 4 ["_law_text"] m_law_told := ⟨_, _, F_law_told, PySem.W.mg_of X G a_law_told, k_law_told, b_law_told⟩
  have F_law_is_number := ok_law_is_number (P := P) (w := w) (mg := mg) (base := base) Q_law_is_number m_int m_len
  have B_law_is_number : FnB P w K mg base "_law_is_number" 1 ["_law_text"] m_law_is_number := ⟨_, _, F_law_is_number, PySem.W.mg_of X G a_law_is_number, k_law_is_number, b_law_is_number⟩
  have F_law_due := ok_law_due (P := P) (w := w) (mg := mg) (base := base) Q_law_due B_law_is_number m_enumerate m_int
  have B_law_due : FnB P w K mg base "_law_due" 2 ["_law_text"] m_law_due := ⟨_, _, F_law_due, PySem.W.mg_of X G a_law_due, k_law_due, b_law_due⟩
  have F_all_figures := ok_all_figures (P := P) (w := w) (mg := mg) (base := base) Q_all_figures g_STEP r_STEP g_STEP_FIGURES r_STEP_FIGURES m_str m_int m_len
  have B_all_figures : FnB P w K mg base "all_figures" 1 ["number"] m_all_figures := ⟨_, _, F_all_figures, PySem.W.mg_of X G a_all_figures, k_all_figures, b_all_figures⟩
  have F_numbers_row := ok_numbers_row (P := P) (w := w) (mg := mg) (base := base) Q_numbers_row B_all_figures g_NONE r_NONE m_abs
  have B_numbers_row : FnB P w K mg base "numbers_row" 2 ["numbers"] m_numbers_row := ⟨_, _, F_numbers_row, PySem.W.mg_of X G a_numbers_row, k_numbers_row, b_numbers_row⟩
  have F_law := ok_law (P := P) (w := w) (mg := mg) (base := base) Q_law B_law_state B_law_digit B_read_numbers B_law_number B_law_changed B_law_told B_law_due B_numbers_row m_list m_range m_isinstance m_str m_tuple
  refine F_law.imp fun vs H Q E q => ?_
  obtain ⟨a, ns, rfl, hS, hl, hbits, hq⟩ := q
  obtain ⟨cs, e⟩ := lawT ns hl hbits
  refine ⟨rfl, [.lst (ns.map Pv.int)], [], [], H, ⟨Ex.refl _, List.nodup_nil, rfl, fun k c a h => by simp at h, fun k c a h => by simp at h⟩, .cons (.lst hS (RepVs.of_ints ns)) .nil, ?_⟩
  rw [e]
  intro w U' H' μ' g r rp
  cases rp
  exact hq H'
end Lw

set_option Elab.async false
set_option linter.all false
set_option autoImplicit false
set_option maxRecDepth 100000
set_option maxHeartbeats 4000000
namespace Lw
open PySem AL
/-! ### the draws: digits of a state -/
theorem log2_lt {n a : Nat} (h : n < 2 ^ a) (h0 : 0 < a) : n.log2 < a := by
  by_cases hn : n = 0
  · subst hn; simpa using h0
  · exact (Nat.log2_lt hn).mpr h
theorem mul_ok {i j : Int} {a b : Nat} (hi : i.natAbs < 2 ^ a) (hj : j.natAbs < 2 ^ b) (h0 : 0 < a) (h1 : 0 < b) (h : a + b < 1000000) : mulOk i j = true := by
  have x := log2_lt hi h0
  have y := log2_lt hj h1
  exact decide_eq_true (by omega)
theorem fdiv_ok {j : Int} {b : Nat} (h : j ≠ 0) (hj : j.natAbs < 2 ^ b) (h1 : 0 < b) (h2 : b < 9000) : fdivOk j = true := by
  have y := log2_lt hj h1
  unfold fdivOk
  rw [decide_eq_true h, decide_eq_true (show j.natAbs.log2 < 9000 by omega)]
  rfl
theorem fits_ok {n : Nat} (h : n ≤ 16777216) : fits n = true := decide_eq_true h
/-- the k-th cell holds a state of the draws -/
structure G3 (cs : Cells) (k : Nat) : Prop where
  ex : ∃ a b c : Int, cs[k]? = some (.lst [.int a, .int b, .int c]) ∧ 0 ≤ a ∧ 7 ≤ b ∧ b < 2147483640 ∧ 0 ≤ c ∧ c < 2147483640
theorem G3.f0 {cs cs' : Cells} {k : Nat} (h : G3 cs k) (f : F0 cs cs') : G3 cs' k := by
  obtain ⟨a, b, c, hk, r⟩ := h.ex
  exact ⟨a, b, c, f.get hk, r⟩
theorem G3.fr {cs cs' : Cells} {k j : Nat} (h : G3 cs k) (f : Fr j cs cs') (hj : k ≠ j) : G3 cs' k := by
  obtain ⟨a, b, c, hk, r⟩ := h.ex
  exact ⟨a, b, c, f.get hk hj, r⟩
theorem digit_ok {cs : Cells} {k : Nat} (h : G3 cs k) {n : Int} (h0 : 0 < n) (h1 : n.natAbs < 2 ^ 200) : ∃ d cs', m_law_digit [.ref k, .int n] cs = .ok (.int d) cs' ∧ 0 ≤ d ∧ d < n ∧ G3 cs' k ∧ Fr k cs cs' := by
  obtain ⟨a, b, c, hk, ha, hb, hb2, hc, hc2⟩ := h.ex
  have kl : k < cs.length := (List.getElem?_eq_some_iff.mp hk).1
  have hn : n ≠ 0 := by omega
  have hf : fdivOk n = true := fdiv_ok hn h1 (by omega) (by omega)
  by_cases hp : 0 < a
  · refine ⟨a.fmod n, cs.set k (.lst [.int (a.fdiv n), .int b, .int c]), ?_, ?_, ?_, ⟨_, _, _, List.getElem?_set_self kl, ?_, hb, hb2, hc, hc2⟩, Fr.set _ _ _⟩
    · simp [m_law_digit, body_law_digit, v_ixC hk, hk, L2.atI, L2.ixN, hp, hn, hf, putIx]
    · rw [Int.fmod_eq_emod_of_nonneg _ (by omega)]; exact Int.emod_nonneg _ hn
    · rw [Int.fmod_eq_emod_of_nonneg _ (by omega)]; exact Int.emod_lt_of_pos _ h0
    · rw [Int.fdiv_eq_ediv_of_nonneg _ (by omega)]; exact Int.ediv_nonneg ha (by omega)
  · have e0 : ¬ (0 < a) := hp
    have hq : 0 ≤ b.fdiv 1009 ∧ b.fdiv 1009 < 2147483640 := by
      rw [Int.fdiv_eq_ediv_of_nonneg _ (by decide)]; omega
    have hm : mulOk b (b.fdiv 1009 + 69621) = true := mul_ok (a := 40) (b := 40) (by omega) (by omega) (by decide) (by decide) (by decide)
    have hs : ∀ v, (cs.set k v)[k]? = some v := fun v => List.getElem?_set_self kl
    have f9 : fdivOk 1009 = true := by decide +kernel
    have f7 : fdivOk 97 = true := by decide +kernel
    refine ⟨(((b * (b.fdiv 1009 + 69621) + c).fmod 2147483629 + 7).fdiv 97).fmod n, cs.set k (.lst [.int a, .int ((b * (b.fdiv 1009 + 69621) + c).fmod 2147483629 + 7), .int c]), ?_, ?_, ?_, ⟨_, _, _, List.getElem?_set_self kl, ha, ?_, ?_, hc, hc2⟩, Fr.set _ _ _⟩
    · simp [m_law_digit, body_law_digit, v_ixC hk, v_ixC (hs _), hk, L2.atI, L2.ixN, hp, hn, f9, f7, hm, putIx]
    · rw [Int.fmod_eq_emod_of_nonneg _ (by omega)]; exact Int.emod_nonneg _ hn
    · rw [Int.fmod_eq_emod_of_nonneg _ (by omega)]; exact Int.emod_lt_of_pos _ h0
    · rw [Int.fmod_eq_emod_of_nonneg _ (by decide)]; omega
    · rw [Int.fmod_eq_emod_of_nonneg _ (by decide)]; omega
theorem state_ok (cs : Cells) (z : Int) (hz : Builtin.Int.intBits z ≤ 1048576) : ∃ cs', m_law_state [.int z] cs = .ok (.ref cs.length) cs' ∧ G3 cs' cs.length ∧ F0 cs cs' := by
  have hb : z.natAbs.log2 ≤ 1048576 := by
    unfold Builtin.Int.intBits at hz
    split at hz
    · rename_i h0
      have : z = 0 := by simpa using h0
      subst this; decide
    · omega
  obtain ⟨w, hw, hw0, hwl⟩ : ∃ w : Int, (if z < 0 then -z else z) = w ∧ 0 ≤ w ∧ w.natAbs.log2 ≤ 1048576 := by
    refine ⟨_, rfl, by split <;> omega, ?_⟩
    have : (if z < 0 then -z else z).natAbs = z.natAbs := by split <;> omega
    rw [this]; exact hb
  have l1 : (1 : Int).natAbs.log2 = 0 := by decide
  have l0 : (0 : Int).natAbs.log2 = 0 := by decide
  have m1 : mulOk w 1 = true := decide_eq_true (by rw [l1]; omega)
  have m0 : mulOk w 0 = true := decide_eq_true (by rw [l0]; omega)
  have p18 : powOk 10 18 = true := by decide +kernel
  have r1 : 0 ≤ w.fmod 2147483629 ∧ w.fmod 2147483629 < 2147483629 := by rw [Int.fmod_eq_emod_of_nonneg _ (by decide)]; omega
  have r2 : 0 ≤ w.fmod 2147483587 ∧ w.fmod 2147483587 < 2147483587 := by rw [Int.fmod_eq_emod_of_nonneg _ (by decide)]; omega
  by_cases hg : (1000000000000000000 : Int) ≤ w
  · refine ⟨cs ++ [.lst [.int (w * 1), .int (w.fmod 2147483629 + 7), .int (w.fmod 2147483587)]], ?_, ⟨w * 1, w.fmod 2147483629 + 7, w.fmod 2147483587, by simp, by omega, by omega, by omega, by omega, by omega⟩, F0.app _ _⟩
    simp [m_law_state, body_law_state, hw, p18, hg, m1, fits]
  · refine ⟨cs ++ [.lst [.int (w * 0), .int (w.fmod 2147483629 + 7), .int (w.fmod 2147483587)]], ?_, ⟨w * 0, w.fmod 2147483629 + 7, w.fmod 2147483587, by simp, by omega, by omega, by omega, by omega, by omega⟩, F0.app _ _⟩
    simp [m_law_state, body_law_state, hw, p18, hg, m0, fits]
end Lw

set_option Elab.async false
set_option linter.all false
set_option autoImplicit false
set_option maxRecDepth 100000
set_option maxHeartbeats 4000000
namespace Lw
open PySem AL
def figs : List Nat := [48, 49, 50, 51, 52, 53, 54, 55, 56, 57]
def isFig (l : List Nat) : Bool := decide (1 ≤ l.length) && decide (l.length ≤ 30) && (l.all fun c => decide (c ∈ figs)) && (l == [48] || l.head? != some 48)
def isNum (l : List Nat) : Bool := if TL.pre [45] l = true then !(l == [45, 48]) && isFig l.tail else isFig l
theorem fig_ok {l : List Nat} (h : l.length ≤ 1000000) (cs : Cells) : m_is_figures [.str (S l)] cs = .ok (.bl (isFig l)) cs := by
  have hf : fits l.length = true := fits_ok (by omega)
  obtain ⟨bs, comp, hbs⟩ : ∃ bs : List Bool, fLc (iAny (fVar 0)) (gN 1) fYes (f2 oIn (fVar 1) (fCon (.str (S [48, 49, 50, 51, 52, 53, 54, 55, 56, 57])))) [1] [some (.str (S l)), none] cs = .ok (.lst (bs.map Pv.bl)) cs ∧ bs.all id = (l.all fun c => decide (c ∈ figs)) := by
    refine ⟨l.map fun c => decide (c ∈ figs), ?_, by rw [List.all_map]; rfl⟩
    rw [List.map_map]
    exact fLc_map (L := l) (f := fun c => .str (S [c])) (h := fun c => .bl (decide (c ∈ figs))) (by simp) (by omega) fun c _ => by simp [figs]
  unfold isFig
  by_cases h1 : (1 : Int) ≤ (l.length : Int)
  · have h1' : 1 ≤ l.length := by omega
    by_cases h2 : (l.length : Int) ≤ 30
    · have h2' : l.length ≤ 30 := by omega
      cases hd : (l.all fun c => decide (c ∈ figs)) with
      | true =>
        rw [hd] at hbs
        obtain ⟨a, ha1, ha2⟩ : ∃ a, L2.atI l 0 = some a ∧ l.head? = some a := by
          cases l with
          | nil => simp at h1'
          | cons a r => exact ⟨a, by simp [L2.atI, L2.ixN], rfl⟩
        have hix := v_ixS (cs := cs) ha1 hf
        cases h0 : (l == [48]) with
        | true => simp [m_is_figures, body_is_figures, comp, hf, h1, h2, h1', h2', hbs, h0]
        | false =>
          simp [m_is_figures, body_is_figures, comp, hf, h1, h2, h1', h2', hbs, hix, h0, ha2]
          rw [Bool.eq_iff_iff]; simp
      | false =>
        rw [hd] at hbs
        simp [m_is_figures, body_is_figures, comp, hf, h1, h2, h1', h2', hbs]
    · have h2' : ¬ l.length ≤ 30 := by omega
      simp [m_is_figures, body_is_figures, hf, h1, h2, h1', h2']
  · have h1' : ¬ 1 ≤ l.length := by omega
    simp [m_is_figures, body_is_figures, hf, h1, h1']
theorem pre45 (l : List Nat) : TL.pre [45] l = (l.head? == some 45) := by
  cases l with
  | nil => rfl
  | cons a r =>
    show ([a] == [45]) = (some a == some 45)
    by_cases e : a = 45 <;> simp [e]
theorem num_ok {l : List Nat} (h : l.length ≤ 1000000) (cs : Cells) : m_is_number [.str (S l)] cs = .ok (.bl (isNum l)) cs := by
  have hf : fits l.length = true := fits_ok (by omega)
  have e1 : cut l (some 1) none = l.tail := (cut_from (i := 1) l).trans (List.drop_one ..)
  have f1 := fig_ok (l := l.tail) (by rw [List.length_tail]; omega) cs
  have f0 := fig_ok (l := l) h cs
  unfold isNum
  cases hp : TL.pre [45] l with
  | true =>
    cases h0 : (l == [45, 48]) with
    | true => simp [m_is_number, body_is_number, hp, h0, hf, e1, f1]
    | false => simp [m_is_number, body_is_number, hp, h0, hf, e1, f1]
  | false => simp [m_is_number, body_is_number, hp, f0]
/-- the law's own reading -/
def figsOf (l : List Nat) : List Nat := if (l.take 1 == [45]) = true then l.tail else l
def isNum2 (l : List Nat) : Bool := decide (1 ≤ (figsOf l).length) && decide ((figsOf l).length ≤ 30) && ((figsOf l).all fun c => decide (c ∈ figs)) && ((figsOf l == [48] && l == [48]) || (figsOf l).head? != some 48)
theorem num2_ok {l : List Nat} (h : l.length ≤ 1000000) (hc : Sg l) (cs : Cells) : m_law_is_number [.str (S l)] cs = .ok (.bl (isNum2 l)) cs := by
  have hf : fits l.length = true := fits_ok (by omega)
  have ec : cut l none (some 1) = l.take 1 := cut_to (i := 1) l
  have e1 : cut l (some 1) none = l.tail := (cut_from (i := 1) l).trans (List.drop_one ..)
  have e0 : cut l (some 0) none = l := cut_from (i := 0) l
  obtain ⟨r, hr⟩ : ∃ r, figsOf l = r := ⟨_, rfl⟩
  have hrl : r.length ≤ l.length := by
    rw [← hr]; unfold figsOf; split
    · rw [List.length_tail]; omega
    · exact Nat.le_refl _
  have hrf : fits r.length = true := fits_ok (by omega)
  have comp : ∀ v, fLc (iAny (fVar 1)) (gN 2) (fTst (f2 oNotIn (fVar 2) (fCon (.str (S [48, 49, 50, 51, 52, 53, 54, 55, 56, 57]))))) (fVar 2) [2] [v, some (.str (S r)), none] cs = .ok (.lst ((r.filter fun c => !decide (c ∈ figs)).map fun c => .str (S [c]))) cs := fun v =>
    fLc_filter (L := r) (f := fun c => .str (S [c])) (h := fun c => .str (S [c])) (by simp) (by omega) fun c _ => by
      by_cases hcf : c ∈ figs
      · have hcf' := hcf; simp [figs] at hcf'; simp [hcf', hcf]
      · have hcf' := hcf; simp [figs] at hcf'; simp [hcf', hcf]
  have hrs : Sg r := by
    rw [← hr]; unfold figsOf; split
    · exact fun c hc' => hc c (List.mem_of_mem_tail hc')
    · exact hc
  have hne := v_neNil (L := r.filter fun c => !decide (c ∈ figs)) (f := fun c => [c]) (fun c hc' d hd => by
    have : d = c := by simpa using hd
    subst this
    exact hrs d (List.mem_filter.mp hc').1) true cs
  have hemp : (r.filter fun c => !decide (c ∈ figs)).isEmpty = (r.all fun c => decide (c ∈ figs)) := by
    rw [Bool.eq_iff_iff]
    simp
  rw [hemp] at hne
  obtain ⟨Z, comp, hne⟩ : ∃ Z : Pv, (∀ v, fLc (iAny (fVar 1)) (gN 2) (fTst (f2 oNotIn (fVar 2) (fCon (.str (S [48, 49, 50, 51, 52, 53, 54, 55, 56, 57]))))) (fVar 2) [2] [v, some (.str (S r)), none] cs = .ok Z cs) ∧ eqA true Z (.lst []) cs = .ok (.bl (!(r.all fun c => decide (c ∈ figs)))) cs := ⟨_, comp, hne⟩
  have start : ∀ rest : FS, (sSeq (sAsg 1 (fSlc (fVar 0) (fPart (fCall mIntA (fCons (f2 oEqA (fSlc (fVar 0) fNoPart (fPart (fCon (.int 1)))) (fCon (.str (S [45])))) fNil))) fNoPart)) rest) [some (.str (S l)), none, none] cs = rest [some (.str (S l)), some (.str (S r)), none] cs := fun rest => by
    unfold figsOf at hr
    cases ht : (l.take 1 == [45]) with
    | true =>
      rw [ht, if_pos rfl] at hr
      simp [hf, ec, ht, e1, hr]
    | false =>
      rw [ht, if_neg Bool.false_ne_true] at hr
      subst hr
      simp [hf, ec, ht, e0]
  have f00 : fits 0 = true := rfl
  unfold isNum2
  rw [hr]
  have rw1 : m_law_is_number [.str (S l)] cs = fnOut (body_law_is_number [some (.str (S l)), none, none] cs) := rfl
  rw [rw1]
  unfold body_law_is_number
  rw [start]
  by_cases h1 : (1 : Int) ≤ (r.length : Int)
  · have h1' : 1 ≤ r.length := by omega
    by_cases h2 : (r.length : Int) ≤ 30
    · have h2' : r.length ≤ 30 := by omega
      cases hd : (r.all fun c => decide (c ∈ figs)) with
      | true =>
        rw [hd] at hne
        obtain ⟨a, ha1, ha2⟩ : ∃ a, L2.atI r 0 = some a ∧ r.head? = some a := by
          cases r with
          | nil => simp at h1'
          | cons a r => exact ⟨a, by simp [L2.atI, L2.ixN], rfl⟩
        have hix := v_ixS (cs := cs) ha1 hrf
        cases h0 : (r == [48]) with
        | true =>
          cases h3 : (l == [48]) with
          | true => simp [comp, hrf, h1, h2, h1', h2', hne, h0, h3, f00]
          | false =>
            simp [comp, hrf, h1, h2, h1', h2', hne, h0, h3, f00, hix, ha2]
            rw [Bool.eq_iff_iff]; simp
        | false =>
          simp [comp, hrf, h1, h2, h1', h2', hne, h0, f00, hix, ha2]
          rw [Bool.eq_iff_iff]; simp
      | false =>
        rw [hd] at hne
        simp [comp, hrf, h1, h2, h1', h2', hne, f00]
    · have h2' : ¬ r.length ≤ 30 := by omega
      simp [hrf, h1, h2, h1', h2']
  · have h1' : ¬ 1 ≤ r.length := by omega
    simp [hrf, h1, h1']
theorem isNum_eq (l : List Nat) : isNum2 l = isNum l := by
  unfold isNum2 isNum isFig figsOf
  rw [pre45]
  cases l with
  | nil => rfl
  | cons a r =>
    by_cases ha : a = 45
    · subst ha
      cases r with
      | nil => rfl
      | cons b r =>
        rw [Bool.eq_iff_iff]
        simp
        constructor
        · rintro ⟨h, hb⟩
          exact ⟨.inl hb, h, .inr hb⟩
        · rintro ⟨h1, h, h2⟩
          refine ⟨h, ?_⟩
          rcases h2 with ⟨hb, hr⟩ | hb
          · rcases h1 with h1 | h1
            · exact h1
            · exact absurd hr h1
          · exact hb
    · rw [Bool.eq_iff_iff]
      simp [ha]
end Lw

set_option Elab.async false
set_option linter.all false
set_option autoImplicit false
set_option maxRecDepth 100000
set_option maxHeartbeats 4000000
namespace Lw
open PySem AL
theorem dig_iff {c : Nat} : c ∈ figs ↔ 48 ≤ c ∧ c ≤ 57 := by
  simp [figs]; omega
def val (l : List Nat) : Int := if l.head? = some 45 then -((NumText.digitsVal l.tail : Nat) : Int) else ((NumText.digitsVal l : Nat) : Int)
theorem isFig_iff {l : List Nat} : isFig l = true ↔ 1 ≤ l.length ∧ l.length ≤ 30 ∧ NumText.AllDigits l ∧ (l = [48] ∨ l.head? ≠ some 48) := by
  unfold isFig
  rw [Bool.and_eq_true, Bool.and_eq_true, Bool.and_eq_true, decide_eq_true_eq, decide_eq_true_eq, List.all_eq_true, Bool.or_eq_true]
  constructor
  · rintro ⟨⟨⟨h1, h2⟩, h3⟩, h4⟩
    exact ⟨h1, h2, fun c hc => dig_iff.mp (of_decide_eq_true (h3 c hc)), h4.imp (fun h => by simpa using h) (fun h => by simpa using h)⟩
  · rintro ⟨h1, h2, h3, h4⟩
    exact ⟨⟨⟨h1, h2⟩, fun c hc => decide_eq_true (dig_iff.mpr (h3 c hc))⟩, h4.imp (fun h => by simpa using h) (fun h => by simpa using h)⟩
theorem int_of_num {l : List Nat} (h : isNum l = true) : PySem.intText? (S l) = some (val l) ∧ (S l).length ≤ 640 := by
  unfold isNum at h
  rw [pre45] at h
  unfold val
  by_cases h45 : l.head? = some 45
  · rw [if_pos (by simpa using h45)] at h
    rw [if_pos h45]
    obtain ⟨_, hf⟩ := Bool.and_eq_true_iff.mp h
    obtain ⟨h1, h2, h3, _⟩ := isFig_iff.mp hf
    cases l with
    | nil => cases h45
    | cons a r =>
      have ha : a = 45 := by simpa using h45
      subst ha
      have hr : r.length ≤ 30 := h2
      have hr1 : 1 ≤ r.length := h1
      refine ⟨PySem.intText_neg (x := S (45 :: r)) rfl h3 (fun z => ?_) ?_, ?_⟩
      · have z : r = [] := z
        rw [z] at hr1; simp at hr1
      · rw [S_length, List.length_cons]; omega
      · rw [S_length, List.length_cons]; omega
  · rw [if_neg (by simpa using h45)] at h
    rw [if_neg h45]
    obtain ⟨h1, h2, h3, _⟩ := isFig_iff.mp h
    refine ⟨PySem.intText_digits (x := S l) h3 (fun z => ?_) ?_, ?_⟩
    · have z : l = [] := z
      rw [z] at h1; simp at h1
    · rw [S_length]; omega
    · rw [S_length]; omega
theorem numL_head {n : Nat} (h : 1 ≤ n) : (TL.numL n).head? ≠ some 48 := by
  induction n using Nat.strongRecOn with
  | _ n ih =>
    by_cases hn : n < 10
    · rw [TL.numL_lt hn]
      simp; omega
    · rw [TL.numL_step (by omega)]
      have := ih (n / 10) (by omega) (by omega)
      cases hl : TL.numL (n / 10) with
      | nil => exact absurd hl (TL.numL_ne _)
      | cons a r => rw [hl] at this; exact this
theorem fig_num {n : Nat} (h : n < 10 ^ 30) : isFig (TL.numL n) = true := by
  refine isFig_iff.mpr ⟨?_, TL.numL_len (by decide) h, TL.numL_digits n, ?_⟩
  · cases hl : TL.numL n with
    | nil => exact absurd hl (TL.numL_ne _)
    | cons a r => simp
  · by_cases h0 : n = 0
    · subst h0
      exact .inl (TL.numL_lt (by decide))
    · exact .inr (numL_head (by omega))
theorem numL_no45 (n : Nat) : (TL.numL n).head? ≠ some 45 := fun h => by
  have : 45 ∈ TL.numL n := List.mem_of_mem_head? h
  exact TL.numL_free (.inl (by decide)) this
theorem num_int {z : Int} (h : z.natAbs < 10 ^ 30) : isNum (intL z) = true := by
  unfold isNum
  rw [pre45]
  cases z with
  | ofNat n =>
    show (if ((TL.numL n).head? == some 45) = true then _ else isFig (TL.numL n)) = true
    rw [if_neg (by simpa using numL_no45 n)]
    exact fig_num h
  | negSucc n =>
    show (if ((45 :: TL.numL (n + 1)).head? == some 45) = true then !(45 :: TL.numL (n + 1) == [45, 48]) && isFig (TL.numL (n + 1)) else _) = true
    rw [if_pos (by rfl), Bool.and_eq_true]
    refine ⟨?_, fig_num (by omega)⟩
    have : TL.numL (n + 1) ≠ [48] := fun e => numL_head (n := n + 1) (by omega) (by rw [e]; rfl)
    simpa using this
theorem val_int (z : Int) : val (intL z) = z := by
  unfold val
  cases z with
  | ofNat n =>
    show (if (TL.numL n).head? = some 45 then _ else ((NumText.digitsVal (TL.numL n) : Nat) : Int)) = _
    rw [if_neg (numL_no45 n), TL.numL_val]
    rfl
  | negSucc n =>
    show (if (45 :: TL.numL (n + 1)).head? = some 45 then -((NumText.digitsVal (TL.numL (n + 1)) : Nat) : Int) else _) = _
    rw [if_pos (show (45 :: TL.numL (n + 1)).head? = some 45 from rfl), TL.numL_val]
    rfl
theorem intL_len {z : Int} (h : z.natAbs < 10 ^ 30) : (intL z).length ≤ 31 := by
  cases z with
  | ofNat n => exact Nat.le_succ_of_le (TL.numL_len (by decide) h)
  | negSucc n =>
    show (TL.numL (n + 1)).length + 1 ≤ 31
    have := TL.numL_len (n := n + 1) (k := 30) (by decide) (by omega)
    omega
theorem intL_no32 (z : Int) : 32 ∉ intL z := by
  cases z with
  | ofNat n => exact TL.numL_free (.inl (by decide))
  | negSucc n =>
    intro h
    rcases List.mem_cons.mp h with h | h
    · exact absurd h (by decide)
    · exact TL.numL_free (.inl (by decide)) h
theorem intL_sg (z : Int) : Sg (intL z) := by
  have key : ∀ n, Sg (TL.numL n) := fun n c hc => by
    have := TL.numL_digits n c hc
    omega
  cases z with
  | ofNat n => exact key n
  | negSucc n =>
    intro c hc
    rcases List.mem_cons.mp hc with h | h
    · omega
    · exact key _ c h
end Lw

set_option Elab.async false
set_option linter.all false
set_option autoImplicit false
set_option maxRecDepth 100000
set_option maxHeartbeats 4000000
namespace Lw
open PySem AL
def Big : Int := 1000000000000000000000000000000000000000000000000000000000000
theorem big_log {z : Int} (h0 : 0 ≤ z) (h : z < Big) : z.natAbs.log2 < 1920 := by
  have : z.natAbs.log2 < 200 := log2_lt (a := 200) (by unfold Big at h; omega) (by decide)
  omega
theorem figs_ok {z : Int} (h0 : 0 ≤ z) (h : z < Big) (cs : Cells) : ∃ cs', m_all_figures [.int z] cs = .ok (.str (S (intL z))) cs' ∧ F0 cs cs' := by
  have hlt : ¬ (1000000000000000000000000000000000000000000000000000000000000 ≤ z) := by unfold Big at h; omega
  have hlog := big_log h0 h
  have hw : ∀ v, sWhile (fTst (f2 oGe (fVar 0) (fCon (.int 1000000000000000000000000000000000000000000000000000000000000)))) body_all_figures_1 [some (.int z), v, none] (cs ++ [.lst []]) = .nx [some (.int z), v, none] (cs ++ [.lst []]) := fun v => while_false (by simp [hlt])
  have hk : (cs ++ [Co.lst []])[cs.length]? = some (.lst []) := by simp
  have ha := v_append (cs := cs ++ [Co.lst []]) hk (by decide) (.str (S (intL z)))
  have hs : (cs ++ [Co.lst []]).set cs.length (.lst [.str (S (intL z))]) = cs ++ [.lst [.str (S (intL z))]] := by simp
  have hl : (intL z).length ≤ 60 := by
    cases z with
    | ofNat n =>
      have h' : (n : Int) < Big := h
      exact TL.numL_len (by decide) (by unfold Big at h'; omega)
    | negSucc n => exact absurd h0 (by omega)
  have hj := v_join (cs := cs ++ [Co.lst [.str (S (intL z))]]) (x := []) (ls := [intL z]) (by simp; omega)
  refine ⟨cs ++ [.lst [.str (S (intL z))]], ?_, F0.app _ _⟩
  have f0 : fits 0 = true := rfl
  have e : TL.joinL [] [intL z] = intL z := rfl
  rw [e] at hj
  simp only [List.map_cons, List.map_nil] at hj
  simp [m_all_figures, body_all_figures, f0, hw, hlog, v_tyList hk, ha, hj]
theorem row_ok {zs : List Int} (hz : ∀ z ∈ zs, z.natAbs < 10 ^ 50) (hl : zs.length ≤ 100) (x : Pv) (hx : x = .lst (zs.map Pv.int) ∨ x = .tup (zs.map Pv.int)) (cs : Cells) :
    ∃ cs', m_numbers_row [x] cs = .ok (.str (S (if zs.isEmpty then [110, 111, 110, 101] else TL.joinL [32] (zs.map intL)))) cs' ∧ F0 cs cs' := by
  have hlen : ∀ z ∈ zs, (intL z).length ≤ 51 := fun z hm => by
    have := hz z hm
    cases z with
    | ofNat n => exact Nat.le_succ_of_le (TL.numL_len (by decide) this)
    | negSucc n =>
      show (TL.numL (n + 1)).length + 1 ≤ 51
      have := TL.numL_len (n := n + 1) (k := 50) (by decide) (by omega)
      omega
  have comp : ∃ cs', fLc (iAny (fVar 0)) (gN 1) fYes (f2 oAdd (fIfE (fTst (f2 oLt (fVar 1) (fCon (.int 0)))) (fCon (.str (S [45]))) (fCon (.str (S [])))) (fCall m_all_figures (fCons (fCall mAbs (fCons (fVar 1) fNil)) fNil))) [1] [some x, none] cs = .ok (.lst (zs.map fun z => .str (S (intL z)))) cs' ∧ F0 cs cs' := by
    refine fLc_mapF (L := zs) (f := Pv.int) (h := fun z => .str (S (intL z))) (P := F0 cs) (cs0 := cs) ?_ (by omega) (fun z hm cs1 p1 => ?_) (F0.refl _)
    · rcases hx with rfl | rfl <;> simp
    · have hb := hz z hm
      have hl1 := hlen z hm
      by_cases hneg : z < 0
      · obtain ⟨cs2, e2, p2⟩ := figs_ok (z := -z) (by omega) (by unfold Big; omega) cs1
        have hfl : (intL (-z)).length + 1 = (intL z).length ∧ intL z = 45 :: intL (-z) := by
          cases z with
          | ofNat n => exact absurd hneg (Int.not_lt.mpr (Int.natCast_nonneg n))
          | negSucc n => exact ⟨rfl, rfl⟩
        have hf : fits (1 + (intL (-z)).length) = true := fits_ok (by omega)
        refine ⟨cs2, ?_, p1.trans p2⟩
        simp [hneg, e2, hf, hfl.2, S_append]
      · obtain ⟨cs2, e2, p2⟩ := figs_ok (z := z) (by omega) (by unfold Big; omega) cs1
        have hf : fits (intL z).length = true := fits_ok (by omega)
        refine ⟨cs2, ?_, p1.trans p2⟩
        simp [hneg, e2, hf, S_append]
  obtain ⟨cs', comp, p⟩ := comp
  refine ⟨cs', ?_, p⟩
  cases zs with
  | nil =>
    have hj := v_join (cs := cs') (x := [32]) (ls := [[110, 111, 110, 101]]) (by decide)
    have e : TL.joinL [32] [[110, 111, 110, 101]] = [110, 111, 110, 101] := rfl
    rw [e] at hj
    simp only [List.map_cons, List.map_nil] at hj
    have f1 : fits 1 = true := rfl
    simp only [List.map_nil] at comp
    have ht : tru (.lst []) cs' = .ok false cs' := rfl
    simp [m_numbers_row, body_numbers_row, comp, ht, f1, hj]
  | cons z zs =>
    have hsum : ∀ l : List Int, (∀ z ∈ l, (intL z).length ≤ 51) → ((l.map intL).map (·.length)).sum ≤ 51 * l.length := by
      intro l
      induction l with
      | nil => intro _; simp
      | cons a l ih =>
        intro h
        have h1 := h a List.mem_cons_self
        have h2 := ih fun z hz => h z (List.mem_cons_of_mem _ hz)
        simp only [List.map_cons, List.sum_cons, List.length_cons] at h2 ⊢
        omega
    have hb := hsum (z :: zs) hlen
    have hj := v_join (cs := cs') (x := [32]) (ls := (z :: zs).map intL) (by rw [List.length_map]; simp only [List.length_cons, List.length_nil] at *; omega)
    rw [List.map_map] at hj
    have hj : mJoin (.str (S [32])) [.lst ((z :: zs).map fun z => .str (S (intL z)))] cs' = .ok (.str (S (TL.joinL [32] ((z :: zs).map intL)))) cs' := hj
    obtain ⟨L, hL⟩ : ∃ L, ((z :: zs).map fun z => Pv.str (S (intL z))) = L := ⟨_, rfl⟩
    have ht : tru (.lst L) cs' = .ok true cs' := by rw [← hL]; rfl
    rw [hL] at comp hj
    simp [m_numbers_row, body_numbers_row, comp, ht, hj]
end Lw

set_option Elab.async false
set_option linter.all false
set_option autoImplicit false
set_option maxRecDepth 100000
set_option maxHeartbeats 4000000
namespace Lw
open PySem AL
theorem enumL_cons (n : Nat) (x : Pv) (xs : List Pv) : enumL n (x :: xs) = .tup [.int (n : Int), x] :: enumL (n + 1) xs := by
  unfold enumL
  rw [List.mapIdx_cons]
  congr 1
  · apply List.ext_getElem?
    intro i
    rw [List.getElem?_mapIdx, List.getElem?_mapIdx]
    rw [show n + (i + 1) = n + 1 + i by omega]
@[simp] theorem enumL_nil (n : Nat) : enumL n [] = [] := rfl
def firstBad (n : Nat) : List (List Nat) → Option Nat
  | [] => none
  | l :: ls => if isNum l = true then firstBad (n + 1) ls else some n
@[simp] theorem lk1 : (List.lookup ("BadRow" : Str) [(("BadRow" : Str), true)]) = some true := by decide
@[simp] theorem lk2 (a b : Pv) : (List.lookup ("row" : Str) [(("place" : Str), a), (("row" : Str), b)]) = some b := by
  have : (("row" : Str) == "place") = false := by decide
  simp [List.lookup, this]
@[simp] theorem lk3 (a b : Pv) : (List.lookup ("place" : Str) [(("place" : Str), a), (("row" : Str), b)]) = some a := by simp [List.lookup]
abbrev gRd : FG := gT 2 (gsCons (gN 2) (gsCons (gN 3) gsNil))
theorem rd_loop {k : Nat} {x0 : Option Pv} : ∀ (ps : List (List Nat)) (n : Nat) (acc : List Pv) (a b : Option Pv) (cs : Cells), cs[k]? = some (.lst acc) → acc.length + ps.length < 10000000 → (∀ l ∈ ps, l.length ≤ 1000000) →
    match firstBad n ps with
    | none => ∃ a' b', forL (gTurn gRd body_read_numbers_1) (enumL n (ps.map fun l => .str (S l))) [x0, some (.ref k), a, b] cs = .nx [x0, some (.ref k), a', b'] (cs.set k (.lst (acc ++ ps.map fun l => .int (val l))))
    | some i => ∃ a' b' cs', forL (gTurn gRd body_read_numbers_1) (enumL n (ps.map fun l => .str (S l))) [x0, some (.ref k), a, b] cs = .exn "BadRow" [("place", .int (i : Int)), ("row", .int 0)] [x0, some (.ref k), a', b'] cs' ∧ Fr k cs cs'
  | [], n, acc, a, b, cs, hk, _, _ => by
    refine ⟨a, b, ?_⟩
    show RS.nx _ cs = _
    have : cs.set k (.lst (acc ++ [])) = cs := by
      rw [List.append_nil]
      apply List.ext_getElem?
      intro j
      by_cases hj : k = j
      · subst hj
        rw [List.getElem?_set_self (List.getElem?_eq_some_iff.mp hk).1, hk]
      · rw [List.getElem?_set_ne hj]
    simp only [List.map_nil]
    rw [this]
  | l :: ps, n, acc, a, b, cs, hk, hl, hp => by
    have hn := num_ok (l := l) (hp l List.mem_cons_self) cs
    have kl := (List.getElem?_eq_some_iff.mp hk).1
    simp only [List.length_cons] at hl
    unfold firstBad
    rw [List.map_cons, enumL_cons]
    cases hi : isNum l with
    | false =>
      rw [if_neg Bool.false_ne_true]
      rw [hi] at hn
      refine ⟨some (.int (n : Int)), some (.str (S l)), cs, ?_, Fr.refl _ _⟩
      simp [forL, body_read_numbers_1, hn, RS.turn]
    | true =>
      rw [if_pos rfl]
      rw [hi] at hn
      obtain ⟨h1, h2⟩ := int_of_num hi
      have hv := v_intAS (cs := cs) h1 h2
      have ha := v_append (cs := cs) hk (by omega) (.int (val l))
      have ih := rd_loop (x0 := x0) ps (n + 1) (acc ++ [.int (val l)]) (some (.int (n : Int))) (some (.str (S l))) (cs.set k (.lst (acc ++ [.int (val l)]))) (List.getElem?_set_self kl) (by rw [List.length_append]; simp only [List.length_cons, List.length_nil]; omega) (fun l' h' => hp l' (List.mem_cons_of_mem _ h'))
      have step : forL (gTurn gRd body_read_numbers_1) (.tup [.int (n : Int), .str (S l)] :: enumL (n + 1) (ps.map fun l => .str (S l))) [x0, some (.ref k), a, b] cs = forL (gTurn gRd body_read_numbers_1) (enumL (n + 1) (ps.map fun l => .str (S l))) [x0, some (.ref k), some (.int (n : Int)), some (.str (S l))] (cs.set k (.lst (acc ++ [.int (val l)]))) := by
        simp [forL, body_read_numbers_1, hn, hv, ha, v_tyList hk, RS.turn]
      rw [step]
      cases hb : firstBad (n + 1) ps with
      | none =>
        rw [hb] at ih
        obtain ⟨a', b', e⟩ := ih
        refine ⟨a', b', ?_⟩
        rw [e, List.set_set]
        simp
      | some i =>
        rw [hb] at ih
        obtain ⟨a', b', cs', e, f⟩ := ih
        exact ⟨a', b', cs', e, (Fr.set _ _ _).trans f⟩
/-! ### the parts of a text -/
def prt (t : List Nat) : List (List Nat) := TL.spl [32] 0 [] t
def tot (ps : List (List Nat)) : Nat := (ps.map fun p => p.length + 1).sum
theorem pre32 (c : Nat) (r : List Nat) : TL.pre [32] (c :: r) = (c == 32) := by
  show ([c] == [32]) = _
  by_cases e : c = 32 <;> simp [e]
theorem spl_tot : ∀ (l acc : List Nat), tot (TL.spl [32] 0 acc l) = acc.length + l.length + 1
  | [], acc => by rw [TL.spl_nil]; simp [tot]
  | c :: r, acc => by
    cases h : TL.pre [32] (c :: r) with
    | true =>
      rw [TL.spl_hit h]
      have := spl_tot r []
      show (acc.length + 1) + tot (TL.spl [32] 0 [] r) = _
      rw [this]; simp; omega
    | false =>
      rw [TL.spl_miss h, spl_tot r (acc ++ [c])]
      simp; omega
theorem spl_mem : ∀ (l acc p : List Nat), p ∈ TL.spl [32] 0 acc l → ∀ c ∈ p, c ∈ acc ∨ c ∈ l
  | [], acc, p, h => by
    rw [TL.spl_nil] at h
    have : p = acc := by simpa using h
    subst this
    exact fun c hc => .inl hc
  | a :: r, acc, p, h => by
    cases hh : TL.pre [32] (a :: r) with
    | true =>
      rw [TL.spl_hit hh] at h
      rcases List.mem_cons.mp h with h | h
      · subst h; exact fun c hc => .inl hc
      · intro c hc
        rcases spl_mem r [] p h c hc with h | h
        · simp at h
        · exact .inr (List.mem_cons_of_mem _ h)
    | false =>
      rw [TL.spl_miss hh] at h
      intro c hc
      rcases spl_mem r (acc ++ [a]) p h c hc with h | h
      · rcases List.mem_append.mp h with h | h
        · exact .inl h
        · exact .inr (by simp at h; simp [h])
      · exact .inr (List.mem_cons_of_mem _ h)
theorem tot_mem : ∀ {ps : List (List Nat)} {p : List Nat}, p ∈ ps → p.length + 1 ≤ tot ps
  | q :: ps, p, h => by
    have e : tot (q :: ps) = q.length + 1 + tot ps := rfl
    rcases List.mem_cons.mp h with h | h
    · subst h; omega
    · have := tot_mem h; omega
theorem tot_len : ∀ (ps : List (List Nat)), ps.length ≤ tot ps
  | [] => Nat.zero_le _
  | q :: ps => by
    have e : tot (q :: ps) = q.length + 1 + tot ps := rfl
    have := tot_len ps
    rw [List.length_cons]; omega
theorem prt_tot (t : List Nat) : tot (prt t) = t.length + 1 := by
  have := spl_tot t []
  simpa [prt] using this
theorem prt_len {t p : List Nat} (h : p ∈ prt t) : p.length ≤ t.length := by
  have := tot_mem h
  rw [prt_tot] at this; omega
theorem prt_many (t : List Nat) : (prt t).length ≤ t.length + 1 := by
  have := tot_len (prt t)
  rwa [prt_tot] at this
theorem prt_sg {t p : List Nat} (ht : Sg t) (h : p ∈ prt t) : Sg p := fun c hc => by
  rcases spl_mem t [] p h c hc with h | h
  · simp at h
  · exact ht c h
/-! ### read_numbers -/
abbrev noneL : List Nat := [110, 111, 110, 101]
abbrev strL (ps : List (List Nat)) : List Pv := ps.map fun l => .str (S l)
theorem isFz_strL (ps : List (List Nat)) : isFz (.lst (strL ps)) = true := rfl
theorem read_go {t : List Nat} (h : t.length ≤ 1000000) (hn : t ≠ noneL) (cs : Cells) :
    m_read_numbers [.str (S t)] cs = fnOut ((forL (gTurn gRd body_read_numbers_1) (enumL 0 (strL (prt t))) [some (.str (S t)), some (.ref cs.length), none, none] (cs ++ [.lst []])).then (sRet (fVar 1))) := by
  have hb : (t == noneL) = false := by simpa using hn
  have hs := v_split (cs := cs ++ [Co.lst []]) h
  have f0 : fits 0 = true := rfl
  have hs : mSplit (.str (S t)) [.str (S [32])] (cs ++ [Co.lst []]) = .ok (.lst (strL (prt t))) (cs ++ [Co.lst []]) := hs
  obtain ⟨L, hL⟩ : ∃ L, strL (prt t) = L := ⟨_, rfl⟩
  rw [hL] at hs ⊢
  simp [m_read_numbers, body_read_numbers, hb, hs, f0]
theorem read_none (cs : Cells) : m_read_numbers [.str (S noneL)] cs = .ok (.ref cs.length) (cs ++ [.lst []]) := by
  have f0 : fits 0 = true := rfl
  simp [m_read_numbers, body_read_numbers, f0]
theorem read_ok {t : List Nat} (h : t.length ≤ 1000000) (hn : t ≠ noneL) (hb : firstBad 0 (prt t) = none) (cs : Cells) : m_read_numbers [.str (S t)] cs = .ok (.ref cs.length) (cs ++ [.lst ((prt t).map fun l => .int (val l))]) := by
  have hk : (cs ++ [Co.lst []])[cs.length]? = some (.lst []) := by simp
  have hm := prt_many t
  have q := rd_loop (k := cs.length) (x0 := some (.str (S t))) (prt t) 0 [] none none (cs ++ [.lst []]) hk (by simp only [List.length_nil]; omega) (fun l hl => by have := prt_len hl; omega)
  rw [hb] at q
  obtain ⟨a, b, e⟩ := q
  rw [read_go h hn, e]
  simp
theorem read_bad {t : List Nat} (h : t.length ≤ 1000000) (hn : t ≠ noneL) {i : Nat} (hb : firstBad 0 (prt t) = some i) (cs : Cells) : ∃ cs', m_read_numbers [.str (S t)] cs = .exn "BadRow" [("place", .int (i : Int)), ("row", .int 0)] cs' ∧ F0 cs cs' := by
  have hk : (cs ++ [Co.lst []])[cs.length]? = some (.lst []) := by simp
  have hm := prt_many t
  have q := rd_loop (k := cs.length) (x0 := some (.str (S t))) (prt t) 0 [] none none (cs ++ [.lst []]) hk (by simp only [List.length_nil]; omega) (fun l hl => by have := prt_len hl; omega)
  rw [hb] at q
  obtain ⟨a, b, cs', e, f⟩ := q
  refine ⟨cs', ?_, ?_⟩
  · rw [read_go h hn, e]
    simp
  · exact ⟨by have := f.len; simp at this; omega, fun j hj => (f.at_ j (by simp; omega) (by omega)).trans (List.getElem?_append_left hj)⟩
/-! ### told and due -/
def dat (t : List Nat) : PyData := if t = noneL then .list [] else match firstBad 0 (prt t) with
  | none => .list ((prt t).map fun l => .int (val l))
  | some i => .tuple [.str (S [114, 111, 119]), .int 0, .int (i : Int)]
theorem dat_shp (t : List Nat) : Shp 1 (dat t) := by
  unfold dat
  split
  · exact Shp.list (n := 0) fun d hd => by simp at hd
  · split
    · exact Shp.list (n := 0) fun d hd => by
        obtain ⟨l, _, rfl⟩ := List.mem_map.mp hd
        exact Shp.int _
    · refine Shp.tuple (n := 0) fun d hd => ?_
      rcases List.mem_cons.mp hd with rfl | hd
      · exact Shp.str (by unfold Sg; decide)
      · rcases List.mem_cons.mp hd with rfl | hd
        · exact Shp.int _
        · rcases List.mem_cons.mp hd with rfl | hd
          · exact Shp.int _
          · simp at hd
theorem toPy_ints (ls : List (List Nat)) : toPy (.lst (ls.map fun l => .int (val l))) = some (.list (ls.map fun l => .int (val l))) := toPy_lst (toPys_map fun x _ => rfl)
theorem told_ok {t : List Nat} (h : t.length ≤ 1000000) (cs : Cells) : ∃ v cs', m_law_told [.str (S t)] cs = .ok v cs' ∧ F0 cs cs' ∧ toPy (deref cs' v) = some (dat t) := by
  unfold dat
  by_cases hn : t = noneL
  · subst hn
    refine ⟨.ref cs.length, cs ++ [.lst []], ?_, F0.app _ _, ?_⟩
    · simp [m_law_told, body_law_told, read_none]
    · rw [if_pos rfl, deref_ref (xs := []) (by simp)]; rfl
  · rw [if_neg hn]
    cases hb : firstBad 0 (prt t) with
    | none =>
      have e := read_ok h hn hb cs
      refine ⟨.ref cs.length, _, ?_, F0.app _ [.lst ((prt t).map fun l => .int (val l))], ?_⟩
      · simp [m_law_told, body_law_told, e]
      · rw [deref_ref (xs := (prt t).map fun l => .int (val l)) (by simp)]
        exact toPy_ints _
    | some i =>
      obtain ⟨cs', e, f⟩ := read_bad h hn hb cs
      refine ⟨.tup [.str (S [114, 111, 119]), .int 0, .int (i : Int)], cs', ?_, f, rfl⟩
      have f3 : fits 3 = true := rfl
      simp [m_law_told, body_law_told, e, f3]
abbrev gDu : FG := gT 2 (gsCons (gN 1) (gsCons (gN 2) gsNil))
theorem du_loop {x0 : Option Pv} {cs : Cells} : ∀ (ps : List (List Nat)) (n : Nat) (a b : Option Pv), (∀ l ∈ ps, l.length ≤ 1000000 ∧ Sg l) →
    match firstBad n ps with
    | none => ∃ a' b', forL (gTurn gDu body_law_due_1) (enumL n (strL ps)) [x0, a, b] cs = .nx [x0, a', b'] cs
    | some i => forL (gTurn gDu body_law_due_1) (enumL n (strL ps)) [x0, a, b] cs = .rt (.tup [.str (S [114, 111, 119]), .int 0, .int (i : Int)]) cs
  | [], n, a, b, _ => ⟨a, b, rfl⟩
  | l :: ps, n, a, b, hp => by
    obtain ⟨hl, hs⟩ := hp l List.mem_cons_self
    have hn := num2_ok (l := l) hl hs cs
    rw [isNum_eq] at hn
    unfold firstBad
    show match (if isNum l = true then firstBad (n + 1) ps else some n) with
      | none => ∃ a' b', forL (gTurn gDu body_law_due_1) (enumL n (.str (S l) :: strL ps)) [x0, a, b] cs = .nx [x0, a', b'] cs
      | some i => forL (gTurn gDu body_law_due_1) (enumL n (.str (S l) :: strL ps)) [x0, a, b] cs = .rt (.tup [.str (S [114, 111, 119]), .int 0, .int (i : Int)]) cs
    rw [enumL_cons]
    have f3 : fits 3 = true := rfl
    cases hi : isNum l with
    | false =>
      rw [if_neg Bool.false_ne_true]
      rw [hi] at hn
      simp [forL, body_law_due_1, hn, f3, RS.turn]
    | true =>
      rw [if_pos rfl]
      rw [hi] at hn
      have ih := du_loop (x0 := x0) (cs := cs) ps (n + 1) (some (.int (n : Int))) (some (.str (S l))) (fun l' h' => hp l' (List.mem_cons_of_mem _ h'))
      have step : forL (gTurn gDu body_law_due_1) (.tup [.int (n : Int), .str (S l)] :: enumL (n + 1) (strL ps)) [x0, a, b] cs = forL (gTurn gDu body_law_due_1) (enumL (n + 1) (strL ps)) [x0, some (.int (n : Int)), some (.str (S l))] cs := by
        simp [forL, body_law_due_1, hn, RS.turn]
      rw [step]
      exact ih
theorem firstBad_all : ∀ {ps : List (List Nat)} {n : Nat}, firstBad n ps = none → ∀ l ∈ ps, isNum l = true
  | [], _, _, l, h => by simp at h
  | q :: ps, n, hb, l, h => by
    unfold firstBad at hb
    split at hb
    · rename_i hq
      rcases List.mem_cons.mp h with h | h
      · subst h; exact hq
      · exact firstBad_all hb l h
    · cases hb
theorem due_ok {t : List Nat} (h : t.length ≤ 1000000) (hs : Sg t) (cs : Cells) : ∃ v, m_law_due [.str (S t)] cs = .ok v cs ∧ toPy (deref cs v) = some (dat t) := by
  unfold dat
  have f0 : fits 0 = true := rfl
  by_cases hn : t = noneL
  · subst hn
    refine ⟨.lst [], ?_, ?_⟩
    · simp [m_law_due, body_law_due, f0]
    · rw [if_pos rfl]; rfl
  · rw [if_neg hn]
    have hb0 : (t == noneL) = false := by simpa using hn
    have hsp : mSplit (.str (S t)) [.str (S [32])] cs = .ok (.lst (strL (prt t))) cs := v_split (cs := cs) h
    have q := du_loop (x0 := some (.str (S t))) (cs := cs) (prt t) 0 none none (fun l hl => ⟨by have := prt_len hl; omega, prt_sg hs hl⟩)
    cases hb : firstBad 0 (prt t) with
    | none =>
      rw [hb] at q
      obtain ⟨a, b, e⟩ := q
      have hc : fLc (iAny (fMeth "str" mSplit (fVar 0) (fCons (fCon (.str (S [32]))) fNil))) (gN 2) fYes (fCall mIntA (fCons (fVar 2) fNil)) [2] [some (.str (S t)), a, b] cs = .ok (.lst ((prt t).map fun l => .int (val l))) cs := by
        refine fLc_map (L := prt t) (f := fun l => .str (S l)) (h := fun l => .int (val l)) (by simp [hsp]) (by have := prt_many t; omega) fun l hl => ?_
        obtain ⟨h1, h2⟩ := int_of_num (firstBad_all hb l hl)
        simp [v_intAS (cs := cs) h1 h2]
      refine ⟨.lst ((prt t).map fun l => .int (val l)), ?_, toPy_ints _⟩
      obtain ⟨L, hL⟩ : ∃ L, strL (prt t) = L := ⟨_, rfl⟩
      rw [hL] at hsp e
      obtain ⟨M, hM⟩ : ∃ M, ((prt t).map fun l => Pv.int (val l)) = M := ⟨_, rfl⟩
      rw [hM] at hc ⊢
      simp [m_law_due, body_law_due, hb0, hsp, e, hc]
    | some i =>
      rw [hb] at q
      refine ⟨.tup [.str (S [114, 111, 119]), .int 0, .int (i : Int)], ?_, rfl⟩
      obtain ⟨L, hL⟩ : ∃ L, strL (prt t) = L := ⟨_, rfl⟩
      rw [hL] at hsp q
      simp [m_law_due, body_law_due, hb0, hsp, q]
end Lw

set_option Elab.async false
set_option linter.all false
set_option autoImplicit false
set_option maxRecDepth 100000
set_option maxHeartbeats 4000000
namespace Lw
open PySem AL
theorem joinL_len : ∀ ps : List (List Nat), (TL.joinL [32] ps).length ≤ tot ps
  | [] => by simp [TL.joinL]
  | [p] => by simp [TL.joinL, tot]
  | p :: q :: r => by
    have := joinL_len (q :: r)
    have e : tot (p :: q :: r) = p.length + 1 + tot (q :: r) := rfl
    show (p ++ ([32] ++ TL.joinL [32] (q :: r))).length ≤ _
    simp only [List.length_append, List.length_singleton]; omega
theorem joinL_sg : ∀ ps : List (List Nat), (∀ p ∈ ps, Sg p) → Sg (TL.joinL [32] ps)
  | [], _ => by intro c hc; simp [TL.joinL] at hc
  | [p], h => h p (by simp)
  | p :: q :: r, h => by
    intro c hc
    have hc : c ∈ p ++ ([32] ++ TL.joinL [32] (q :: r)) := hc
    rcases List.mem_append.mp hc with hc | hc
    · exact h p List.mem_cons_self c hc
    · rcases List.mem_append.mp hc with hc | hc
      · have : c = 32 := by simpa using hc
        omega
      · exact joinL_sg (q :: r) (fun p hp => h p (List.mem_cons_of_mem _ hp)) c hc
theorem tot_app (a b : List (List Nat)) : tot (a ++ b) = tot a + tot b := by simp [tot]
theorem tot_split (ps : List (List Nat)) (n : Nat) : tot ps = tot (ps.take n) + tot (ps.drop n) := by rw [← tot_app, List.take_append_drop]
theorem tot_sum : ∀ ls : List (List Nat), (ls.map (·.length)).sum + ls.length * 1 = tot ls
  | [] => rfl
  | l :: ls => by
    have := tot_sum ls
    have e : tot (l :: ls) = l.length + 1 + tot ls := rfl
    simp only [List.map_cons, List.sum_cons, List.length_cons]; omega
theorem join_ok {ls : List (List Nat)} (h : tot ls ≤ 1000000) (cs : Cells) : mJoin (.str (S [32])) [.lst (strL ls)] cs = .ok (.str (S (TL.joinL [32] ls))) cs :=
  v_join (by have := tot_sum ls; show (ls.map (·.length)).sum + ls.length * 1 ≤ _; omega)
def poolA : List (List Nat) := [[48], [45, 48], [48, 48], [48, 55], [45, 55], [45, 45, 55], [43, 55], [55, 45], [], noneL, [97], [49, 46, 48], [45], repS [57] 30, repS [57] 31]
def poolB : List (List Nat) := [[45] ++ repS [57] 30, [45] ++ repS [49] 31, repS [55] 5000, repS [48] 5000, [120, 49]]
theorem repS_len (c n : Nat) : (repS [c] n).length = n := by
  unfold repS; simp
theorem repS_mem {c n x : Nat} (h : x ∈ repS [c] n) : x = c := by
  unfold repS at h; simp at h; exact h.2
theorem pool_at {d : Int} (h0 : 0 ≤ d) (h1 : d < 20) : ∃ p, L2.atI (strL (poolA ++ poolB)) d = some (.str (S p)) ∧ p.length ≤ 5000 ∧ Sg p := by
  obtain ⟨n, rfl⟩ : ∃ n : Nat, d = (n : Int) := ⟨d.toNat, by omega⟩
  have hn : n < (poolA ++ poolB).length := by
    have : (poolA ++ poolB).length = 20 := rfl
    omega
  refine ⟨(poolA ++ poolB)[n], L2.atI_nat (by rw [List.getElem?_map, List.getElem?_eq_getElem hn]; rfl), ?_⟩
  have key : ∀ p ∈ poolA ++ poolB, p.length ≤ 5000 ∧ Sg p := by
    intro p hp
    have hr : ∀ c n, n ≤ 5000 → c < 1114112 → (repS [c] n).length ≤ 5000 ∧ Sg (repS [c] n) := fun c n h1 h2 => ⟨by rw [repS_len]; exact h1, fun x hx => by rw [repS_mem hx]; exact h2⟩
    have hr2 : ∀ c n, n ≤ 4999 → c < 1114112 → ([45] ++ repS [c] n).length ≤ 5000 ∧ Sg ([45] ++ repS [c] n) := fun c n h1 h2 => ⟨by rw [List.length_append, repS_len]; simp; omega, fun x hx => by
      rcases List.mem_append.mp hx with hx | hx
      · have : x = 45 := by simpa using hx
        omega
      · rw [repS_mem hx]; exact h2⟩
    have sm : ∀ l : List Nat, l.length ≤ 5000 → l.all (fun c => decide (c < 1114112)) = true → l.length ≤ 5000 ∧ Sg l := fun l h1 h2 => ⟨h1, fun c hc => of_decide_eq_true (List.all_eq_true.mp h2 c hc)⟩
    simp only [poolA, poolB, List.cons_append, List.nil_append, List.mem_cons, List.not_mem_nil, or_false] at hp
    rcases hp with h | h | h | h | h | h | h | h | h | h | h | h | h | h | h | h | h | h | h | h <;> rw [h]
    all_goals first
      | exact hr _ _ (by decide) (by decide)
      | exact hr2 57 30 (by decide) (by decide)
      | exact hr2 49 31 (by decide) (by decide)
      | exact sm _ (by decide) (by decide)
  exact key _ (List.getElem_mem hn)
theorem number_ok {cs : Cells} {k : Nat} (h : G3 cs k) : ∃ z cs', m_law_number [.ref k] cs = .ok (.int z) cs' ∧ z.natAbs < 10 ^ 30 ∧ G3 cs' k ∧ Fr k cs cs' := by
  obtain ⟨d1, c1, e1, a1, b1, g1, f1⟩ := digit_ok h (n := 8) (by decide) (by decide)
  by_cases hk : d1 < 4
  · obtain ⟨d2, c2, e2, a2, b2, g2, f2'⟩ := digit_ok g1 (n := 12) (by decide) (by decide)
    exact ⟨d2 - 5, c2, by simp [m_law_number, body_law_number, e1, e2, hk], by omega, g2, f1.trans f2'⟩
  · obtain ⟨d3, c3, e3, a3, b3, g3, f3⟩ := digit_ok g1 (n := 1000000000) (by decide) (by decide)
    obtain ⟨d4, c4, e4, a4, b4, g4, f4⟩ := digit_ok g3 (n := 1000) (by decide) (by decide)
    have p9 : powOk 10 9 = true := by decide +kernel
    have p30 : powOk 10 30 = true := by decide +kernel
    have p29 : powOk 10 29 = true := by decide +kernel
    have hm : mulOk d3 1000000000 = true := mul_ok (a := 40) (b := 60) (by omega) (by decide) (by decide) (by decide) (by decide)
    have run : ∀ v, L2.atI [Pv.int (1000000000000000000000000000000 - 1), Pv.int (0 - 100000000000000000000000000000), Pv.int (d3 * 1000000000), Pv.int (0 - d4)] (d1 - 4) = some v → m_law_number [.ref k] cs = .ok v c4 := fun v hv => by
      simp at hv
      simp [m_law_number, body_law_number, e1, e3, e4, hk, p9, p29, p30, hm, fits, hv]
    have hd : d1 = 4 ∨ d1 = 5 ∨ d1 = 6 ∨ d1 = 7 := by omega
    have fr := (f1.trans f3).trans f4
    rcases hd with rfl | rfl | rfl | rfl
    · exact ⟨_, c4, run _ rfl, by decide, g4, fr⟩
    · exact ⟨_, c4, run _ rfl, by decide, g4, fr⟩
    · exact ⟨_, c4, run _ rfl, by omega, g4, fr⟩
    · exact ⟨_, c4, run _ rfl, by omega, g4, fr⟩
theorem strL_app (a b : List (List Nat)) : strL a ++ strL b = strL (a ++ b) := by simp [strL]
theorem strL_take (a : List (List Nat)) (n : Nat) : (strL a).take n = strL (a.take n) := by simp [strL, List.map_take]
theorem strL_drop (a : List (List Nat)) (n : Nat) : (strL a).drop n = strL (a.drop n) := by simp [strL, List.map_drop]
end Lw

set_option Elab.async false
set_option linter.all false
set_option autoImplicit false
set_option maxRecDepth 100000
set_option maxHeartbeats 4000000
namespace Lw
open PySem AL
theorem prt_pos (t : List Nat) : 1 ≤ (prt t).length := by
  have h := prt_tot t
  cases hp : prt t with
  | nil => rw [hp] at h; simp [tot] at h
  | cons a b => simp
theorem tot_one (p : List Nat) : tot [p] = p.length + 1 := by simp [tot]
theorem changed_ok {cs : Cells} {k : Nat} (h : G3 cs k) {t : List Nat} (ht : t.length ≤ 100000) (hs : Sg t) :
    ∃ t' cs', m_law_changed [.ref k, .str (S t)] cs = .ok (.str (S t')) cs' ∧ t'.length ≤ 2 * t.length + 6000 ∧ Sg t' ∧ G3 cs' k ∧ Fr k cs cs' := by
  obtain ⟨d1, c1, e1, a1, b1, g1, f1⟩ := digit_ok h (n := 6) (by decide) (by decide)
  have hsp : ∀ cs, mSplit (.str (S t)) [.str (S [32])] cs = .ok (.lst (strL (prt t))) cs := fun cs => v_split (cs := cs) (by omega)
  have l1 := prt_pos t
  have l2 := prt_many t
  have hL : (strL (prt t)).length = (prt t).length := by simp [strL]
  obtain ⟨at_, c2, e2, a2, b2, g2, f2'⟩ := digit_ok g1 (n := ((prt t).length : Int)) (by omega) (by
    have : ((prt t).length : Int).natAbs < 2 ^ 20 := by omega
    omega)
  obtain ⟨d3, c3, e3, a3, b3, g3, f3⟩ := digit_ok g2 (n := 20) (by decide) (by decide)
  obtain ⟨p, hp, hpl, hps⟩ := pool_at a3 b3
  obtain ⟨i, rfl⟩ : ∃ i : Nat, at_ = (i : Int) := ⟨at_.toNat, by omega⟩
  have fr := (f1.trans f2').trans f3
  have hp2 : L2.atI ((strL poolA) ++ (strL poolB)) d3 = some (.str (S p)) := by rw [strL_app]; exact hp
  have ct := tot_split (prt t) i
  have ct1 := tot_split (prt t) (i + 1)
  have tt := prt_tot t
  have sgp : ∀ q ∈ prt t, Sg q := fun q hq => prt_sg hs hq
  have sub : ∀ n, ∀ q, (q ∈ (prt t).take n ∨ q ∈ (prt t).drop n) → Sg q := fun n q hq => by
    rcases hq with hq | hq
    · exact sgp q (List.mem_of_mem_take hq)
    · exact sgp q (List.mem_of_mem_drop hq)
  have hi1 : (i : Int) + 1 = ((i + 1 : Nat) : Int) := by omega
  have lenT : ∀ l : List (List Nat), (strL l).length = l.length := fun l => by simp [strL]
  have eA : [Pv.str (S [48]), Pv.str (S [45, 48]), Pv.str (S [48, 48]), Pv.str (S [48, 55]), Pv.str (S [45, 55]), Pv.str (S [45, 45, 55]), Pv.str (S [43, 55]), Pv.str (S [55, 45]), Pv.str (S []), Pv.str (S [110, 111, 110, 101]), Pv.str (S [97]), Pv.str (S [49, 46, 48]), Pv.str (S [45]), Pv.str (S (repS [57] 30)), Pv.str (S (repS [57] 31))] = strL poolA := rfl
  have eB : [Pv.str (S (45 :: repS [57] 30)), Pv.str (S (45 :: repS [49] 31)), Pv.str (S (repS [55] 5000)), Pv.str (S (repS [48] 5000)), Pv.str (S [120, 49])] = strL poolB := rfl
  have lAB : (strL poolA).length + (strL poolB).length = 20 := rfl
  have ln1 : (repS [57] 30).length = 30 := repS_len _ _
  have ln2 : (repS [49] 31).length = 31 := repS_len _ _
  have jn : ∀ (ls : List (List Nat)) cs, tot ls ≤ 1000000 → mJoin (.str (S [32])) [.lst (strL ls)] cs = .ok (.str (S (TL.joinL [32] ls))) cs := fun ls cs h => join_ok h cs
  have hd : d1 = 0 ∨ d1 = 1 ∨ d1 = 2 ∨ d1 = 3 ∨ d1 = 4 ∨ d1 = 5 := by omega
  have lt1 := (prt t).length_take_le i
  have fitsN : ∀ n, n ≤ 1000000 → fits n = true := fun n h => fits_ok (by omega)
  have lastCase : ∀ j : Nat, (j = i ∨ j = i + 1) → let t' := TL.joinL [32] ((prt t).take i ++ [p] ++ (prt t).drop j)
      tot ((prt t).take i ++ [p] ++ (prt t).drop j) ≤ 1000000 ∧ t'.length ≤ 2 * t.length + 6000 ∧ Sg t' := fun j hj => by
    have hb : tot ((prt t).take i ++ [p] ++ (prt t).drop j) ≤ t.length + 1 + 5001 := by
      rw [tot_app, tot_app, tot_one]
      rcases hj with rfl | rfl
      · omega
      · have : tot ((prt t).take i) ≤ tot ((prt t).take (i + 1)) := by
          have := tot_split ((prt t).take (i + 1)) i
          rw [List.take_take, Nat.min_eq_left (by omega)] at this
          omega
        omega
    refine ⟨by omega, ?_, joinL_sg _ fun q hq => ?_⟩
    · have := joinL_len ((prt t).take i ++ [p] ++ (prt t).drop j)
      omega
    · rcases List.mem_append.mp hq with hq | hq
      · rcases List.mem_append.mp hq with hq | hq
        · exact sub _ q (.inl hq)
        · have : q = p := by simpa using hq
          subst this; exact hps
      · exact sub _ q (.inr hq)
  have lA : poolA.length = 15 := rfl
  have lB : poolB.length = 5 := rfl
  have fl : fits 15 = true ∧ fits 5 = true ∧ fits 20 = true ∧ fits 30 = true ∧ fits 31 = true ∧ fits 5000 = true ∧ fits 32 = true ∧ fits 1 = true ∧ fits 0 = true := ⟨rfl, rfl, rfl, rfl, rfl, rfl, rfl, rfl, rfl⟩
  obtain ⟨q15, q5, q20, q30, q31, q5000, q32, q1, q0⟩ := fl
  have cT : ∀ n : Nat, cut (strL (prt t)) none (some (n : Int)) = strL ((prt t).take n) := fun n => by rw [cut_to, strL_take]
  have cD : ∀ n : Nat, cut (strL (prt t)) (some (n : Int)) none = strL ((prt t).drop n) := fun n => by rw [cut_from, strL_drop]
  have c45 : ∀ l : List Nat, [45] ++ l = 45 :: l := fun l => rfl
  have addL : ∀ (a b : List (List Nat)) cs, tot a ≤ 1000000 → tot b ≤ 1000000 → oAdd (.lst (strL a)) (.lst (strL b)) cs = .ok (.lst (strL (a ++ b))) cs := fun a b cs h1 h2 => by
    have := tot_len a
    have := tot_len b
    rw [v_addL, lenT, lenT, guard_of (fits_ok (by omega)), strL_app]
  have lenA : (strL poolA).length = 15 := rfl
  have lenB : (strL poolB).length = 5 := rfl
  have hAB : ∀ cs, oAdd (.lst (strL poolA)) (.lst (strL poolB)) cs = .ok (.lst (strL (poolA ++ poolB))) cs := fun cs => by
    rw [v_addL, lenT, lenT, guard_of (fits_ok (by rw [lA, lB]; decide)), strL_app]
  have l20 : (strL (poolA ++ poolB)).length = 20 := rfl
  have slT : ∀ (n : Nat) cs, oSlc (.lst (strL (prt t))) none (some (n : Int)) cs = .ok (.lst (strL ((prt t).take n))) cs := fun n cs => by rw [v_slcL, cT]
  have slD : ∀ (n : Nat) cs, oSlc (.lst (strL (prt t))) (some (n : Int)) none cs = .ok (.lst (strL ((prt t).drop n))) cs := fun n cs => by rw [v_slcL, cD]
  have slD1 : ∀ cs, oSlc (.lst (strL (prt t))) (some ((i : Int) + 1)) none cs = .ok (.lst (strL ((prt t).drop (i + 1)))) cs := fun cs => slD (i + 1) cs
  have slT1 : ∀ cs, oSlc (.lst (strL (prt t))) none (some ((i : Int) + 1)) cs = .ok (.lst (strL ((prt t).take (i + 1)))) cs := fun cs => slT (i + 1) cs
  have mono1 : tot ((prt t).take i) ≤ tot ((prt t).take (i + 1)) := by
    have := tot_split ((prt t).take (i + 1)) i
    rw [List.take_take, Nat.min_eq_left (by omega)] at this
    omega
  generalize hM : prt t = M at *
  generalize hP : poolA ++ poolB = P at *
  rcases hd with rfl | rfl | rfl | hd
  · have hb : tot (M.take i ++ M.drop (i + 1)) ≤ 2 * t.length + 2 := by
      rw [tot_app]; omega
    refine ⟨TL.joinL [32] (M.take i ++ M.drop (i + 1)), c3, ?_, ?_, joinL_sg _ fun q hq => ?_, g3, fr⟩
    · have hj := jn (M.take i ++ M.drop (i + 1)) c3 (by omega)
      have ha := addL (M.take i) (M.drop (i + 1)) c3 (by omega) (by omega)
      simp [m_law_changed, body_law_changed, e1, hsp, hL, e2, repS_len, eA, eB, S_append, lA, lB, lenA, lenB, q15, q5, q20, q30, q31, q5000, q32, hAB, l20, e3, hp, slT, slD, slD1, ha, hj, -v_slcL, -v_addL, -v_addS, -List.map_append, -List.map_take, -List.map_drop, -List.length_map, -List.map_map]
    · have := joinL_len (M.take i ++ M.drop (i + 1)); omega
    · rcases List.mem_append.mp hq with hq | hq
      · exact sub _ q (.inl hq)
      · exact sub _ q (.inr hq)
  · have hb : tot (M.take (i + 1) ++ M.drop i) ≤ 2 * t.length + 2 := by
      rw [tot_app]; omega
    refine ⟨TL.joinL [32] (M.take (i + 1) ++ M.drop i), c3, ?_, ?_, joinL_sg _ fun q hq => ?_, g3, fr⟩
    · have hj := jn (M.take (i + 1) ++ M.drop i) c3 (by omega)
      have ha := addL (M.take (i + 1)) (M.drop i) c3 (by omega) (by omega)
      simp [m_law_changed, body_law_changed, e1, hsp, hL, e2, repS_len, eA, eB, S_append, lA, lB, lenA, lenB, q15, q5, q20, q30, q31, q5000, q32, hAB, l20, e3, hp, slT, slD, slT1, ha, hj, -v_slcL, -v_addL, -v_addS, -List.map_append, -List.map_take, -List.map_drop, -List.length_map, -List.map_map]
    · have := joinL_len (M.take (i + 1) ++ M.drop i); omega
    · rcases List.mem_append.mp hq with hq | hq
      · exact sub _ q (.inl hq)
      · exact sub _ q (.inr hq)
  · obtain ⟨d4, c4, e4, a4, b4, g4, f4⟩ := digit_ok g3 (n := (t.length : Int) + 1) (by omega) (by
      have : ((t.length : Int) + 1).natAbs < 2 ^ 20 := by omega
      omega)
    obtain ⟨d5, c5, e5, a5, b5, g5, f5⟩ := digit_ok g4 (n := 5) (by decide) (by decide)
    obtain ⟨j, rfl⟩ : ∃ j : Nat, d4 = (j : Int) := ⟨d4.toNat, by omega⟩
    obtain ⟨w, hw, hwl, hws⟩ : ∃ w : List Nat, L2.atI [Pv.str (S []), Pv.str (S [32]), Pv.str (S [45]), Pv.str (S [48]), Pv.str (S [97])] d5 = some (.str (S w)) ∧ w.length ≤ 1 ∧ Sg w := by
      have hd : d5 = 0 ∨ d5 = 1 ∨ d5 = 2 ∨ d5 = 3 ∨ d5 = 4 := by omega
      rcases hd with rfl | rfl | rfl | rfl | rfl
      · exact ⟨[], rfl, by decide, fun c hc => by simp at hc⟩
      · exact ⟨[32], rfl, by decide, fun c hc => by simp at hc; omega⟩
      · exact ⟨[45], rfl, by decide, fun c hc => by simp at hc; omega⟩
      · exact ⟨[48], rfl, by decide, fun c hc => by simp at hc; omega⟩
      · exact ⟨[97], rfl, by decide, fun c hc => by simp at hc; omega⟩
    obtain ⟨m, hm, hmv⟩ : ∃ m : Nat, (j : Int) + (if w = [] then 1 else 0) = (m : Int) ∧ j ≤ m := by
      by_cases hz : w = []
      · exact ⟨j + 1, by rw [if_pos hz]; omega, by omega⟩
      · exact ⟨j, by rw [if_neg hz]; omega, by omega⟩
    have ft : fits t.length = true := fitsN _ (by omega)
    have lj : (t.take j).length ≤ t.length := by rw [List.length_take]; omega
    have ldm : (t.drop m).length ≤ t.length := by rw [List.length_drop]; omega
    have fa : fits (min j t.length + w.length) = true := fitsN _ (by omega)
    have fb : fits (min j t.length + w.length + (t.length - m)) = true := fitsN _ (by omega)
    refine ⟨t.take j ++ w ++ t.drop m, c5, ?_, ?_, fun c hc => ?_, g5, (fr.trans f4).trans f5⟩
    · simp [m_law_changed, body_law_changed, e1, hsp, hL, e2, repS_len, eA, eB, S_append, lA, lB, lenA, lenB, q15, q5, q20, q30, q31, q5000, q32, hAB, l20, e3, hp, e4, e5, ft, hw, hm, cut_to, cut_from, fa, fb, -v_addL, -v_addS, -List.map_append, -List.map_take, -List.map_drop, -List.length_map, -List.map_map]
    · simp only [List.length_append]; omega
    · rcases List.mem_append.mp hc with hc | hc
      · rcases List.mem_append.mp hc with hc | hc
        · exact hs c (List.mem_of_mem_take hc)
        · exact hws c hc
      · exact hs c (List.mem_of_mem_drop hc)
  · obtain ⟨j, hj, hjv⟩ : ∃ j : Nat, (i : Int) + d1.fmod 2 = (j : Int) ∧ (j = i ∨ j = i + 1) := by
      rcases hd with rfl | rfl | rfl
      · exact ⟨i + 1, rfl, .inr rfl⟩
      · exact ⟨i, by simp, .inl rfl⟩
      · exact ⟨i + 1, rfl, .inr rfl⟩
    obtain ⟨lb, l5, l6⟩ := lastCase j hjv
    have hne : (d1 == 0) = false ∧ (d1 == 1) = false ∧ (d1 == 2) = false := by
      rcases hd with rfl | rfl | rfl <;> decide
    obtain ⟨n0, n1, n2⟩ := hne
    refine ⟨TL.joinL [32] (M.take i ++ [p] ++ M.drop j), c3, ?_, l5, l6, g3, fr⟩
    rw [tot_app, tot_app] at lb
    have hj2 := jn (M.take i ++ [p] ++ M.drop j) c3 (by rw [tot_app, tot_app]; omega)
    have ha : oAdd (.lst (strL (M.take i))) (.lst [.str (S p)]) c3 = .ok (.lst (strL (M.take i ++ [p]))) c3 := addL (M.take i) [p] c3 (by omega) (by omega)
    have ha2 := addL (M.take i ++ [p]) (M.drop j) c3 (by rw [tot_app]; omega) (by omega)
    simp [m_law_changed, body_law_changed, e1, hsp, hL, e2, repS_len, eA, eB, S_append, lA, lB, lenA, lenB, q15, q5, q20, q30, q31, q5000, q32, q1, hAB, l20, e3, hp, n0, n1, n2, hj, slT, slD, ha, ha2, hj2, -v_slcL, -v_addL, -v_addS, -List.map_append, -List.map_take, -List.map_drop, -List.length_map, -List.map_map, -List.append_assoc]
end Lw

set_option Elab.async false
set_option linter.all false
set_option autoImplicit false
set_option maxRecDepth 100000
set_option maxHeartbeats 4000000
namespace Lw
open PySem AL
theorem eqA_data {v w : Pv} {cs : Cells} {d : PyData} (h1 : toPy (deref cs v) = some d) (h2 : toPy (deref cs w) = some d) (s : SeqAt.shaped d = true) (hd : ∀ x, d ≠ .str x) (neg : Bool) : eqA neg v w cs = .ok (.bl (!neg)) cs := by
  have : eqA neg v w cs = eqD neg v w cs := by
    cases v with
    | str x => cases h1; exact absurd rfl (hd x)
    | _ => rfl
  rw [this, v_eqSame h1 h2 s]
theorem dat_nostr (t : List Nat) (x : Str) : dat t ≠ .str x := by
  unfold dat
  split
  · intro h; cases h
  · split <;> intro h <;> cases h
theorem rest_ok {k : Nat} : ∀ (ps : List Pv) (t : List Nat) (cs : Cells) (x0 x1 x3 x4 x5 x7 x8 x9 : Option Pv), (t.length + 6000) * 2 ^ ps.length ≤ 100000 → Sg t → G3 cs k →
    ∃ t' cs' y8, forL (gTurn (gN 8) body_law_1) ps [x0, x1, some (.ref k), x3, x4, x5, some (.str (S t)), x7, x8, x9] cs = .nx [x0, x1, some (.ref k), x3, x4, x5, some (.str (S t')), x7, y8, x9] cs' ∧ t'.length ≤ 100000 ∧ Sg t'
  | [], t, cs, x0, x1, x3, x4, x5, x7, x8, x9, hl, hs, hg => ⟨t, cs, x8, rfl, by simp at hl; omega, hs⟩
  | v :: ps, t, cs, x0, x1, x3, x4, x5, x7, x8, x9, hl, hs, hg => by
    have hp : 1 ≤ 2 ^ ps.length := Nat.one_le_two_pow
    have hl2 : (t.length + 6000) * (2 ^ ps.length * 2) ≤ 100000 := hl
    have hb : t.length ≤ 100000 := by
      have : (t.length + 6000) * 1 ≤ (t.length + 6000) * (2 ^ ps.length * 2) := Nat.mul_le_mul_left _ (by omega)
      omega
    obtain ⟨t1, c1, e1, l1, s1, g1, f1⟩ := changed_ok hg hb hs
    have hb1 : (t1.length + 6000) * 2 ^ ps.length ≤ 100000 := by
      have h1 : (t1.length + 6000) * 2 ^ ps.length ≤ ((t.length + 6000) * 2) * 2 ^ ps.length := Nat.mul_le_mul_right _ (by omega)
      rw [Nat.mul_assoc, Nat.mul_comm 2] at h1
      omega
    obtain ⟨t2, c2, y8, e2, l2, s2⟩ := rest_ok ps t1 c1 x0 x1 x3 x4 x5 x7 (some v) x9 hb1 s1 g1
    refine ⟨t2, c2, y8, ?_, l2, s2⟩
    have step : gTurn (gN 8) body_law_1 v [x0, x1, some (.ref k), x3, x4, x5, some (.str (S t)), x7, x8, x9] cs = .nx [x0, x1, some (.ref k), x3, x4, x5, some (.str (S t1)), x7, some v, x9] c1 := by simp [body_law_1, e1]
    show (gTurn (gN 8) body_law_1 v _ cs).turn (forL (gTurn (gN 8) body_law_1) ps) = _
    rw [step]
    exact e2
def rowL (zs : List Int) : List Nat := if zs.isEmpty then [110, 111, 110, 101] else TL.joinL [32] (zs.map intL)
theorem prt_row {zs : List Int} (h : zs ≠ []) : prt (TL.joinL [32] (zs.map intL)) = zs.map intL := by
  refine TL.spl_join (by simpa using h) fun p hp => ?_
  obtain ⟨z, _, rfl⟩ := List.mem_map.mp hp
  exact intL_no32 z
theorem firstBad_none : ∀ (ls : List (List Nat)) (n : Nat), (∀ l ∈ ls, isNum l = true) → firstBad n ls = none
  | [], _, _ => rfl
  | l :: ls, n, h => by
    unfold firstBad
    rw [if_pos (h l List.mem_cons_self)]
    exact firstBad_none ls (n + 1) fun l' h' => h l' (List.mem_cons_of_mem _ h')
theorem row_ne {zs : List Int} (h : zs ≠ []) : TL.joinL [32] (zs.map intL) ≠ noneL := fun e => by
  have hp := prt_row h
  rw [e] at hp
  have hn : prt noneL = [noneL] := by decide
  rw [hn] at hp
  cases zs with
  | nil => exact h rfl
  | cons z zs =>
    have : noneL = intL z := by simpa using congrArg List.head? hp
    have hv := congrArg (fun l => l.head?) this
    have h2 : ∀ z : Int, (intL z).head? ≠ some 110 := fun z hz => by
      cases z with
      | ofNat n =>
        have hm : 110 ∈ TL.numL n := List.mem_of_mem_head? hz
        have := TL.numL_digits n 110 hm
        omega
      | negSucc n => simp [intL] at hz
    exact h2 z hv.symm
theorem tot_row {zs : List Int} (hz : ∀ z ∈ zs, z.natAbs < 10 ^ 30) : tot (zs.map intL) ≤ 32 * zs.length := by
  induction zs with
  | nil => simp [tot]
  | cons z zs ih =>
    have h1 := intL_len (hz z List.mem_cons_self)
    have h2 := ih fun u hu => hz u (List.mem_cons_of_mem _ hu)
    have e : tot ((z :: zs).map intL) = (intL z).length + 1 + tot (zs.map intL) := rfl
    rw [e, List.length_cons]; omega
theorem rowL_len {zs : List Int} (hz : ∀ z ∈ zs, z.natAbs < 10 ^ 30) (hl : zs.length ≤ 8) : (rowL zs).length ≤ 260 ∧ Sg (rowL zs) := by
  unfold rowL
  split
  · exact ⟨by decide, fun c hc => by simp at hc; omega⟩
  · have h1 := joinL_len (zs.map intL)
    have h2 := tot_row hz
    refine ⟨by omega, joinL_sg _ fun p hp => ?_⟩
    obtain ⟨z, _, rfl⟩ := List.mem_map.mp hp
    exact intL_sg z
theorem read_row {zs : List Int} (hz : ∀ z ∈ zs, z.natAbs < 10 ^ 30) (hl : zs.length ≤ 8) (cs : Cells) : m_read_numbers [.str (S (rowL zs))] cs = .ok (.ref cs.length) (cs ++ [.lst (zs.map Pv.int)]) := by
  have hb := (rowL_len hz hl).1
  cases hzs : zs with
  | nil => exact read_none cs
  | cons z zr =>
    have hne : zs ≠ [] := by rw [hzs]; simp
    have e : rowL zs = TL.joinL [32] (zs.map intL) := by unfold rowL; rw [hzs]; rfl
    rw [← hzs]
    rw [e] at hb ⊢
    have hfb : firstBad 0 (prt (TL.joinL [32] (zs.map intL))) = none := by
      rw [prt_row hne]
      refine firstBad_none _ 0 fun l h => ?_
      obtain ⟨z, hm, rfl⟩ := List.mem_map.mp h
      exact num_int (hz z hm)
    rw [read_ok (by omega) (row_ne hne) hfb cs, prt_row hne, List.map_map]
    have : ((fun l => Pv.int (val l)) ∘ intL) = Pv.int := funext fun z => congrArg Pv.int (val_int z)
    rw [this]
theorem toPy_zs (zs : List Int) : toPy (.lst (zs.map Pv.int)) = some (.list (zs.map PyData.int)) := toPy_lst (toPys_map fun x _ => rfl)
theorem zs_shaped (zs : List Int) : SeqAt.shaped (.list (zs.map PyData.int)) = true := Shp.shaped (n := 1) (Shp.list fun d hd => by
  obtain ⟨z, _, rfl⟩ := List.mem_map.mp hd
  exact Shp.int z)
theorem turn_ok (z : Int) (hz : Builtin.Int.intBits z ≤ 1048576) (x0 x2 x3 x4 x5 x6 x7 x8 x9 : Option Pv) (cs : Cells) :
    ∃ y2 y3 y4 y5 y6 y7 y8 cs', body_law_2 [x0, some (.int z), x2, x3, x4, x5, x6, x7, x8, x9] cs = .nx [x0, some (.int z), y2, y3, y4, y5, y6, y7, y8, x9] cs' := by
  obtain ⟨c1, e1, g1, f1⟩ := state_ok cs z hz
  obtain ⟨many, c2, e2, d0, d1, g2, f2'⟩ := digit_ok g1 (n := 4) (by decide) (by decide)
  obtain ⟨m, rfl⟩ : ∃ m : Nat, many = (m : Int) := ⟨many.toNat, by omega⟩
  obtain ⟨dn, c3, e3, d2, d3, g3, f3⟩ := digit_ok g2 (n := 9) (by decide) (by decide)
  obtain ⟨n, rfl⟩ : ∃ n : Nat, dn = (n : Int) := ⟨dn.toNat, by omega⟩
  obtain ⟨ys, c4, e4, ly, ry, g4⟩ := fLc_some (src := iRange1 (fCall m_law_digit (fCons (fVar 2) (fCons (fCon (.int 9)) fNil)))) (g := gN 8) (c := fYes) (e := fCall m_law_number (fCons (fVar 2) fNil)) (vs := [8]) (sl := [x0, some (.int z), some (.ref cs.length), some (.int (m : Int)), x4, x5, x6, x7, x8, x9]) (cs := c2) (cs0 := c3)
    (ps := (List.range n).map fun (k : Nat) => .int (k : Int)) (P := fun c => G3 c cs.length) (R := fun y => ∃ z : Int, y = .int z ∧ z.natAbs < 10 ^ 30) (by
      have : rngOk (n : Int) = true := rngOk.of (by omega) (by omega)
      simp [e3, this]) (by simp; omega) (fun v _ c hc => by
      obtain ⟨w, c', e, hw, g, _⟩ := number_ok hc
      exact ⟨.int w, c', by simp [e], ⟨w, rfl, hw⟩, g⟩) g3
  obtain ⟨zs, rfl, hzs⟩ : ∃ zs : List Int, ys = zs.map Pv.int ∧ ∀ z ∈ zs, z.natAbs < 10 ^ 30 := by
    clear e4 ly
    induction ys with
    | nil => exact ⟨[], rfl, fun _ h => by simp at h⟩
    | cons y ys ih =>
      obtain ⟨w, rfl, hw⟩ := ry y List.mem_cons_self
      obtain ⟨zs, rfl, h⟩ := ih fun u hu => ry u (List.mem_cons_of_mem _ hu)
      exact ⟨w :: zs, rfl, fun u hu => by
        rcases List.mem_cons.mp hu with e | e
        · rw [e]; exact hw
        · exact h u e⟩
  have hlen : zs.length ≤ 8 := by simp at ly; omega
  obtain ⟨rl, rsg⟩ := rowL_len hzs hlen
  have h50 : ∀ z ∈ zs, z.natAbs < 10 ^ 50 := fun z hm => Nat.lt_of_lt_of_le (hzs z hm) (by decide)
  have hjoin : fMeth "str" mJoin (fCon (.str (S [32]))) (fCons (fOrT (fLc (iAny (fVar 4)) (gN 9) fYes (fCall mStr (fCons (fVar 9) fNil)) [9]) (fLst (fCons (fCon (.str (S [110, 111, 110, 101]))) fNil))) fNil) [x0, some (.int z), some (.ref cs.length), some (.int (m : Int)), some (.lst (zs.map Pv.int)), some (.lst (zs.map Pv.int)), x6, x7, x8, x9] c4 = .ok (.str (S (rowL zs))) c4 := by
    have hc : fLc (iAny (fVar 4)) (gN 9) fYes (fCall mStr (fCons (fVar 9) fNil)) [9] [x0, some (.int z), some (.ref cs.length), some (.int (m : Int)), some (.lst (zs.map Pv.int)), some (.lst (zs.map Pv.int)), x6, x7, x8, x9] c4 = .ok (.lst (strL (zs.map intL))) c4 := by
      have := fLc_map (L := zs) (f := Pv.int) (h := fun z => .str (S (intL z))) (src := iAny (fVar 4)) (g := gN 9) (c := fYes) (e := fCall mStr (fCons (fVar 9) fNil)) (vs := [9]) (sl := [x0, some (.int z), some (.ref cs.length), some (.int (m : Int)), some (.lst (zs.map Pv.int)), some (.lst (zs.map Pv.int)), x6, x7, x8, x9]) (cs := c4) (by simp) (by omega) (fun u hu => by
        have hlog : u.natAbs.log2 < 1920 := by
          have h1 := hzs u hu
          have : u.natAbs < 2 ^ 100 := Nat.lt_trans h1 (by decide)
          exact Nat.lt_trans (log2_lt this (by decide)) (by decide)
        simp [hlog])
      rw [this]; simp [strL]
    have f1 : fits 1 = true := rfl
    cases hzs' : zs with
    | nil =>
      subst hzs'
      have hj : mJoin (.str (S [32])) [.lst [.str (S noneL)]] c4 = .ok (.str (S noneL)) c4 := join_ok (ls := [noneL]) (by decide) c4
      have hc : fLc (iAny (fVar 4)) (gN 9) fYes (fCall mStr (fCons (fVar 9) fNil)) [9] [x0, some (.int z), some (.ref cs.length), some (.int (m : Int)), some (.lst []), some (.lst []), x6, x7, x8, x9] c4 = .ok (.lst []) c4 := hc
      have ht : tru (.lst []) c4 = .ok false c4 := rfl
      simp [hc, ht, f1, hj, rowL]
    | cons u ur =>
      rw [← hzs']
      have ht : tru (.lst (strL (zs.map intL))) c4 = .ok true c4 := by rw [hzs']; rfl
      have hj := join_ok (ls := zs.map intL) (by have := tot_row hzs; omega) c4
      have er : rowL zs = TL.joinL [32] (zs.map intL) := by unfold rowL; rw [hzs']; rfl
      rw [er]
      simp only [ap_meth, ap_con, Res.bind_ok, ap_cons, ap_orT, hc, ht, if_true, ap_nil, tyIs_str, guard_true, hj]
  obtain ⟨c5, e5, f5⟩ := row_ok h50 (by omega) (.lst (zs.map Pv.int)) (.inl rfl) c4
  obtain ⟨c6, e6, f6⟩ := row_ok h50 (by omega) (.tup (zs.map Pv.int)) (.inr rfl) c5
  have er := read_row hzs hlen
  have e5 : m_numbers_row [.lst (zs.map Pv.int)] c4 = .ok (.str (S (rowL zs))) c5 := e5
  have e6 : m_numbers_row [.tup (zs.map Pv.int)] c5 = .ok (.str (S (rowL zs))) c6 := e6
  have eqs : ∀ (neg : Bool) cs, eqD neg (.lst (zs.map Pv.int)) (.lst (zs.map Pv.int)) cs = .ok (.bl (!neg)) cs := fun neg cs => v_eqSame (toPy_zs zs) (toPy_zs zs) (zs_shaped zs)
  have eqr : ∀ (neg : Bool) (k : Nat) cs, cs[k]? = some (.lst (zs.map Pv.int)) → eqD neg (.ref k) (.lst (zs.map Pv.int)) cs = .ok (.bl (!neg)) cs := fun neg k cs hk => v_eqSame (by rw [deref_ref hk]; exact toPy_zs zs) (toPy_zs zs) (zs_shaped zs)
  have hk6 : (c6 ++ [Co.lst (zs.map Pv.int)])[c6.length]? = some (.lst (zs.map Pv.int)) := by simp
  have er6 := er c6
  have q6 := eqr true c6.length _ hk6
  have isl : mIsB [.ref c6.length, .ty "list"] (c6 ++ [Co.lst (zs.map Pv.int)]) = .ok (.bl true) (c6 ++ [Co.lst (zs.map Pv.int)]) := by
    have : L2.kitB "list" "list" = some true := by decide +kernel
    simp [mIsB, pyTy, this]
  have ha := v_append hk6 (by simp; omega) (.int 1)
  have hty := v_tyList hk6
  have g6 : G3 c6 cs.length := (g4.f0 f5).f0 f6
  obtain ⟨W, hW⟩ : ∃ W, W = Co.lst (zs.map Pv.int) := ⟨_, rfl⟩
  obtain ⟨c7, hc7⟩ : ∃ c7, c7 = (c6 ++ [Co.lst (zs.map Pv.int)]).set c6.length (.lst (zs.map Pv.int ++ [.int 1])) := ⟨_, rfl⟩
  have er7 := er c7
  have hk7 : (c7 ++ [Co.lst (zs.map Pv.int)])[c7.length]? = some (.lst (zs.map Pv.int)) := by simp
  have q7 := eqr true c7.length _ hk7
  have g7 : G3 (c7 ++ [Co.lst (zs.map Pv.int)]) cs.length := by
    refine G3.f0 ?_ (F0.app _ _)
    rw [hc7]
    refine G3.fr (g6.f0 (F0.app _ _)) (Fr.set _ _ _) ?_
    have := (List.getElem?_eq_some_iff.mp g6.ex.choose_spec.choose_spec.choose_spec.1).1
    omega
  have hm3 : m ≤ 3 := by omega
  obtain ⟨t', c8, y8, e8, l8, s8⟩ := rest_ok ((List.range m).map fun (k : Nat) => Pv.int (k : Int)) (rowL zs) (c7 ++ [Co.lst (zs.map Pv.int)]) x0 (some (.int z)) (some (.int (m : Int))) (some (.lst (zs.map Pv.int))) (some (.lst (zs.map Pv.int))) (some (.ref c6.length)) x8 x9 (by
    have : 2 ^ ((List.range m).map fun (k : Nat) => Pv.int (k : Int)).length ≤ 8 := by
      rw [List.length_map, List.length_range]
      exact Nat.pow_le_pow_right (by decide) (show m ≤ 3 from hm3)
    have h2 := Nat.mul_le_mul_left ((rowL zs).length + 6000) this
    omega) rsg g7
  obtain ⟨v, c9, e9, f9, t9⟩ := told_ok (t := t') (by omega) c8
  obtain ⟨w, e10, t10⟩ := due_ok (t := t') (by omega) s8 c9
  have fin := eqA_data t9 t10 (dat_shp t').shaped (dat_nostr t') true
  have rg : rngOk (m : Int) = true := rngOk.of (by omega) (by omega)
  rw [← hc7] at ha
  refine ⟨some (.ref cs.length), some (.int (m : Int)), some (.lst (zs.map Pv.int)), some (.lst (zs.map Pv.int)), some (.str (S t')), some (.ref c6.length), y8, c9, ?_⟩
  simp only [body_law_2, ap_seq, ap_asg, ap_call, ap_cons, ap_nil, ap_var0, ap_varS, ap_con, Res.bind_ok, e1, Res.go_ok, RS.then_nx, List.set_cons_succ, List.set_cons_zero, e2, e4]
  generalize hZ : zs.map Pv.int = Z at *
  have hml : mList [.lst Z] c4 = .ok (.lst Z) c4 := rfl
  have hmt : mTuple [.lst Z] c5 = .ok (.tup Z) c5 := rfl
  simp only [ap_seq, ap_asg, ap_call, ap_cons, ap_nil, ap_var0, ap_varS, ap_con, Res.bind_ok, Res.go_ok, RS.then_nx, List.set_cons_succ, List.set_cons_zero, hml, hjoin]
  simp [e5, hmt, e6, eqs, er6, isl, q6, hty, ha, er7, q7, rg, e8, e9, e10, fin]
theorem cut12 (xs : List Pv) : ∀ v ∈ cut xs none (some 12), v ∈ xs := fun v hv => List.mem_of_mem_drop (List.mem_of_mem_take hv)
theorem tail_ok (cs : Cells) (x0 x1 x2 x3 x4 x5 x6 x7 x8 x9 : Option Pv) : ∃ cs', sRet (fAndV (f2 oEqA (fCall m_numbers_row (fCons (fLst (fCons (f2 oPow (fCon (.int 10)) (fCon (.int 40))) (fCons (f2 oSub (fCon (.int 0)) (f2 oPow (fCon (.int 10)) (fCon (.int 40)))) fNil))) fNil)) (f2 oAdd (f2 oAdd (fCall mStr (fCons (f2 oPow (fCon (.int 10)) (fCon (.int 40))) fNil)) (fCon (.str (S [32, 45])))) (fCall mStr (fCons (f2 oPow (fCon (.int 10)) (fCon (.int 40))) fNil)))) (f2 oEqA (fCall m_numbers_row (fCons (fLst (fCons (fCon (.int 0)) fNil)) fNil)) (fCon (.str (S [48]))))) [x0, x1, x2, x3, x4, x5, x6, x7, x8, x9] cs = .rt (.bl true) cs' := by
  obtain ⟨c1, e1, f1⟩ := row_ok (zs := [10000000000000000000000000000000000000000, 0 - 10000000000000000000000000000000000000000]) (fun z hz => by
    rcases List.mem_cons.mp hz with h | h
    · rw [h]; decide
    · have h : z = 0 - 10000000000000000000000000000000000000000 := by simpa using h
      rw [h]; decide) (by decide) (.lst [.int 10000000000000000000000000000000000000000, .int (0 - 10000000000000000000000000000000000000000)]) (.inl rfl) cs
  obtain ⟨c2, e2, f2'⟩ := row_ok (zs := [0]) (fun z hz => by
    have h : z = 0 := by simpa using hz
    rw [h]; decide) (by decide) (.lst [.int 0]) (.inl rfl) c1
  have p40 : powOk 10 40 = true := by decide +kernel
  have q1 : Nat.log2 10000000000000000000000000000000000000000 < 1920 := by decide +kernel
  have f2_ : fits 2 = true := rfl
  have f1_ : fits 1 = true := rfl
  have l40 : (intL 10000000000000000000000000000000000000000).length = 41 := by decide +kernel
  have fa : fits (41 + 2) = true := rfl
  have fb : fits (41 + 2 + 41) = true := rfl
  have j1 : TL.joinL [32] [intL 10000000000000000000000000000000000000000, intL (0 - 10000000000000000000000000000000000000000)] = intL 10000000000000000000000000000000000000000 ++ [32, 45] ++ intL 10000000000000000000000000000000000000000 := by decide +kernel
  have j2 : TL.joinL [32] [intL 0] = [48] := by decide +kernel
  simp only [List.isEmpty_cons, Bool.false_eq_true, if_false, List.map_cons, List.map_nil] at e1 e2
  rw [j1] at e1
  rw [j2] at e2
  refine ⟨c2, ?_⟩
  obtain ⟨Y, hY⟩ : ∃ Y, intL 10000000000000000000000000000000000000000 = Y := ⟨_, rfl⟩
  rw [hY] at e1 l40
  have e1 : m_numbers_row [Pv.lst [Pv.int 10000000000000000000000000000000000000000, Pv.int (-10000000000000000000000000000000000000000)]] cs = Res.ok (Pv.str (S (Y ++ ([32, 45] ++ Y)))) c1 := by rw [← List.append_assoc]; exact e1
  simp [p40, f2_, f1_, e1, q1, hY, l40, fa, fb, e2, -v_addS, S_append]
theorem lawT : ∀ ns : List Int, ns.length ≤ 63 → (∀ z ∈ ns, Builtin.Int.intBits z ≤ 1048576) → ∃ cs, m_law [.lst (ns.map Pv.int)] [] = .ok (.bl true) cs := by
  intro ns hl hb
  have hit : ∀ v ∈ cut (ns.map Pv.int ++ [Pv.int 0]) none (some 12), ∃ z, v = Pv.int z ∧ Builtin.Int.intBits z ≤ 1048576 := fun v hv => by
    rcases List.mem_append.mp (cut12 _ v hv) with h | h
    · obtain ⟨z, hz, rfl⟩ := List.mem_map.mp h
      exact ⟨z, rfl, hb z hz⟩
    · exact ⟨0, by simpa using h, by decide⟩
  obtain ⟨sl', cs', e, y0, y1, y2, y3, y4, y5, y6, y7, y8, y9, hy⟩ := forL_inv (body := gTurn (gN 1) body_law_2) (P := fun sl _ => ∃ x0 x1 x2 x3 x4 x5 x6 x7 x8 x9, sl = [x0, x1, x2, x3, x4, x5, x6, x7, x8, x9]) (cut (ns.map Pv.int ++ [Pv.int 0]) none (some 12)) [some (.lst (ns.map Pv.int)), none, none, none, none, none, none, none, none, none] [] (fun v hv sl cs p => by
    obtain ⟨z, rfl, hz⟩ := hit v hv
    obtain ⟨x0, x1, x2, x3, x4, x5, x6, x7, x8, x9, rfl⟩ := p
    obtain ⟨y2, y3, y4, y5, y6, y7, y8, cs', e⟩ := turn_ok z hz x0 x2 x3 x4 x5 x6 x7 x8 x9 cs
    exact ⟨_, cs', e, _, _, _, _, _, _, _, _, _, _, rfl⟩) ⟨_, _, _, _, _, _, _, _, _, _, rfl⟩
  have hf : fits (ns.length + 1) = true := decide_eq_true (by omega)
  have f1 : fits 1 = true := rfl
  obtain ⟨c2, e2⟩ := tail_ok cs' y0 y1 y2 y3 y4 y5 y6 y7 y8 y9
  refine ⟨c2, ?_⟩
  rw [hy] at e
  unfold m_law body_law
  rw [ap_fnSem]
  simp only [ap_seq]
  have e0 : sFor (gN 1) (iAny (fSlc (f2 oAdd (fVar 0) (fLst (fCons (fCon (.int 0)) fNil))) fNoPart (fPart (fCon (.int 12))))) body_law_2 (slots 10 [.lst (ns.map Pv.int)]) [] = .nx [y0, y1, y2, y3, y4, y5, y6, y7, y8, y9] cs' := by
    simp [hf, f1, e]
  rw [e0, RS.then_nx, e2]
  rfl
end Lw

set_option Elab.async false
set_option linter.all false
set_option maxRecDepth 100000
open PySem PySem.W PyProof.Rows
set_option maxHeartbeats 0 in
theorem PySem.Challenge.cw_alwayslines_k15_rows_of_numbers_holds : PySem.Challenge.rw_alwayslines_k15_rows_of_numbers.Holds := by
  w_on; o_law; k_head; (case hw => w_witness2)
  k_fill
  refine L2.walk_ofB (l := PySem.Challenge.rw_alwayslines_k15_rows_of_numbers) (n := 63) (k := 5) (x := "_law_script") (CX := fun w => L2.CX PySem.Challenge.pw_alwayslines_k15_rows_of_numbers w) (sp := fun w => Lw.spLaw _) rfl (by decide) rfl ⟨rfl, by decide, by decide⟩ (fun w h Y => PySem.W.kIn_of Y) ?F (fun _ _ a ns hl hb _ hS => ⟨a, ns, rfl, hS, hl, hb, fun _ => rfl⟩) (fun _ _ _ _ _ h => AL.noCX h)
  case F =>
    intro w mg fa h KX G hmg
    refine' Lw.all_mk Lw.lawT KX G hmg ?a_law_state ?l_law_state ?c_law_state ?k_law_state ?a_law_digit ?l_law_digit ?c_law_digit ?k_law_digit ?a_is_figures ?l_is_figures ?c_is_figures ?k_is_figures ?a_is_number ?l_is_number ?c_is_number ?k_is_number ?a_read_numbers ?l_read_numbers ?c_read_numbers ?k_read_numbers ?a_law_number ?l_law_number ?c_law_number ?k_law_number ?a_law_changed ?l_law_changed ?c_law_changed ?k_law_changed ?a_law_told ?l_law_told ?c_law_told ?k_law_told ?a_law_is_number ?l_law_is_number ?c_law_is_number ?k_law_is_number ?a_law_due ?l_law_due ?c_law_due ?k_law_due ?a_all_figures ?l_all_figures ?c_all_figures ?k_all_figures ?a_numbers_row ?l_numbers_row ?c_numbers_row ?k_numbers_row ?a_law ?l_law ?c_law ?k_law ?a_FIGURES ?r_FIGURES ?a_STEP ?r_STEP ?a_STEP_FIGURES ?r_STEP_FIGURES ?a_MOST_FIGURES ?r_MOST_FIGURES ?a_NONE ?r_NONE ?a_BadRow ?ex_BadRow ?ty_BadRow ?ic_BadRow ?xL_BadRow ?rv_BadRow ?sa_BadRow ?ga_BadRow ?gg_BadRow ?kp_BadRow ?hd_BadRow ?in_BadRow ?ti_BadRow ?li_BadRow ?ci_BadRow ?ki_BadRow ?no_BadRow_row ?no_BadRow_place ?sb_BadRow_BadRow ?kt_BadRow_BadRow ?z_abs ?z_int ?z_all ?z_len ?z_enumerate ?z_str ?z_list ?z_range ?z_isinstance ?z_tuple
    (case a_law_state => k_is); (case l_law_state => k_is); (case c_law_state => k_is); (case k_law_state => k_is); (case a_law_digit => k_is); (case l_law_digit => k_is); (case c_law_digit => k_is); (case k_law_digit => k_is); (case a_is_figures => k_is); (case l_is_figures => k_is); (case c_is_figures => k_is); (case k_is_figures => k_is); (case a_is_number => k_is); (case l_is_number => k_is); (case c_is_number => k_is); (case k_is_number => k_is); (case a_read_numbers => k_is); (case l_read_numbers => k_is); (case c_read_numbers => k_is); (case k_read_numbers => k_is); (case a_law_number => k_is); (case l_law_number => k_is); (case c_law_number => k_is); (case k_law_number => k_is); (case a_law_changed => k_is); (case l_law_changed => k_is); (case c_law_changed => k_is); (case k_law_changed => k_is); (case a_law_told => k_is); (case l_law_told => k_is); (case c_law_told => k_is); (case k_law_told => k_is); (case a_law_is_number => k_is); (case l_law_is_number => k_is); (case c_law_is_number => k_is); (case k_law_is_number => k_is); (case a_law_due => k_is); (case l_law_due => k_is); (case c_law_due => k_is); (case k_law_due => k_is); (case a_all_figures => k_is); (case l_all_figures => k_is); (case c_all_figures => k_is); (case k_all_figures => k_is); (case a_numbers_row => k_is); (case l_numbers_row => k_is); (case c_numbers_row => k_is); (case k_numbers_row => k_is); (case a_law => k_is); (case l_law => k_is); (case c_law => k_is); (case k_law => k_is); (case a_FIGURES => k_is); (case r_FIGURES => exact ⟨_, rfl⟩); (case a_STEP => k_is); (case r_STEP => exact ⟨_, rfl⟩); (case a_STEP_FIGURES => k_is); (case r_STEP_FIGURES => exact ⟨_, rfl⟩); (case a_MOST_FIGURES => k_is); (case r_MOST_FIGURES => exact ⟨_, rfl⟩); (case a_NONE => k_is); (case r_NONE => exact ⟨_, rfl⟩); (case a_BadRow => k_is); (case ex_BadRow => k_is); (case ty_BadRow => k_is); (case ic_BadRow => k_is); (case xL_BadRow => k_is); (case rv_BadRow => decide +kernel); (case sa_BadRow => k_is); (case ga_BadRow => k_is); (case gg_BadRow => k_is); (case kp_BadRow => k_is); (case hd_BadRow => k_is); (case in_BadRow => k_is); (case ti_BadRow => k_is); (case li_BadRow => k_is); (case ci_BadRow => k_is); (case ki_BadRow => k_is); (case no_BadRow_row => k_is); (case no_BadRow_place => k_is); (case sb_BadRow_BadRow => first | rfl | k_is); (case kt_BadRow_BadRow => first | rfl | k_is); (case z_abs => k_is); (case z_int => k_is); (case z_all => k_is); (case z_len => k_is); (case z_enumerate => k_is); (case z_str => k_is); (case z_list => k_is); (case z_range => k_is); (case z_isinstance => k_is); (case z_tuple => k_is)

